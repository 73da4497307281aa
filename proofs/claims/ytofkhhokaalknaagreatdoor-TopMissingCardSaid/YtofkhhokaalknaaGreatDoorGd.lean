/-
  Evidence, suspects and probes (part 4).
-/
import Derived.Test.YtofkhhokaalknaaGreatDoorGc
set_option linter.unusedSimpArgs false
set_option linter.unusedVariables false
set_option linter.unusedSectionVars false
namespace Go.Proofs.YtofkhhokaalknaaGreatDoor
open Go GoV
set_option maxRecDepth 100000
def AR : Rch:=⟨.empty,-1,1,50,50,0,0,0,0,1,0,1⟩
def AW : Wav:=⟨0,[(10,10)],[(4,4)],[(3,3)]⟩
def AD : Dis:=⟨.empty,4,0,0,[AR],[⟨.empty,0,0,-1⟩],[],[],[]⟩
def AX : Evd:=⟨[AW],[⟨2,0,9⟩,⟨4,0,5⟩]⟩
def aq : Cps:=⟨some 1,some 1,some 1,some 2,.nils,.nils,.nils,.nils⟩
theorem ALLI_nil {α : Type} {P : Nat → α → Prop} : ALLI P []:=by
  intro i y e
  simp at e
theorem ALLI_one {α : Type} {P : Nat → α → Prop} {x : α} (h : P 0 x) : ALLI P [x]:=by
  intro i y e
  match i with
  | 0 => simp at e; subst e; exact h
  | i + 1 => simp at e
theorem A_ok : ∀ x ∈ AD.rs,x.OK:=by
  intro x hx
  simp only [AD,List.mem_singleton] at hx
  subst hx
  unfold AR Rch.OK I64
  simp
theorem A_dv : DV AD aq.cs aq.gs aq.ds aq.ws:=⟨SL_nils 2,SL_nils 10,SL_nils 4,⟨rfl,rfl,rfl,rfl⟩,fun _ => ⟨rfl,rfl,rfl,rfl⟩,fun _ => ⟨rfl,rfl,rfl,rfl⟩,fun _ => ⟨rfl,rfl,rfl,rfl⟩⟩
theorem A_X : XC AD = 0:=by
  unfold XC
  rw [if_pos (by decide),if_pos]
  exact ⟨by decide,by decide,by decide,ALLI_one (by decide),ALLI_nil,ALLI_one (by decide),ALLI_nil,ALLI_nil⟩
theorem RGS_one {a b : Int} (h : RG (a,b)) : RGS [(a,b)] 1:=⟨rfl,fun p hp => by simp only [List.mem_singleton] at hp; subst hp; exact h⟩
theorem A_E : EOK AD AX:=by
  refine ⟨A_X,by decide,by decide,⟨by decide,RGS_one ⟨by decide,by decide,by decide⟩,RGS_one ⟨by decide,by decide,by decide⟩,RGS_one ⟨by decide,by decide,by decide⟩,trivial⟩,⟨by decide,by decide,by decide,by decide,by decide,by decide,trivial⟩⟩
theorem A_b : ∀ w ∈ AX.ws,w.hs.length ≤ 1000000 ∧ w.os.length ≤ 1000000 ∧ w.ts.length ≤ 1000000:=by
  intro w hw
  simp only [AX,List.mem_singleton] at hw
  subst hw
  decide
theorem A_be {v : Int} (hv : 0 ≤ v) : BE (los AR) v = v ∧ WO (los AR) v = v:=by
  unfold BE WO LO HI UPD los AR
  simp only []
  split
  · omega
  · simp
    omega
theorem A_rea {w : Int} (h : 0 ≤ w ∧ w ≤ 1073741824) : REA AR w = w:=by
  refine LST_eq ⟨h.1,by omega,fun i h0 h1 => ?_,fun i h0 h1 => ?_⟩
  · rw [(A_be h0).1]; omega
  · rw [(A_be (by omega)).1]; omega
theorem A_mos {w : Int} (h : 0 ≤ w ∧ w ≤ 1073741824) : MOS AR w = w:=by
  have : LST (fun v => w < WO (los AR) v) 1073741825 = w + 1:=by
    refine LST_eq ⟨by omega,by omega,fun i h0 h1 => ?_,fun i h0 h1 => ?_⟩
    · rw [(A_be h0).2]; omega
    · rw [(A_be (by omega)).2]; omega
  unfold MOS
  rw [this]
  omega
theorem A_exp {set : List Int} {a b : Int} (hl : LV AD AX set AW [(0,0)] 0 = (a,b)) (h : (0 ≤ a ∧ a ≤ 100) ∧ 0 ≤ b ∧ b ≤ 100) (hm : MT AX.ss set 1 (0 : Nat) (10,10) = (10,10)) : EXP AD AX set ↔ a ≤ 10 ∧ 10 ≤ b:=by
  have fs:=FOL_succ (D:=AD) (X:=AX) (set:=set) (w:=AW) (k:=0) (hs:=[(0,0)]) (x:=AR) rfl rfl
  have fh : FHD AD AX set AW [(0,0)] 0 AR = (max a 10,min b 10):=by
    unfold FHD
    rw [hl]
    simp only
    rw [A_rea ⟨h.1.1,by omega⟩,A_mos (by omega),show (AW.hs[0]?).getD (0,0) = (10,10) from rfl,hm]
    simp only
    rw [show min 1073741824 b = b by omega]
  have fk : FOK AD AX set AW [(0,0)] 0 AR ↔ a ≤ 10 ∧ 10 ≤ b:=by
    unfold FOK
    rw [fh,hl]
    simp only
    rw [A_rea ⟨h.1.1,by omega⟩]
    omega
  constructor
  · intro hE
    apply fk.1
    apply Classical.byContradiction
    intro hn
    exact hE AW (by simp [AX]) (fs.2 hn)
  · intro hab w hw
    simp only [AX,List.mem_singleton] at hw
    subst hw
    rw [show FOL AD AX set AW AD.rs.length = some _ from fs.1 (fk.2 hab)]
    simp
theorem A_T0 : TB AD AX 0 = false:=by
  have:=A_exp (set:=BITS 0 AX.ss.length) (a:=7) (b:=7) (by decide) (by decide) (by decide)
  unfold TB
  rw [decide_eq_false_iff_not,this]
  decide
theorem A_T1 : TB AD AX 1 = true:=TB_iff.2 ((A_exp (set:=BITS 1 AX.ss.length) (a:=3) (b:=12) (by decide) (by decide) (by decide)).2 (by decide))
theorem A_T2 : TB AD AX 2 = true:=TB_iff.2 ((A_exp (set:=BITS 2 AX.ss.length) (a:=7) (b:=12) (by decide) (by decide) (by decide)).2 (by decide))
theorem A_min : MINL (TB AD AX) AX.ss.length (2 ^ AX.ss.length) = [1,2]:=by
  show MINL (TB AD AX) 2 4 = [1,2]
  have m0 : ¬ MIN (TB AD AX) 2 0:=fun h => by have:=h.1; rw [A_T0] at this; cases this
  have m1 : MIN (TB AD AX) 2 1:=⟨A_T1,fun j hj hb => by
    match j,hj with
    | 0,_ => exact A_T0
    | 1,_ => exact absurd hb (by decide)⟩
  have m2 : MIN (TB AD AX) 2 2:=⟨A_T2,fun j hj hb => by
    match j,hj with
    | 0,_ => exact absurd hb (by decide)
    | 1,_ => exact A_T0⟩
  have m3 : ¬ MIN (TB AD AX) 2 3:=fun h => by have:=h.2 0 (by decide) (by decide); rw [show ANDN 3 (2 ^ 0) = 2 from by decide,A_T2] at this; cases this
  rw [MINL_succ,MINL_succ,MINL_succ,MINL_succ,if_neg m0,if_pos m1,if_pos m2,if_neg m3]
  rfl
theorem c_exact (a : Int) : ap Tryz.prog pol 16 [.vs 1 [I a] (some 1)] = some (.ret (.vs 2 [rg (a,a)] none)):=by
  rw [ap_eq _ Tryz.func16 rfl Tryz.ntmps16 Tryz.results16 (by kernel_rfl) rfl (by exact Nat.le_of_ble_eq_true rfl)]
  simp (maxSteps:=999999) only [E0,seval,-Int.reduceNatCast',NUM,WW_loop]
def AP : List Prb:=[⟨7,[0],.vs 1 [I 0] (some 1)⟩]
theorem A_ix1 : ap Tryz.prog pol 80 [.vs 1 [I 1] none,I 2] = some (.ret (I (-1))):=by
  rw [ap_eq _ Tryz.func80 rfl Tryz.ntmps80 Tryz.results80 (by kernel_rfl) rfl (by exact Nat.le_of_ble_eq_true rfl)]
  simp (maxSteps:=999999) only [E0,seval,-Int.reduceNatCast',NUM,WW_loop]
theorem A_ix0 : ap Tryz.prog pol 80 [.nils,I 1] = some (.ret (I (-1))):=by
  rw [ap_eq _ Tryz.func80 rfl Tryz.ntmps80 Tryz.results80 (by kernel_rfl) rfl (by exact Nat.le_of_ble_eq_true rfl)]
  simp (maxSteps:=999999) only [E0,seval,-Int.reduceNatCast',NUM,WW_loop]
theorem A_ct1 : ap Tryz.prog pol 55 [.vs 1 [I 1] none,I 2] = some (.ret (.bool false)):=by
  rw [ap_eq _ Tryz.func55 rfl Tryz.ntmps55 Tryz.results55 (by kernel_rfl) rfl (by exact Nat.le_of_ble_eq_true rfl)]
  simp (maxSteps:=999999) only [E0,seval,-Int.reduceNatCast',NUM,A_ix1]
theorem A_ct0 : ap Tryz.prog pol 55 [.nils,I 1] = some (.ret (.bool false)):=by
  rw [ap_eq _ Tryz.func55 rfl Tryz.ntmps55 Tryz.results55 (by kernel_rfl) rfl (by exact Nat.le_of_ble_eq_true rfl)]
  simp (maxSteps:=999999) only [E0,seval,-Int.reduceNatCast',NUM,A_ix0]
theorem A_s0 (c : Option Nat) : ap Tryz.prog pol 35 [.vs 1 [I 0] c] = some (.ret (.tup [I 1,.bool true])):=c_set [0] (.vs 1 [I 0] c) (RV_vs [0] c) (by decide)
theorem A_s1 (c : Option Nat) : ap Tryz.prog pol 35 [.vs 1 [I 1] c] = some (.ret (.tup [I 2,.bool true])):=c_set [1] (.vs 1 [I 1] c) (RV_vs [1] c) (by decide)
set_option maxHeartbeats 4000000 in
theorem A_read : ∃ H',callF G Tryz.prog pol 31 [.vs 1 (([1,2].map fun n => BITS n 2).map elt) none,.vs 2 (AP.map prb) (some 1)] H1 = some (.ret (.tup [.ptr 3 1 0 0,I 0]),H'):=by
  have hT : (([1,2].map fun n => BITS n 2).map elt) = [.vs 1 [I 0] none,.vs 1 [I 1] none]:=by kernel_rfl
  have hP : AP.map prb = [.agg [I 7,.vs 1 [I 0] (some 1)]]:=rfl
  rw [hT,hP]
  rw [callF_eq _ _ Tryz.func31 rfl Tryz.ntmps31 Tryz.results31 (by kernel_rfl) rfl (by exact Nat.le_of_ble_eq_true rfl)]
  have b1 : IntKind.i64.wrap ((BitVec.ofInt IntKind.i64.bits 1 &&& BitVec.ofInt IntKind.i64.bits 1).toNat : Nat) = 1:=ANDc 1 1 (by decide) (by decide)
  have b2 : IntKind.i64.wrap ((BitVec.ofInt IntKind.i64.bits 1 &&& BitVec.ofInt IntKind.i64.bits 2).toNat : Nat) = 0:=ANDc 1 2 (by decide) (by decide)
  have b3 : IntKind.i64.wrap (1 * 2 ^ min 0 IntKind.i64.bits) = 1:=SHLn 0 (by decide)
  have b4 : IntKind.i64.wrap ((BitVec.ofInt IntKind.i64.bits 0 ||| BitVec.ofInt IntKind.i64.bits 1).toNat : Nat) = 1:=ORc 0 1 (by decide) (by decide)
  simp (maxSteps:=999999) only [E0,seval,-Int.reduceNatCast',NUM,WW_loop,A_ct0,A_ct1,A_s0,A_s1,PV.fits,PV.cells,List.all_cons,List.all_nil,b1,b2,b3,b4]
  rw [if_pos (by kernel_rfl)]
  exact ⟨_,rfl⟩
theorem A_rdok : ∃ H',RDOK [1,2] 2 AP (some 1) H':=by
  obtain ⟨H',hR⟩:=A_read
  rcases c_read [1,2] 2 (by decide) (by decide) (by decide) AP (.vs 2 (AP.map prb) (some 1)) rfl (by decide) (fun _ => ⟨_,rfl⟩) (fun p hp => by
    simp only [AP,List.mem_singleton] at hp
    subst hp
    exact ⟨RV_vs [0] (some 1),by decide⟩) _ hR with ⟨v,e,H2,he,h⟩ | ⟨H2,h,h1,h2,h3,h4,h5⟩
  · simp only [Option.some.injEq,Prod.mk.injEq,CR.ret.injEq,PV.tup.injEq,List.cons.injEq,PV.int.injEq] at h
    exact absurd h.1.2.1.2.symm he
  · exact ⟨H2,hR.trans h,h1,h2,h3,h4,h5⟩
theorem TP_frz : ∀ (H : Heap) (t : TR),freezeArg H (TP t) = (TP t,H)
  | H,.leaf n => by
    show (PV.agg [I 0,.vs 1 (strip0L ((BITS n 12).map I)) none,.nils],H) = _
    rw [strip0_ints]; rfl
  | H,.node p a b => by
    show (PV.agg [I p,.nils,.vs 3 [strip0 (TP a),strip0 (TP b)] (some 2)],H) = _
    rw [(TP_strip a).1,(TP_strip b).1]; rfl
set_option maxHeartbeats 4000000 in
theorem c_awake : ap Tryz.prog pol 4 [] = some (.ret (.bool true)):=by
  obtain ⟨c,v,em,hc,hv⟩:=c_minimal A_ok A_dv A_b (q:=aq) (by decide)
  have h0:=hc.2 A_E
  obtain ⟨L',_,rfl,hL⟩:=hv h0
  subst h0
  rw [hL (by rw [A_min]; decide)] at em
  obtain ⟨H',rd⟩:=A_rdok
  have eb:=c_best rd
  have ef:=c_pfollow rd [1] (.vs 1 [I 1] (some 1)) (RV_vs [1] (some 1)) (by decide) (by decide) (by decide)
  rw [show BITS (FW (PMS [1,2] AP) (SETB (-1) 0 [1]).1 (TRE (PMS [1,2] AP) (2 ^ [1,2].length - 1))).2 12 = [1] by decide,show (FW (PMS [1,2] AP) (SETB (-1) 0 [1]).1 (TRE (PMS [1,2] AP) (2 ^ [1,2].length - 1))).1 = 7 by decide] at ef
  rw [show (CH (PMS [1,2] AP) (2 ^ [1,2].length - 1)).1 = 7 by decide] at eb
  have hT : (([1,2].map fun n => BITS n 2).map elt) = [.vs 1 [I 0] none,.vs 1 [I 1] none]:=by kernel_rfl
  have hT2 : [[(0 : Int)],[1]].map elt = [.vs 1 [I 0] none,.vs 1 [I 1] none]:=rfl
  have hP : AP.map prb = [.agg [I 7,.vs 1 [I 0] (some 1)]]:=rfl
  rw [hT,hP] at eb ef
  rw [hT2] at em
  generalize TRE (PMS [1,2] AP) (2 ^ [1,2].length - 1) = tr at eb ef
  rw [ap_eq _ Tryz.func4 rfl Tryz.ntmps4 Tryz.results4 (by kernel_rfl) rfl (by exact Nat.le_of_ble_eq_true rfl)]
  change ap Tryz.prog pol 7 [.agg [.str .empty,I 4,I 0,I 0,.vs 12 [.agg [.str .empty,I (-1),I 1,I 50,I 50,I 0,I 0,I 0,I 0,I 1,I 0,I 1]] (some 1),.vs 4 [.agg [.str .empty,I 0,I 0,I (-1)]] (some 1),.nils,.nils,.nils,.nils],
    .agg [.vs 4 [.agg [I 0,.vs 2 [.agg [I 10,I 10]] none,.vs 2 [.agg [I 4,I 4]] none,.vs 2 [.agg [I 3,I 3]] none]] (some 1),.vs 3 [.agg [I 2,I 0,I 9],.agg [I 4,I 0,I 5]] (some 2)]] = _ at em
  simp (maxSteps:=999999) only [E0,seval,-Int.reduceNatCast',NUM,c_exact,em,eb,ef,TP_all,TPC,TP_frz]
def NUMS (k : Nat) : List Int:=(List.range k).map Int.ofNat
theorem NUMS_len (k : Nat) : (NUMS k).length = k:=by simp [NUMS]
theorem NUMS_succ (k : Nat) : NUMS (k + 1) = NUMS k ++ [(k : Int)]:=by unfold NUMS; rw [List.range_succ,List.map_append]; rfl
theorem NUMS_mem {k i : Nat} (h : i < k) : (i : Int) ∈ NUMS k:=List.mem_map.2 ⟨i,List.mem_range.2 h,rfl⟩
def CN (mm : List (Int × PV)) (B : Int) (seen : Int → Prop) : Prop:=(∀ x,aget mm x = none ∨ ∃ c : Int,aget mm x = some (I c) ∧ 1 ≤ c ∧ c ≤ B) ∧ ∀ x,seen x → aget mm x ≠ none
theorem c_named1 (n a : Int) : ap Tryz.prog pol 27 [I n,I a] = some (.ret (.bool (decide (0 < n)))):=by
  rw [ap_eq _ Tryz.func27 rfl Tryz.ntmps27 Tryz.results27 (by kernel_rfl) rfl (by exact Nat.le_of_ble_eq_true rfl)]
  by_cases h : 0 < n <;> simp (maxSteps:=999999) only [E0,seval,-Int.reduceNatCast',h]
theorem c_cnt1 (x : Int) (mm : List (Int × PV)) (B : Int) (seen : Int → Prop) (hc : CN mm B seen) (L : List (List Int)) (H : Heap) (h2 : H.rows 3 = some (.map (imap mm))) (h3 : H.rows 4 = some (.gro 1 [.map 3] 0)) (h1 : H.rows 2 = some (.gro 1 [.vs 1 (L.map elt) none] 0)) :
    ∃ b : Bool,callF G Tryz.prog pol 48 [I x,.rop [.fn 27 []],.ptr 4 1 0 0,.ptr 2 1 0 0] H = some (.ret (.bool b),⟨H.rows,H.next + 1⟩) ∧ (seen x → b = true):=by
  rw [callF_eq _ _ Tryz.func48 rfl Tryz.ntmps48 Tryz.results48 (by kernel_rfl) rfl (by exact Nat.le_of_ble_eq_true rfl)]
  rcases hc.1 x with h | ⟨c,h,hc1,hc2⟩
  · refine ⟨false,?_,fun g => absurd h (hc.2 x g)⟩
    simp (maxSteps:=999999) only [E0,seval,-Int.reduceNatCast',NUM,MAPI,h1,h2,h3,h,c_named1]
  · refine ⟨true,?_,fun _ => rfl⟩
    simp (maxSteps:=999999) only [E0,seval,-Int.reduceNatCast',NUM,MAPI,h1,h2,h3,h,c_named1,(show 0 < c by omega)]
set_option maxHeartbeats 4000000 in
theorem c_chosen (l : List Int) (hl : l.length ≤ 1000) (r0 : Nat) (mm : List (Int × PV)) (B : Int) (seen : Int → Prop) (hc : CN mm B seen) (L : List (List Int)) (H : Heap) (h2 : H.rows 3 = some (.map (imap mm))) (h3 : H.rows 4 = some (.gro 1 [.map 3] 0)) (h1 : H.rows 2 = some (.gro 1 [.vs 1 (L.map elt) none] 0)) (hr0 : H.rows r0 = some (.gro 1 (l.map I) 0)) (hn : 4 < H.next ∧ r0 < H.next) (R : Option (CR × Heap))
    (hX : callF G Tryz.prog pol 47 [.gsl 1 r0 l.length 0 l.length,.fn 48 [.rop [.fn 27 []],.ptr 4 1 0 0,.ptr 2 1 0 0]] H = R) :
    ∃ H' r1,∃ l' : List Int,R = some (.ret (.gsl 1 r1 l'.length 0 l'.length),H') ∧ H'.rows r1 = some (.gro 1 (l'.map I) 0) ∧ l'.length ≤ l.length ∧ ∀ x ∈ l,seen x → x ∈ l':=by
  subst hX
  rw [callF_eq _ _ Tryz.func47 rfl Tryz.ntmps47 Tryz.results47 (by kernel_rfl) rfl (by exact Nat.le_of_ble_eq_true rfl)]
  simp (maxSteps:=999999) only [E0,seval,-Int.reduceNatCast',NUM]
  generalize hL : W _ (.loop _) _ = L0
  obtain ⟨ex,s,rfl,rfl,r1,l',h4,hr1,hlt,hll,hin,hd,hf⟩:=loop_at hL (α:=Nat) (fun k => l.length - k)
    (fun s0 k s => k ≤ l.length ∧ (∃ r1,∃ l' : List Int,s.tmps 4 = .gsl 1 r1 l'.length 0 l'.length ∧ s.H.rows r1 = some (.gro 1 (l'.map I) 0) ∧ (r1 < s.H.next ∧ H.next < r1) ∧ l'.length ≤ k ∧ ∀ x ∈ l.take k,seen x → x ∈ l') ∧ (∀ i < H.next,s.H.rows i = H.rows i) ∧ s.tmps 9 = I k ∧ s.tmps 8 = I l.length ∧ s.tmps 7 = .gsl 1 r0 l.length 0 l.length ∧ s.tmps 1 = .fn 48 [.rop [.fn 27 []],.ptr 4 1 0 0,.ptr 2 1 0 0] ∧ s.defers = [] ∧ s.fid = H.next)
    (fun s0 ex s => ex = .exit 0 ∧ ∃ r1,∃ l' : List Int,s.tmps 4 = .gsl 1 r1 l'.length 0 l'.length ∧ s.H.rows r1 = some (.gro 1 (l'.map I) 0) ∧ r1 < s.H.next ∧ l'.length ≤ l.length ∧ (∀ x ∈ l,seen x → x ∈ l') ∧ s.defers = [] ∧ s.fid = H.next) 0
    (by simp (maxSteps:=999999) only [E0,seval,-Int.reduceNatCast',NUM]
        refine ⟨Nat.zero_le _,⟨_,[],rfl,by simp (maxSteps:=999999) only [E0,seval,-Int.reduceNatCast',List.map_nil],by omega,Nat.le_refl _,by simp⟩,fun i hi => ?_⟩
        simp (maxSteps:=999999) only [E0,seval,-Int.reduceNatCast',(show ¬ i = H.next + 1 by omega)]) (by
      rintro k s r hW ⟨hk,⟨r1,l',h4,hr1,⟨hlt,hgt⟩,hll,hin⟩,hfr,h9,h8,h7,h1',hd,hf⟩
      by_cases hp : k < l.length
      rotate_left
      · simp (maxSteps:=999999) only [E0,seval,-Int.reduceNatCast',NUM,h9,h8,hd,hf,(show ¬ (k : Int) < l.length by omega)] at hW
        subst hW
        rw [List.take_of_length_le (by omega)] at hin
        refine rd_exit ⟨rfl,r1,l',?_,?_,hlt,by omega,hin,?_,?_⟩ <;> simp (maxSteps:=999999) only [E0,seval,-Int.reduceNatCast',h4,hr1,hd,hf]
      have e0 : l[k]? = some l[k]:=List.getElem?_eq_getElem hp
      have e1:=ints_get e0
      generalize l[k] = x at *
      have hrr : s.H.rows r0 = some (.gro 1 (l.map I) 0):=by rw [hfr r0 hn.2]; exact hr0
      obtain ⟨b,ec,hb⟩:=c_cnt1 x mm B seen hc L s.H (by rw [hfr 3 (by omega)]; exact h2) (by rw [hfr 4 (by omega)]; exact h3) (by rw [hfr 2 (by omega)]; exact h1)
      have tk : ∀ z ∈ l.take (k + 1),z ∈ l.take k ∨ z = x:=fun z hz => by
        rw [List.take_add_one,e0] at hz
        rcases List.mem_append.1 hz with h | h
        · exact .inl h
        · simp at h; exact .inr h
      cases b with
      | false =>
        simp (maxSteps:=999999) only [E0,seval,-Int.reduceNatCast',NUM,h9,h8,h7,h1',hrr,e1,ec,hd,hf,List.length_map,Nat.zero_add,Int.toNat_natCast,(show (k : Int) < l.length by omega),(show (0 : Int) ≤ k by omega),(i64_in (x:=(k : Int) + 1) (by unfold I64; omega))] at hW
        subst hW
        refine rd_next (k + 1) ?_ (show l.length - (k + 1) < l.length - k by omega)
        simp (maxSteps:=999999) only [E0,seval,-Int.reduceNatCast',h4,h8,h7,h1',hd]
        refine ⟨by omega,⟨r1,l',rfl,hr1,by omega,by omega,fun z hz hs => ?_⟩,hfr,by simp⟩
        rcases tk z hz with h | rfl
        · exact hin z h hs
        · cases hb hs
      | true =>
        have al : ([I x].all fun e => e.fits 1) = true:=by simp [PV.fits,PV.cells]
        simp (maxSteps:=999999) only [E0,seval,-Int.reduceNatCast',NUM,h4,h9,h8,h7,h1',hrr,hr1,e1,ec,hd,hf,al,List.length_map,Nat.zero_add,Int.toNat_natCast,(show (k : Int) < l.length by omega),(show (0 : Int) ≤ k by omega),(i64_in (x:=(k : Int) + 1) (by unfold I64; omega)),(show l'.length + 1 ≤ 67108864 by omega),(show l'.length ≤ 67108863 by omega)] at hW
        subst hW
        refine rd_next (k + 1) ?_ (show l.length - (k + 1) < l.length - k by omega)
        simp (maxSteps:=999999) only [E0,seval,-Int.reduceNatCast',h8,h7,h1',hd]
        refine ⟨by omega,⟨r1,l' ++ [x],by simp,by simp (maxSteps:=999999) only [E0,seval,-Int.reduceNatCast',List.map_append,List.map_cons,List.map_nil],by omega,by simp; omega,fun z hz hs => ?_⟩,fun i hi => ?_,by simp⟩
        · rcases tk z hz with h | rfl
          · exact List.mem_append_left _ (hin z h hs)
          · simp
        · simp (maxSteps:=999999) only [E0,seval,-Int.reduceNatCast',(show ¬ i = r1 by omega)]
          exact hfr i hi)
  simp (maxSteps:=999999) only [E0,seval,-Int.reduceNatCast',hd,hf,h4]
  exact ⟨_,r1,l',rfl,hr1,hll,hin⟩
theorem CN_0 : CN [] 0 (fun _ => False):=⟨fun x => .inl rfl,fun x h => h.elim⟩
theorem CN_step {mm : List (Int × PV)} {B : Int} {seen : Int → Prop} (h : CN mm B seen) (hB : 0 ≤ B) (x : Int) (c : Int) (hc : lookA (I 0) false (aget mm x) = I c) : CN (aset mm x (I (c + 1))) (B + 1) (fun z => seen z ∨ z = x) ∧ 0 ≤ c ∧ c ≤ B:=by
  have hcc : 0 ≤ c ∧ c ≤ B:=by
    rcases h.1 x with e | ⟨d,e,h1,h2⟩
    · rw [e] at hc; cases hc; exact ⟨Int.le_refl _,hB⟩
    · rw [e] at hc; cases hc; omega
  refine ⟨⟨fun z => ?_,fun z hz => ?_⟩,hcc⟩
  · rw [aget_aset]
    split
    · exact .inr ⟨c + 1,rfl,by omega,by omega⟩
    · rcases h.1 z with e | ⟨d,e,h1,h2⟩
      · exact .inl e
      · exact .inr ⟨d,e,h1,by omega⟩
  · rw [aget_aset]
    split
    · simp
    · next hne =>
      rcases hz with hz | hz
      · exact h.2 z hz
      · exact absurd hz hne
theorem CN_look {mm : List (Int × PV)} {B : Int} {seen : Int → Prop} (h : CN mm B seen) (x : Int) : ∃ c : Int,lookA (I 0) false (aget mm x) = I c:=by
  rcases h.1 x with e | ⟨d,e,_,_⟩
  · exact ⟨0,by rw [e]; rfl⟩
  · exact ⟨d,by rw [e]; rfl⟩
section
variable {D : Dis} (hr : ∀ x ∈ D.rs,x.OK) {X : Evd} {q : Cps} (hv : DV D q.cs q.gs q.ds q.ws) (hb : ∀ w ∈ X.ws,w.hs.length ≤ 1000000 ∧ w.os.length ≤ 1000000 ∧ w.ts.length ≤ 1000000)
include hr hv hb
set_option maxHeartbeats 8000000 in
theorem c_counted (hE : EOK D X) (h6 : X.ss.length ≤ 6) : ∃ l' : List Int,ap Tryz.prog pol 26 [.agg (dcl D q),.agg (evq X q),.fn 27 []] = some (.ret (.tup [.vs 1 (l'.map I) none,I 0])) ∧
    l'.length ≤ 6 ∧ ∀ i : Nat,i < X.ss.length → (∃ n ∈ MINL (TB D X) X.ss.length (2 ^ X.ss.length),(i : Int) ∈ BITS n X.ss.length) → (i : Int) ∈ l':=by
  obtain ⟨c,v,ec,hc,hcv⟩:=c_minimal hr hv hb h6
  have h0:=hc.2 hE
  obtain ⟨L,hp,hv',_⟩:=hcv h0
  subst h0
  subst hv'
  have hLlen : L.length ≤ 32:=by rw [hp.length_eq,List.length_map]; exact MINL_len _ _ h6
  have hLB : ∀ l ∈ L,l.length ≤ 6:=fun l hl => by
    obtain ⟨n,_,rfl⟩:=List.mem_map.1 (hp.mem_iff.1 hl)
    have:=BITS_len n X.ss.length
    omega
  rw [ap_eq _ Tryz.func26 rfl Tryz.ntmps26 Tryz.results26 (by kernel_rfl) rfl (by exact Nat.le_of_ble_eq_true rfl)]
  simp (maxSteps:=999999) only [E0,seval,-Int.reduceNatCast',NUM,MAPI,SRCH,SFRM,SCRP,SRGT,SDTY,SWAV,SSUS,hv.st,ec,List.length_map]
  generalize hL : W _ (.loop _) _ = L0
  have FIX : True:=trivial
  obtain ⟨ex,s,rfl,rfl,⟨mm,hm,hcn⟩,hr1,hr2,hr4,hnx,h4,b4,h5,h6',h8,h9,hd,hf⟩:=loop_at hL (α:=Nat) (fun k => L.length - k)
    (fun s0 k s => k ≤ L.length ∧ (∃ mm,s.H.rows 3 = some (.map (imap mm)) ∧ CN mm (k * 6) (fun z => ∃ l ∈ L.take k,z ∈ l)) ∧ s.H.rows 1 = some (.gro 1 [] 0) ∧ s.H.rows 2 = some (.gro 1 [.vs 1 (L.map elt) none] 0) ∧ s.H.rows 4 = some (.gro 1 [.map 3] 0) ∧ 4 < s.H.next ∧ s.tmps 27 = I k ∧ s.tmps 26 = I L.length ∧ s.tmps 25 = .vs 1 (L.map elt) none ∧ s.tmps 4 = .bptr 0 4 0 0 ∧ s.boxes 4 = some (0,evq X q) ∧ s.tmps 5 = .rop [.fn 27 []] ∧ s.tmps 6 = .gsl 1 1 0 0 0 ∧ s.tmps 8 = .ptr 2 1 0 0 ∧ s.tmps 9 = .ptr 4 1 0 0 ∧ s.defers = [] ∧ s.fid = 0)
    (fun s0 ex s => ex = .exit 0 ∧ (∃ mm,s.H.rows 3 = some (.map (imap mm)) ∧ CN mm (L.length * 6) (fun z => ∃ l ∈ L,z ∈ l)) ∧ s.H.rows 1 = some (.gro 1 [] 0) ∧ s.H.rows 2 = some (.gro 1 [.vs 1 (L.map elt) none] 0) ∧ s.H.rows 4 = some (.gro 1 [.map 3] 0) ∧ 4 < s.H.next ∧ s.tmps 4 = .bptr 0 4 0 0 ∧ s.boxes 4 = some (0,evq X q) ∧ s.tmps 5 = .rop [.fn 27 []] ∧ s.tmps 6 = .gsl 1 1 0 0 0 ∧ s.tmps 8 = .ptr 2 1 0 0 ∧ s.tmps 9 = .ptr 4 1 0 0 ∧ s.defers = [] ∧ s.fid = 0) 0
    (by simp (maxSteps:=999999) only [E0,seval,-Int.reduceNatCast',NUM]
        refine ⟨Nat.zero_le _,[],rfl,?_⟩
        refine ⟨fun x => .inl rfl,fun x h => ?_⟩
        obtain ⟨l,hl,_⟩:=h
        simp at hl) (by
      rintro k s r hW ⟨hk,⟨mm,hm,hcn⟩,hr1,hr2,hr4,hnx,h27,h26,h25,h4,b4,h5,h6',h8,h9,hd,hf⟩
      by_cases hp : k < L.length
      rotate_left
      · simp (maxSteps:=999999) only [E0,seval,-Int.reduceNatCast',NUM,h27,h26,hd,hf,(show ¬ (k : Int) < L.length by omega)] at hW
        subst hW
        have : k = L.length:=by omega
        subst this
        rw [List.take_of_length_le (Nat.le_refl _)] at hcn
        refine rd_exit ⟨rfl,⟨mm,?_,hcn⟩,?_⟩ <;> simp (maxSteps:=999999) only [E0,seval,-Int.reduceNatCast',hm,hr1,hr2,hr4,h4,b4,h5,h6',h8,h9,hd,hf]
        exact hnx
      have e0 : L[k]? = some L[k]:=List.getElem?_eq_getElem hp
      have e1:=map_get (f:=elt) e0
      have hlm:=hLB _ (List.getElem_mem hp)
      have tk : ∀ z,(∃ l ∈ L.take (k + 1),z ∈ l) → (∃ l ∈ L.take k,z ∈ l) ∨ z ∈ L[k]:=fun z hz => by
        obtain ⟨l,hl,hz⟩:=hz
        rw [List.take_add_one,e0] at hl
        rcases List.mem_append.1 hl with h | h
        · exact .inl ⟨l,h,hz⟩
        · simp at h; subst h; exact .inr hz
      generalize L[k] = S at *
      simp (maxSteps:=999999) only [E0,seval,-Int.reduceNatCast',NUM,h27,h26,h25,hd,hf,e1,List.length_map,Int.toNat_natCast,(show (k : Int) < L.length by omega),(show (0 : Int) ≤ k by omega)] at hW
      generalize hL2 : W _ (.loop _) _ = L2 at hW
      obtain ⟨ex,s,rfl,rfl,⟨mm,hm,hcn⟩,hr1,hr2,hr4,hnx,h27,h26,h25,h4,b4,h5,h6',h8,h9,hd,hf⟩:=loop_at hL2 (α:=Nat) (fun j => S.length - j)
        (fun s0 j s => j ≤ S.length ∧ (∃ mm,s.H.rows 3 = some (.map (imap mm)) ∧ CN mm (k * 6 + j) (fun z => (∃ l ∈ L.take k,z ∈ l) ∨ z ∈ S.take j)) ∧ s.H.rows 1 = some (.gro 1 [] 0) ∧ s.H.rows 2 = some (.gro 1 [.vs 1 (L.map elt) none] 0) ∧ s.H.rows 4 = some (.gro 1 [.map 3] 0) ∧ 4 < s.H.next ∧ s.tmps 33 = I j ∧ s.tmps 32 = I S.length ∧ s.tmps 31 = elt S ∧ s.tmps 27 = I k ∧ s.tmps 26 = I L.length ∧ s.tmps 25 = .vs 1 (L.map elt) none ∧ s.tmps 4 = .bptr 0 4 0 0 ∧ s.boxes 4 = some (0,evq X q) ∧ s.tmps 5 = .rop [.fn 27 []] ∧ s.tmps 6 = .gsl 1 1 0 0 0 ∧ s.tmps 8 = .ptr 2 1 0 0 ∧ s.tmps 9 = .ptr 4 1 0 0 ∧ s.defers = [] ∧ s.fid = 0)
        (fun s0 ex s => ex = .exit 2 ∧ (∃ mm,s.H.rows 3 = some (.map (imap mm)) ∧ CN mm (k * 6 + 6) (fun z => (∃ l ∈ L.take k,z ∈ l) ∨ z ∈ S)) ∧ s.H.rows 1 = some (.gro 1 [] 0) ∧ s.H.rows 2 = some (.gro 1 [.vs 1 (L.map elt) none] 0) ∧ s.H.rows 4 = some (.gro 1 [.map 3] 0) ∧ 4 < s.H.next ∧ s.tmps 27 = I k ∧ s.tmps 26 = I L.length ∧ s.tmps 25 = .vs 1 (L.map elt) none ∧ s.tmps 4 = .bptr 0 4 0 0 ∧ s.boxes 4 = some (0,evq X q) ∧ s.tmps 5 = .rop [.fn 27 []] ∧ s.tmps 6 = .gsl 1 1 0 0 0 ∧ s.tmps 8 = .ptr 2 1 0 0 ∧ s.tmps 9 = .ptr 4 1 0 0 ∧ s.defers = [] ∧ s.fid = 0) 0
        (by simp (maxSteps:=999999) only [E0,seval,-Int.reduceNatCast',NUM,h27,h26,h25,hr1,hr2,hr4,h4,b4,h5,h6',h8,h9,hd,hf]
            refine ⟨Nat.zero_le _,⟨mm,hm,?_⟩,hnx⟩
            refine ⟨fun x => ?_,fun x h => hcn.2 x ?_⟩
            · simpa using hcn.1 x
            · rcases h with h | h
              · exact h
              · simp at h) (by
          rintro j s r hW ⟨hj,⟨mm,hm,hcn⟩,hr1,hr2,hr4,hnx,h33,h32,h31,h27,h26,h25,h4,b4,h5,h6',h8,h9,hd,hf⟩
          by_cases hq : j < S.length
          rotate_left
          · simp (maxSteps:=999999) only [E0,seval,-Int.reduceNatCast',NUM,h33,h32,hd,hf,(show ¬ (j : Int) < S.length by omega)] at hW
            subst hW
            rw [List.take_of_length_le (l:=S) (i:=j) (by omega)] at hcn
            refine rd_exit ⟨rfl,⟨mm,?_,?_⟩,?_⟩
            · simp (maxSteps:=999999) only [E0,seval,-Int.reduceNatCast',hm]
            · refine ⟨fun x => ?_,hcn.2⟩
              rcases hcn.1 x with h | ⟨c,h,h1,h2⟩
              · exact .inl h
              · exact .inr ⟨c,h,h1,by omega⟩
            · simp (maxSteps:=999999) only [E0,seval,-Int.reduceNatCast',h27,h26,h25,hr1,hr2,hr4,h4,b4,h5,h6',h8,h9,hd,hf]
              exact hnx
          have f0 : S[j]? = some S[j]:=List.getElem?_eq_getElem hq
          have f1:=ints_get f0
          generalize S[j] = x at *
          obtain ⟨c,hlk⟩:=CN_look hcn x
          obtain ⟨hcn',hc0,hcB⟩:=CN_step hcn (by omega) x c hlk
          simp (maxSteps:=999999) only [E0,seval,-Int.reduceNatCast',NUM,MAPI,h33,h32,h31,h9,hr4,hm,hlk,hd,hf,f1,List.length_map,Int.toNat_natCast,(show (j : Int) < S.length by omega),(show (0 : Int) ≤ j by omega),(i64_in (x:=c + 1) (by unfold I64; omega)),(i64_in (x:=(j : Int) + 1) (by unfold I64; omega))] at hW
          subst hW
          refine rd_next (j + 1) ?_ (show S.length - (j + 1) < S.length - j by omega)
          simp (maxSteps:=999999) only [E0,seval,-Int.reduceNatCast',h32,h31,h27,h26,h25,hr1,hr2,hr4,h4,b4,h5,h6',h8,h9,hd]
          refine ⟨by omega,⟨_,rfl,?_,?_⟩,hnx,by simp⟩
          · intro z
            rcases hcn'.1 z with h | ⟨d,h,h1,h2⟩
            · exact .inl h
            · exact .inr ⟨d,h,h1,by omega⟩
          · intro z hz
            refine hcn'.2 z ?_
            rcases hz with h | h
            · exact .inl (.inl h)
            · rw [List.take_add_one,f0] at h
              rcases List.mem_append.1 h with h | h
              · exact .inl (.inr h)
              · simp at h; exact .inr h)
      simp (maxSteps:=999999) only [E0,seval,-Int.reduceNatCast',NUM,h27,hd,hf,(i64_in (x:=(k : Int) + 1) (by unfold I64; omega))] at hW
      subst hW
      refine rd_next (k + 1) ?_ (show L.length - (k + 1) < L.length - k by omega)
      simp (maxSteps:=999999) only [E0,seval,-Int.reduceNatCast',h26,h25,hr1,hr2,hr4,h4,b4,h5,h6',h8,h9,hd]
      refine ⟨by omega,⟨mm,hm,?_,fun z hz => hcn.2 z (tk z hz)⟩,hnx,by simp⟩
      intro z
      rcases hcn.1 z with h | ⟨d,h,h1,h2⟩
      · exact .inl h
      · exact .inr ⟨d,h,h1,by omega⟩)
  simp (maxSteps:=999999) only [E0,seval,-Int.reduceNatCast',NUM,h4,b4,hd,hf,List.length_map]
  generalize hL : W _ (.loop _) _ = L0
  obtain ⟨m,hm'⟩ : ∃ m,X.ss.length = m:=⟨_,rfl⟩
  rw [hm'] at hL h6
  obtain ⟨ex,s,rfl,rfl,hm,hr1,hr2,hr4,hnx,h5,h6',h8,h9,hd,hf⟩:=loop_at hL (α:=Nat) (fun k => m - k)
    (fun s0 k s => k ≤ m ∧ s.H.rows 3 = some (.map (imap mm)) ∧ s.H.rows 1 = some (.gro 1 ((NUMS k).map I) 0) ∧ s.H.rows 2 = some (.gro 1 [.vs 1 (L.map elt) none] 0) ∧ s.H.rows 4 = some (.gro 1 [.map 3] 0) ∧ 4 < s.H.next ∧ s.tmps 46 = I k ∧ s.tmps 45 = I m ∧ s.tmps 5 = .rop [.fn 27 []] ∧ s.tmps 6 = .gsl 1 1 k 0 k ∧ s.tmps 8 = .ptr 2 1 0 0 ∧ s.tmps 9 = .ptr 4 1 0 0 ∧ s.defers = [] ∧ s.fid = 0)
    (fun s0 ex s => ex = .exit 4 ∧ s.H.rows 3 = some (.map (imap mm)) ∧ s.H.rows 1 = some (.gro 1 ((NUMS m).map I) 0) ∧ s.H.rows 2 = some (.gro 1 [.vs 1 (L.map elt) none] 0) ∧ s.H.rows 4 = some (.gro 1 [.map 3] 0) ∧ 4 < s.H.next ∧ s.tmps 5 = .rop [.fn 27 []] ∧ s.tmps 6 = .gsl 1 1 m 0 m ∧ s.tmps 8 = .ptr 2 1 0 0 ∧ s.tmps 9 = .ptr 4 1 0 0 ∧ s.defers = [] ∧ s.fid = 0) 0
    (by simp (maxSteps:=999999) only [E0,seval,-Int.reduceNatCast',NUM,hm,hr1,hr2,hr4,h5,h6',h8,h9]
        exact ⟨Nat.zero_le _,rfl,hnx⟩) (by
      rintro k s r hW ⟨hk,hm,hr1,hr2,hr4,hnx,h46,h45,h5,h6',h8,h9,hd,hf⟩
      by_cases hp : k < m
      rotate_left
      · simp (maxSteps:=999999) only [E0,seval,-Int.reduceNatCast',NUM,h46,h45,hd,hf,(show ¬ (k : Int) < m by omega)] at hW
        subst hW
        have : k = m:=by omega
        subst this
        refine rd_exit ⟨rfl,?_⟩
        simp (maxSteps:=999999) only [E0,seval,-Int.reduceNatCast',hm,hr1,hr2,hr4,h5,h6',h8,h9,hd,hf]
        exact hnx
      have al : ([I (k : Int)].all fun e => e.fits 1) = true:=by simp [PV.fits,PV.cells]
      simp (maxSteps:=999999) only [E0,seval,-Int.reduceNatCast',NUM,h46,h45,h6',hr1,hd,hf,al,List.length_map,NUMS_len,Nat.zero_add,(show (k : Int) < m by omega),(i64_in (x:=(k : Int) + 1) (by unfold I64; omega)),(show k + 1 ≤ 67108864 by omega),(show k ≤ 67108863 by omega)] at hW
      subst hW
      refine rd_next (k + 1) ?_ (show m - (k + 1) < m - k by omega)
      simp (maxSteps:=999999) only [E0,seval,-Int.reduceNatCast',hm,hr2,hr4,h45,h5,h8,h9,hd]
      refine ⟨by omega,?_,hnx,by simp⟩
      rw [NUMS_succ,List.map_append]; rfl)
  have ll : (NUMS m).length = m:=NUMS_len m
  simp (maxSteps:=999999) only [E0,seval,-Int.reduceNatCast',NUM,h5,h6',h8,h9,hd,hf]
  generalize hE1 : callF _ _ _ _ _ _ = E1
  have hE1' : callF G Tryz.prog pol 47 [.gsl 1 1 (NUMS m).length 0 (NUMS m).length,.fn 48 [.rop [.fn 27 []],.ptr 4 1 0 0,.ptr 2 1 0 0]] s.H = E1:=by rw [ll]; exact hE1
  obtain ⟨H',r1,l',rfl,hr1',hll,hin⟩:=c_chosen (NUMS m) (by omega) 1 mm _ _ hcn L s.H hm hr4 hr2 hr1 ⟨hnx,by omega⟩ E1 hE1'
  clear hE1 hE1'
  have mp : (l'.map I).map (strip1 H') = l'.map I:=INTS.2.2.2.1 H' l'
  simp (maxSteps:=999999) only [E0,seval,-Int.reduceNatCast',NUM,hr1',mp,List.length_map,List.take_of_length_le,Nat.zero_add,Nat.le_refl,hd,hf]
  refine ⟨l',rfl,by omega,fun i hi hex => ?_⟩
  obtain ⟨n,hn,hin'⟩:=hex
  exact hin i (NUMS_mem (by omega)) ⟨_,hp.mem_iff.2 (List.mem_map.2 ⟨n,hn,rfl⟩),hin'⟩
theorem c_named (hE : EOK D X) (h6 : X.ss.length ≤ 6) : ∃ l' : List Int,ap Tryz.prog pol 8 [.agg (dcl D q),.agg (evq X q)] = some (.ret (.tup [.vs 1 (l'.map I) none,I 0])) ∧
    l'.length ≤ 6 ∧ ∀ i : Nat,i < X.ss.length → (∃ n ∈ MINL (TB D X) X.ss.length (2 ^ X.ss.length),(i : Int) ∈ BITS n X.ss.length) → (i : Int) ∈ l':=by
  obtain ⟨l',e,h1,h2⟩:=c_counted hr hv hb hE h6
  refine ⟨l',?_,h1,h2⟩
  rw [ap_eq _ Tryz.func8 rfl Tryz.ntmps8 Tryz.results8 (by kernel_rfl) rfl (by exact Nat.le_of_ble_eq_true rfl)]
  simp (maxSteps:=999999) only [E0,seval,-Int.reduceNatCast',NUM,SRCH,SFRM,SCRP,SRGT,SDTY,SWAV,SSUS,INTS,hv.st,e]
end
abbrev qo (D : Dis) (ws : List Wel) : Cps:=⟨none,none,none,none,.vs 2 (D.cs.map crp) none,.vs 10 (D.gs.map rgt) none,.vs 4 (D.ds.map dty) none,.vs 4 (ws.map wel) none⟩
theorem qo_dv (D : Dis) (ws : List Wel) : DV D (qo D ws).cs (qo D ws).gs (qo D ws).ds (qo D ws).ws:=by
  have c0:=SCRP
  have g0:=SRGT
  have d0:=SDTY
  have w0:=SWEL
  have a0 : strip0 (.vs 2 (D.cs.map crp) none) = .vs 2 (D.cs.map crp) none:=by show PV.vs 2 (strip0L _) none = _; simp only [c0]
  have a1 : strip0 (.vs 10 (D.gs.map rgt) none) = .vs 10 (D.gs.map rgt) none:=by show PV.vs 10 (strip0L _) none = _; simp only [g0]
  have a2 : strip0 (.vs 4 (D.ds.map dty) none) = .vs 4 (D.ds.map dty) none:=by show PV.vs 4 (strip0L _) none = _; simp only [d0]
  have a3 : strip0 (.vs 4 (ws.map wel) none) = .vs 4 (ws.map wel) none:=by show PV.vs 4 (strip0L _) none = _; simp only [w0]
  refine ⟨SL_vs _ _ _,SL_vs _ _ _,SL_vs _ _ _,⟨a0,a1,a2,a3⟩,fun H => ⟨?_,?_,?_,?_⟩,fun H => ⟨?_,?_,?_,?_⟩,fun H => ⟨?_,?_,?_,?_⟩⟩
  · show PV.vs 2 (strip1L H _) none = _; simp only [c0]
  · show PV.vs 10 (strip1L H _) none = _; simp only [g0]
  · show PV.vs 4 (strip1L H _) none = _; simp only [d0]
  · show PV.vs 4 (strip1L H _) none = _; simp only [w0]
  · show PV.vs 2 (strip2L H _) none = _; simp only [c0]
  · show PV.vs 10 (strip2L H _) none = _; simp only [g0]
  · show PV.vs 4 (strip2L H _) none = _; simp only [d0]
  · show PV.vs 4 (strip2L H _) none = _; simp only [w0]
  · show (strip0 (.vs 2 (D.cs.map crp) none),H) = _; rw [a0]
  · show (strip0 (.vs 10 (D.gs.map rgt) none),H) = _; rw [a1]
  · show (strip0 (.vs 4 (D.ds.map dty) none),H) = _; rw [a2]
  · show (strip0 (.vs 4 (ws.map wel) none),H) = _; rw [a3]
theorem TP_slF (t : TR) : slF (TP t) = []:=by cases t <;> rfl
section
variable {D : Dis} (hr : ∀ x ∈ D.rs,x.OK) (ws : List Wel) (X : Evd) (set : List Int) (l : List Tru) (ps : List Prb) (hpl : ps.length ≤ 9223372036854775807) (hrv : ∀ p ∈ ps,RV p.set p.v ∧ p.set.length ≤ 9223372036854775807)
include hr hpl hrv
set_option maxHeartbeats 16000000 in
theorem w_missing : ap Tryz.prog pol 3 [dv D ws,ev X none none,.vs 1 (set.map I) none,.vs 5 (l.map tru) none,.vs 2 (ps.map prb) none] = some (.ret (.bool true)):=by
  have hv:=qo_dv D ws
  have SPRB : True:=trivial
  obtain ⟨b,eb,hb⟩:=c_few D ws X
  rw [ap_eq _ Tryz.func3 rfl Tryz.ntmps3 Tryz.results3 (by kernel_rfl) rfl (by exact Nat.le_of_ble_eq_true rfl)]
  cases b with
  | false => simp (maxSteps:=999999) only [E0,seval,-Int.reduceNatCast',NUM,SRCH,SFRM,SCRP,SRGT,SDTY,SWEL,SWAV,SSUS,STRU hr,INTS,c_awake,eb]
  | true =>
  have hsm:=hb rfl
  by_cases hl : 60 < l.length
  · simp (maxSteps:=999999) only [E0,seval,-Int.reduceNatCast',NUM,SRCH,SFRM,SCRP,SRGT,SDTY,SWEL,SWAV,SSUS,STRU hr,INTS,c_awake,eb,List.length_map,(show (60 : Int) < l.length by omega)]
  by_cases hs : 12 < set.length
  · simp (maxSteps:=999999) only [E0,seval,-Int.reduceNatCast',NUM,SRCH,SFRM,SCRP,SRGT,SDTY,SWEL,SWAV,SSUS,STRU hr,INTS,c_awake,eb,List.length_map,(show ¬ (60 : Int) < l.length by omega),(show (12 : Int) < set.length by omega)]
  obtain ⟨b,c,ea,ha⟩:=c_accepts hr (X:=X) (q:=qo D ws) hv (fun w hw => by have:=hsm.2.2.2.2.2.2.2 w hw; omega) set (.vs 1 (set.map I) none) (RV_vs set none) (by omega) l none (by omega)
  by_cases h0 : c = 0
  rotate_left
  · simp (maxSteps:=999999) only [E0,seval,-Int.reduceNatCast',NUM,SRCH,SFRM,SCRP,SRGT,SDTY,SWEL,SWAV,SSUS,STRU hr,INTS,c_awake,eb,List.length_map,(show ¬ (60 : Int) < l.length by omega),(show ¬ (12 : Int) < set.length by omega),ea,h0]
  subst h0
  cases b with
  | false => simp (maxSteps:=999999) only [E0,seval,-Int.reduceNatCast',NUM,SRCH,SFRM,SCRP,SRGT,SDTY,SWEL,SWAV,SSUS,STRU hr,INTS,c_awake,eb,List.length_map,(show ¬ (60 : Int) < l.length by omega),(show ¬ (12 : Int) < set.length by omega),ea]
  | true =>
  obtain ⟨hE,hS,hlen,hF⟩:=ha rfl rfl
  have hX:=FIT_EXP hr hE hlen hF
  have lss:=hE.2.2.1
  have h6 : X.ss.length ≤ 6:=by have:=hsm.2.2.2.2.2.2.1; omega
  have hbw : ∀ w ∈ X.ws,w.hs.length ≤ 1000000 ∧ w.os.length ≤ 1000000 ∧ w.ts.length ≤ 1000000:=fun w hw => by have:=hsm.2.2.2.2.2.2.2 w hw; omega
  obtain ⟨c,v,em,hc,hvv⟩:=c_minimal hr (q:=qo D ws) hv hbw h6
  have h0:=hc.2 hE
  subst h0
  obtain ⟨L',hperm,rfl,_⟩:=hvv rfl
  obtain ⟨T,rfl,hTp⟩:=perm_nums lss (fun n hn => (MINL_mem.1 hn).1) hperm
  obtain ⟨nm,en,hnl,hnn⟩:=c_named hr (q:=qo D ws) hv hbw hE h6
  clear hperm hvv hc ha
  have hTl : T.length ≤ 32:=by rw [hTp.length_eq]; exact MINL_len _ _ h6
  have hTm : ∀ n,n ∈ T ↔ n ∈ MINL (TB D X) X.ss.length (2 ^ X.ss.length):=fun n => hTp.mem_iff
  have hTn : T.Nodup:=hTp.nodup_iff.2 (MINL_nodup _ _ _)
  obtain ⟨n0,hn0,hs0⟩:=own_some hr hE hS hX
  obtain ⟨m,hm⟩ : ∃ m,X.ss.length = m:=⟨_,rfl⟩
  simp (maxSteps:=999999) only [E0,seval,-Int.reduceNatCast',NUM,SRCH,SFRM,SCRP,SRGT,SDTY,SWEL,SWAV,SSUS,STRU hr,INTS,SELT,c_awake,eb,List.length_map,(show ¬ (60 : Int) < l.length by omega),(show ¬ (12 : Int) < set.length by omega),ea,em,en]
  generalize hL : W _ (.loop _) _ = L
  obtain ⟨ex,s,rfl,rfl,⟨r17,h17,hr17,hl17⟩,k2,k4,k5,k6,k13,k15,c5,c6,hd,hf⟩:=loop_at hL (α:=Nat) (fun k => T.length - k)
    (fun s0 k s => k ≤ T.length ∧ (∃ r17,s.tmps 17 = .gsl 1 r17 (OWN T m set k).length 0 (OWN T m set k).length ∧ s.H.rows r17 = some (.gro 1 ((OWN T m set k).map I) 0) ∧ r17 < s.H.next) ∧ s.tmps 85 = I k ∧ s.tmps 84 = I T.length ∧ s.tmps 83 = .vs 1 ((T.map fun n => BITS n m).map elt) none ∧
      s.tmps 2 = .vs 1 (set.map I) none ∧ s.tmps 4 = .vs 2 (ps.map prb) none ∧ s.tmps 5 = .bptr 0 5 0 0 ∧ s.tmps 6 = .bptr 0 6 0 0 ∧ s.tmps 13 = .vs 1 ((T.map fun n => BITS n m).map elt) none ∧ s.tmps 15 = .vs 1 (nm.map I) none ∧ s.boxes 5 = some (0,dcl D (qo D ws)) ∧ s.boxes 6 = some (0,evc X none none) ∧ s.defers = [] ∧ s.fid = 0)
    (fun s0 ex s => ex = .exit 0 ∧ (∃ r17,s.tmps 17 = .gsl 1 r17 (OWN T m set T.length).length 0 (OWN T m set T.length).length ∧ s.H.rows r17 = some (.gro 1 ((OWN T m set T.length).map I) 0) ∧ r17 < s.H.next) ∧
      s.tmps 2 = .vs 1 (set.map I) none ∧ s.tmps 4 = .vs 2 (ps.map prb) none ∧ s.tmps 5 = .bptr 0 5 0 0 ∧ s.tmps 6 = .bptr 0 6 0 0 ∧ s.tmps 13 = .vs 1 ((T.map fun n => BITS n m).map elt) none ∧ s.tmps 15 = .vs 1 (nm.map I) none ∧ s.boxes 5 = some (0,dcl D (qo D ws)) ∧ s.boxes 6 = some (0,evc X none none) ∧ s.defers = [] ∧ s.fid = 0) 0
    (by simp (maxSteps:=999999) only [E0,seval,-Int.reduceNatCast',NUM,hm]
        exact ⟨Nat.zero_le _,1,rfl,by simp (maxSteps:=999999) only [E0,seval,-Int.reduceNatCast']; rfl,by decide⟩) (by
      rintro k s r hW ⟨hk,⟨r17,h17,hr17,hl17⟩,h85,h84,h83,k2,k4,k5,k6,k13,k15,c5,c6,hd,hf⟩
      by_cases hp : k < T.length
      rotate_left
      · simp (maxSteps:=999999) only [E0,seval,-Int.reduceNatCast',NUM,h85,h84,hd,hf,(show ¬ (k : Int) < T.length by omega)] at hW
        subst hW
        have : k = T.length:=by omega
        subst this
        refine rd_exit ⟨rfl,⟨r17,?_,?_,?_⟩,?_,?_,?_,?_,?_,?_,?_,?_,?_,?_⟩ <;> simp (maxSteps:=999999) only [E0,seval,-Int.reduceNatCast',h17,hr17,k2,k4,k5,k6,k13,k15,c5,c6,hd,hf]
        exact hl17
      have e0 : T[k]? = some T[k]:=List.getElem?_eq_getElem hp
      have e1:=map_get (f:=elt) (map_get' (f:=fun n => BITS n m) e0)
      generalize T[k] = n at *
      have ci:=c_inside (BITS n m) set none none (by have:=BITS_len n m; omega) (by omega)
      have os:=OWN_succ (m:=m) (set:=set) e0
      have ol:=OWN_len T m set k
      by_cases hin : ∀ x ∈ BITS n m,x ∈ set
      · rw [decide_eq_true hin] at ci
        rw [if_pos hin] at os
        have al : ([I (k : Int)].all fun e => e.fits 1) = true:=by simp [PV.fits,PV.cells]
        simp (maxSteps:=999999) only [E0,seval,-Int.reduceNatCast',NUM,INTS,h17,hr17,h85,h84,h83,k2,hd,hf,e1,ci,al,List.length_map,Int.toNat_natCast,Nat.zero_add,(show (k : Int) < T.length by omega),(show (0 : Int) ≤ k by omega),(show (OWN T m set k).length + 1 ≤ 67108864 by omega),(show (OWN T m set k).length ≤ 67108863 by omega),(i64_in (x:=(k : Int) + 1) (by unfold I64; omega))] at hW
        subst hW
        refine rd_next (k + 1) ?_ (show T.length - (k + 1) < T.length - k by omega)
        simp (maxSteps:=999999) only [E0,seval,-Int.reduceNatCast',h84,h83,k2,k4,k5,k6,k13,k15,c5,c6,hd,os]
        exact ⟨by omega,⟨r17,by simp,by simp (maxSteps:=999999) only [E0,seval,-Int.reduceNatCast',List.map_append,List.map_cons,List.map_nil],hl17⟩,by simp⟩
      · rw [decide_eq_false hin] at ci
        rw [if_neg hin,List.append_nil] at os
        simp (maxSteps:=999999) only [E0,seval,-Int.reduceNatCast',NUM,INTS,h17,hr17,h85,h84,h83,k2,hd,hf,e1,ci,List.length_map,Int.toNat_natCast,Nat.zero_add,(show (k : Int) < T.length by omega),(show (0 : Int) ≤ k by omega),(i64_in (x:=(k : Int) + 1) (by unfold I64; omega))] at hW
        subst hW
        refine rd_next (k + 1) ?_ (show T.length - (k + 1) < T.length - k by omega)
        simp (maxSteps:=999999) only [E0,seval,-Int.reduceNatCast',h17,h84,h83,k2,k4,k5,k6,k13,k15,c5,c6,hd,os]
        exact ⟨by omega,⟨r17,rfl,hr17,hl17⟩,by simp⟩)
  have hoN:=OWN_ne (m:=m) ((hTm n0).2 hn0) (by rw [hm] at hs0; exact hs0)
  have hoL:=OWN_len T m set T.length
  have hoM : ∀ x ∈ OWN T m set T.length,∃ i n : Nat,x = (i : Int) ∧ T[i]? = some n ∧ i < T.length ∧ ∀ y ∈ BITS n m,y ∈ set:=fun x hx => OWN_mem hx
  generalize OWN T m set T.length = ow at *
  simp (maxSteps:=999999) only [E0,seval,-Int.reduceNatCast',NUM,h17,hr17,k2,k4,k5,k6,k13,k15,c5,c6,hd,hf,List.length_map,(show ¬ (ow.length : Int) = 0 by omega)]
  generalize hL : W _ (.loop _) _ = L
  obtain ⟨ex,s,rfl,rfl,h17,hr17,hl17,k2,k4,k5,k6,k13,k15,c5,c6,hd,hf⟩:=loop_at hL (α:=Nat) (fun k => set.length - k)
    (fun s0 k s => k ≤ set.length ∧ s.tmps 17 = .gsl 1 r17 ow.length 0 ow.length ∧ s.H.rows r17 = some (.gro 1 (ow.map I) 0) ∧ r17 < s.H.next ∧ s.tmps 103 = I k ∧ s.tmps 102 = I set.length ∧ s.tmps 101 = .vs 1 (set.map I) none ∧ s.tmps 2 = .vs 1 (set.map I) none ∧ s.tmps 4 = .vs 2 (ps.map prb) none ∧ s.tmps 5 = .bptr 0 5 0 0 ∧ s.tmps 6 = .bptr 0 6 0 0 ∧ s.tmps 13 = .vs 1 ((T.map fun n => BITS n m).map elt) none ∧ s.tmps 15 = .vs 1 (nm.map I) none ∧ s.boxes 5 = some (0,dcl D (qo D ws)) ∧ s.boxes 6 = some (0,evc X none none) ∧ s.defers = [] ∧ s.fid = 0)
    (fun s0 ex s => ex = .exit 2 ∧ s.tmps 17 = .gsl 1 r17 ow.length 0 ow.length ∧ s.H.rows r17 = some (.gro 1 (ow.map I) 0) ∧ r17 < s.H.next ∧ s.tmps 2 = .vs 1 (set.map I) none ∧ s.tmps 4 = .vs 2 (ps.map prb) none ∧ s.tmps 5 = .bptr 0 5 0 0 ∧ s.tmps 6 = .bptr 0 6 0 0 ∧ s.tmps 13 = .vs 1 ((T.map fun n => BITS n m).map elt) none ∧ s.tmps 15 = .vs 1 (nm.map I) none ∧ s.boxes 5 = some (0,dcl D (qo D ws)) ∧ s.boxes 6 = some (0,evc X none none) ∧ s.defers = [] ∧ s.fid = 0) 0
    (by simp (maxSteps:=999999) only [E0,seval,-Int.reduceNatCast',NUM,h17,hr17,k2,k4,k5,k6,k13,k15,c5,c6]
        exact ⟨Nat.zero_le _,hl17⟩) (by
      rintro k s r hW ⟨hk,h17,hr17,hl17,h103,h102,h101,k2,k4,k5,k6,k13,k15,c5,c6,hd,hf⟩
      by_cases hp : k < set.length
      rotate_left
      · simp (maxSteps:=999999) only [E0,seval,-Int.reduceNatCast',NUM,h103,h102,hd,hf,(show ¬ (k : Int) < set.length by omega)] at hW
        subst hW
        refine rd_exit ⟨rfl,?_,?_,?_,?_,?_,?_,?_,?_,?_,?_,?_,?_,?_⟩ <;> simp (maxSteps:=999999) only [E0,seval,-Int.reduceNatCast',h17,hr17,k2,k4,k5,k6,k13,k15,c5,c6,hd,hf]
        exact hl17
      have e0 : set[k]? = some set[k]:=List.getElem?_eq_getElem hp
      have e1:=ints_get e0
      generalize set[k] = t at *
      simp (maxSteps:=999999) only [E0,seval,-Int.reduceNatCast',NUM,INTS,h103,h102,h101,hd,hf,e1,List.length_map,Int.toNat_natCast,Nat.zero_add,(show (k : Int) < set.length by omega),(show (0 : Int) ≤ k by omega)] at hW
      generalize hA : orK _ _ = A at hW
      obtain ⟨s1,rfl,hv22,h21,h17,hr17,hl17,h103,h102,h101,k2,k4,k5,k6,k13,k15,c5,c6,hd,hf⟩ : ∃ s1,A = some (.normal,s1) ∧ (s1.tmps 22 = .vs 1 ((RST set k).map I) (some 0) ∨ ∃ r f,s1.tmps 22 = .gsl 1 r (RST set k).length 0 (RST set k).length ∧ s1.H.rows r = some (.gro 1 ((RST set k).map I) f) ∧ r ≠ r17 ∧ r < s1.H.next) ∧ s1.tmps 21 = I t ∧
          s1.tmps 17 = .gsl 1 r17 ow.length 0 ow.length ∧ s1.H.rows r17 = some (.gro 1 (ow.map I) 0) ∧ r17 < s1.H.next ∧ s1.tmps 103 = I k ∧ s1.tmps 102 = I set.length ∧ s1.tmps 101 = .vs 1 (set.map I) none ∧ s1.tmps 2 = .vs 1 (set.map I) none ∧ s1.tmps 4 = .vs 2 (ps.map prb) none ∧ s1.tmps 5 = .bptr 0 5 0 0 ∧ s1.tmps 6 = .bptr 0 6 0 0 ∧ s1.tmps 13 = .vs 1 ((T.map fun n => BITS n m).map elt) none ∧ s1.tmps 15 = .vs 1 (nm.map I) none ∧ s1.boxes 5 = some (0,dcl D (qo D ws)) ∧ s1.boxes 6 = some (0,evc X none none) ∧ s1.defers = [] ∧ s1.fid = 0:=by
        have tA : List.take k (set.map I) = (set.take k).map I:=List.map_take.symm
        have tB : List.drop (k + 1) (set.map I) = (set.drop (k + 1)).map I:=List.map_drop.symm
        have lA : (set.take k).length = k:=by rw [List.length_take]; omega
        have lB : (set.drop (k + 1)).length = set.length - (k + 1):=List.length_drop ..
        have hR : RST set k = set.take k ++ set.drop (k + 1):=rfl
        have tn : ((k : Int) + 1).toNat = k + 1:=by omega
        rw [hR]
        generalize set.take k = A1 at *
        generalize set.drop (k + 1) = B1 at *
        have aA : ((A1.map I).all fun e => e.fits 1) = true:=by simp [PV.fits,PV.cells]
        have aB : ((B1.map I).all fun e => e.fits 1) = true:=by simp [PV.fits,PV.cells]
        have tS : List.take set.length (set.map I) = set.map I:=List.take_of_length_le (by simp)
        by_cases hB : B1 = []
        · by_cases hA1 : A1 = []
          · simp (maxSteps:=999999) only [E0,seval,-Int.reduceNatCast',NUM,INTS,k2,tA,tB,tS,tn,aA,aB,List.length_map,Int.toNat_natCast,Nat.zero_add,Nat.add_zero,(show (0 : Int) ≤ k by omega),(show (k : Int) ≤ set.length by omega),(i64_in (x:=(k : Int) + 1) (by unfold I64; omega)),(show (0 : Int) ≤ k + 1 by omega),(show (k : Int) + 1 ≤ set.length by omega),implies_true,Int.le_refl,List.drop_zero,List.map_nil,List.length_nil,List.isEmpty_nil,or_self,List.map_eq_nil_iff,List.isEmpty_iff,hA1,hB,lA,lB,(show k ≤ 67108864 by omega),(show set.length - (k + 1) ≤ 67108864 by omega),(show k + (set.length - (k + 1)) ≤ 67108864 by omega),List.nil_append,imp_self,if_true] at hA
            replace hA:=ite_chk1 (fun a => [(9,[Vr.nx,Vr.row a],[Vr.nx,Vr.row a]),(4,[Vr.nx,Vr.row a],[Vr.nx,Vr.row a])]) s.H.next (by intro f h1; simp [renL,renM,renV,h1]) (by kernel_rfl) hA
            subst hA
            refine ⟨_,rfl,?_⟩
            simp (maxSteps:=999999) only [E0,seval,-Int.reduceNatCast',h17,hr17,h103,h102,h101,k2,k4,k5,k6,k13,k15,c5,c6,hd,hf,NADD0,(show ¬ r17 = s.H.next by omega)]
            exact ⟨.inl (by rw [hA1,hB]; rfl),hl17⟩
          · simp (maxSteps:=999999) only [E0,seval,-Int.reduceNatCast',NUM,INTS,k2,tA,tB,tS,tn,aA,aB,List.length_map,Int.toNat_natCast,Nat.zero_add,Nat.add_zero,(show (0 : Int) ≤ k by omega),(show (k : Int) ≤ set.length by omega),(i64_in (x:=(k : Int) + 1) (by unfold I64; omega)),(show (0 : Int) ≤ k + 1 by omega),(show (k : Int) + 1 ≤ set.length by omega),implies_true,Int.le_refl,List.drop_zero,List.map_nil,List.length_nil,List.isEmpty_nil,or_self,List.map_eq_nil_iff,List.isEmpty_iff,hA1,hB,lA,lB,(show k ≤ 67108864 by omega),(show set.length - (k + 1) ≤ 67108864 by omega),(show k + (set.length - (k + 1)) ≤ 67108864 by omega),List.nil_append,imp_self,if_true] at hA
            replace hA:=ite_chk1 (fun a => [(9,[Vr.row a],[Vr.row a]),(4,[Vr.nx,Vr.row a],[Vr.nx,Vr.row a])]) s.H.next (by intro f h1; simp [renL,renM,renV,h1]) (by kernel_rfl) hA
            subst hA
            refine ⟨_,rfl,?_⟩
            simp (maxSteps:=999999) only [E0,seval,-Int.reduceNatCast',h17,hr17,h103,h102,h101,k2,k4,k5,k6,k13,k15,c5,c6,hd,hf,NADD0,(show ¬ r17 = s.H.next by omega)]
            exact ⟨⟨s.H.next,0,by rw [hB,List.append_nil,lA],by simp (maxSteps:=999999) only [E0,seval,-Int.reduceNatCast',hB,List.append_nil],by omega,by omega⟩,by omega⟩
        · by_cases hA1 : A1 = []
          · simp (maxSteps:=999999) only [E0,seval,-Int.reduceNatCast',NUM,INTS,k2,tA,tB,tS,tn,aA,aB,List.length_map,Int.toNat_natCast,Nat.zero_add,Nat.add_zero,(show (0 : Int) ≤ k by omega),(show (k : Int) ≤ set.length by omega),(i64_in (x:=(k : Int) + 1) (by unfold I64; omega)),(show (0 : Int) ≤ k + 1 by omega),(show (k : Int) + 1 ≤ set.length by omega),implies_true,Int.le_refl,List.drop_zero,List.map_nil,List.length_nil,List.isEmpty_nil,or_self,List.map_eq_nil_iff,List.isEmpty_iff,hA1,hB,lA,lB,(show k ≤ 67108864 by omega),(show set.length - (k + 1) ≤ 67108864 by omega),(show k + (set.length - (k + 1)) ≤ 67108864 by omega),List.nil_append,imp_self,if_true] at hA
            replace hA:=ite_chk1 (fun a => [(9,[Vr.nx,Vr.row a],[Vr.nx,Vr.row a]),(4,[Vr.nx,Vr.row a],[Vr.nx,Vr.row a])]) s.H.next (by intro f h1; simp [renL,renM,renV,h1]) (by kernel_rfl) hA
            subst hA
            refine ⟨_,rfl,?_⟩
            simp (maxSteps:=999999) only [E0,seval,-Int.reduceNatCast',h17,hr17,h103,h102,h101,k2,k4,k5,k6,k13,k15,c5,c6,hd,hf,NADD0,(show ¬ r17 = s.H.next by omega)]
            exact ⟨⟨s.H.next,0,by rw [hA1,List.nil_append,lB],by simp (maxSteps:=999999) only [E0,seval,-Int.reduceNatCast',hA1,List.nil_append],by omega,by omega⟩,by omega⟩
          · simp (maxSteps:=999999) only [E0,seval,-Int.reduceNatCast',NUM,INTS,k2,tA,tB,tS,tn,aA,aB,List.length_map,Int.toNat_natCast,Nat.zero_add,Nat.add_zero,(show (0 : Int) ≤ k by omega),(show (k : Int) ≤ set.length by omega),(i64_in (x:=(k : Int) + 1) (by unfold I64; omega)),(show (0 : Int) ≤ k + 1 by omega),(show (k : Int) + 1 ≤ set.length by omega),implies_true,Int.le_refl,List.drop_zero,List.map_nil,List.length_nil,List.isEmpty_nil,or_self,List.map_eq_nil_iff,List.isEmpty_iff,hA1,hB,lA,lB,(show k ≤ 67108864 by omega),(show set.length - (k + 1) ≤ 67108864 by omega),(show k + (set.length - (k + 1)) ≤ 67108864 by omega),List.nil_append,imp_self,if_true] at hA
            replace hA:=ite_chk1 (fun a => [(9,[Vr.row a],[Vr.row a]),(4,[Vr.nx,Vr.row a],[Vr.nx,Vr.row a])]) s.H.next (by intro f h1; simp [renL,renM,renV,h1]) (by kernel_rfl) hA
            subst hA
            refine ⟨_,rfl,?_⟩
            simp (maxSteps:=999999) only [E0,seval,-Int.reduceNatCast',h17,hr17,h103,h102,h101,k2,k4,k5,k6,k13,k15,c5,c6,hd,hf,NADD0,(show ¬ r17 = s.H.next by omega)]
            exact ⟨⟨s.H.next,0,by rw [List.length_append,lA,lB],by simp (maxSteps:=999999) only [E0,seval,-Int.reduceNatCast',List.map_append],by omega,by omega⟩,by omega⟩
      rw [seqK_normal,WW_seq] at hW
      generalize hA : W _ _ s1 = A at hW
      have hSR:=RST_SOK k hS
      obtain ⟨s2,b,rfl,hbE,h23,h24,h21,h17,hr17,hl17,h103,h102,h101,k2,k4,k5,k6,k13,k15,c5,c6,hd,hf⟩ : ∃ (s2 : St) (b : Bool),A = some (.normal,s2) ∧ (b = true ↔ EXP D X (RST set k)) ∧ s2.tmps 23 = .bool b ∧ s2.tmps 24 = I 0 ∧ s2.tmps 21 = I t ∧
          s2.tmps 17 = .gsl 1 r17 ow.length 0 ow.length ∧ s2.H.rows r17 = some (.gro 1 (ow.map I) 0) ∧ r17 < s2.H.next ∧ s2.tmps 103 = I k ∧ s2.tmps 102 = I set.length ∧ s2.tmps 101 = .vs 1 (set.map I) none ∧ s2.tmps 2 = .vs 1 (set.map I) none ∧ s2.tmps 4 = .vs 2 (ps.map prb) none ∧ s2.tmps 5 = .bptr 0 5 0 0 ∧ s2.tmps 6 = .bptr 0 6 0 0 ∧ s2.tmps 13 = .vs 1 ((T.map fun n => BITS n m).map elt) none ∧ s2.tmps 15 = .vs 1 (nm.map I) none ∧ s2.boxes 5 = some (0,dcl D (qo D ws)) ∧ s2.boxes 6 = some (0,evc X none none) ∧ s2.defers = [] ∧ s2.fid = 0:=by
        have lR : (RST set k).length ≤ 1000000:=by
          unfold RST
          rw [List.length_append,List.length_take,List.length_drop]
          omega
        rcases hv22 with h22 | ⟨r,f,h22,hrr,hne,hrl⟩
        · obtain ⟨b,c,ee,ec,ex⟩:=c_explains hr (X:=X) (q:=qo D ws) hv hbw (RST set k) (.vs 1 ((RST set k).map I) (some 0)) (RV_vs _ _) lR
          have:=ec.2 ⟨hE,hSR⟩
          subst this
          simp (maxSteps:=999999) only [E0,seval,-Int.reduceNatCast',NUM,SRCH,SFRM,SCRP,SRGT,SDTY,SWEL,SWAV,SSUS,INTS,h22,k5,k6,c5,c6,ee,hd,hf] at hA
          subst hA
          refine ⟨_,b,rfl,ex rfl,?_⟩
          simp (maxSteps:=999999) only [E0,seval,-Int.reduceNatCast',h17,hr17,h21,h103,h102,h101,k2,k4,k5,k6,k13,k15,c5,c6,hd,hf]
          exact hl17
        · obtain ⟨b,c,ee,ec,ex⟩:=c_explains hr (X:=X) (q:=qo D ws) hv hbw (RST set k) (.vs 1 ((RST set k).map I) none) (RV_vs _ _) lR
          have:=ec.2 ⟨hE,hSR⟩
          subst this
          simp (maxSteps:=999999) only [E0,seval,-Int.reduceNatCast',NUM,SRCH,SFRM,SCRP,SRGT,SDTY,SWEL,SWAV,SSUS,INTS,h22,hrr,k5,k6,c5,c6,ee,hd,hf,List.length_map,Nat.zero_add,Nat.le_refl,List.drop_zero,List.take_of_length_le] at hA
          subst hA
          refine ⟨_,b,rfl,ex rfl,?_⟩
          simp (maxSteps:=999999) only [E0,seval,-Int.reduceNatCast',h17,hr17,h21,h103,h102,h101,k2,k4,k5,k6,k13,k15,c5,c6,hd,hf,(show ¬ r17 = r from fun e => hne e.symm)]
          exact hl17
      rw [seqK_normal] at hW
      cases b
      rotate_left
      · simp (maxSteps:=999999) only [E0,seval,-Int.reduceNatCast',NUM,INTS,h23,h24,h21,h17,hd,hf,List.length_map] at hW
        generalize hL : W _ (.loop _) _ = L at hW
        obtain ⟨ex,s3,rfl,rfl,h17,hr17,hl17,h103,h102,h101,k2,k4,k5,k6,k13,k15,c5,c6,hd,hf⟩:=loop_at hL (α:=Nat) (fun j => ow.length - j)
          (fun s0 j s => j ≤ ow.length ∧ s.tmps 139 = I j ∧ s.tmps 138 = I ow.length ∧ s.tmps 137 = .gsl 1 r17 ow.length 0 ow.length ∧ s.tmps 23 = .bool true ∧ s.tmps 21 = I t ∧ s.tmps 17 = .gsl 1 r17 ow.length 0 ow.length ∧ s.H.rows r17 = some (.gro 1 (ow.map I) 0) ∧ r17 < s.H.next ∧ s.tmps 103 = I k ∧ s.tmps 102 = I set.length ∧ s.tmps 101 = .vs 1 (set.map I) none ∧ s.tmps 2 = .vs 1 (set.map I) none ∧ s.tmps 4 = .vs 2 (ps.map prb) none ∧ s.tmps 5 = .bptr 0 5 0 0 ∧ s.tmps 6 = .bptr 0 6 0 0 ∧ s.tmps 13 = .vs 1 ((T.map fun n => BITS n m).map elt) none ∧ s.tmps 15 = .vs 1 (nm.map I) none ∧ s.boxes 5 = some (0,dcl D (qo D ws)) ∧ s.boxes 6 = some (0,evc X none none) ∧ s.defers = [] ∧ s.fid = 0)
          (fun s0 ex s => ex = .exit 4 ∧ s.tmps 17 = .gsl 1 r17 ow.length 0 ow.length ∧ s.H.rows r17 = some (.gro 1 (ow.map I) 0) ∧ r17 < s.H.next ∧ s.tmps 103 = I k ∧ s.tmps 102 = I set.length ∧ s.tmps 101 = .vs 1 (set.map I) none ∧ s.tmps 2 = .vs 1 (set.map I) none ∧ s.tmps 4 = .vs 2 (ps.map prb) none ∧ s.tmps 5 = .bptr 0 5 0 0 ∧ s.tmps 6 = .bptr 0 6 0 0 ∧ s.tmps 13 = .vs 1 ((T.map fun n => BITS n m).map elt) none ∧ s.tmps 15 = .vs 1 (nm.map I) none ∧ s.boxes 5 = some (0,dcl D (qo D ws)) ∧ s.boxes 6 = some (0,evc X none none) ∧ s.defers = [] ∧ s.fid = 0) 0
          (by simp (maxSteps:=999999) only [E0,seval,-Int.reduceNatCast',NUM,h23,h21,h17,hr17,h103,h102,h101,k2,k4,k5,k6,k13,k15,c5,c6]
              exact ⟨Nat.zero_le _,hl17⟩) (by
            rintro j s r hW ⟨hj,g139,g138,g137,h23,h21,h17,hr17,hl17,h103,h102,h101,k2,k4,k5,k6,k13,k15,c5,c6,hd,hf⟩
            by_cases hp : j < ow.length
            rotate_left
            · simp (maxSteps:=999999) only [E0,seval,-Int.reduceNatCast',NUM,g139,g138,hd,hf,(show ¬ (j : Int) < ow.length by omega)] at hW
              subst hW
              refine rd_exit ⟨rfl,?_,?_,?_,?_,?_,?_,?_,?_,?_,?_,?_,?_,?_,?_,?_,?_⟩ <;> simp (maxSteps:=999999) only [E0,seval,-Int.reduceNatCast',h17,hr17,h103,h102,h101,k2,k4,k5,k6,k13,k15,c5,c6,hd,hf]
              exact hl17
            have f0 : ow[j]? = some ow[j]:=List.getElem?_eq_getElem hp
            have f1:=ints_get f0
            obtain ⟨i,n,hx,hTi,hil,hos⟩:=hoM _ (List.getElem_mem hp)
            rw [hx] at f1
            have f2:=map_get (f:=elt) (map_get' (f:=fun n => BITS n m) hTi)
            simp (maxSteps:=999999) only [E0,seval,-Int.reduceNatCast',NUM,INTS,SELT,g139,g138,g137,h23,h21,h17,hr17,f1,f2,hd,hf,List.length_map,Int.toNat_natCast,Nat.zero_add,(show (j : Int) < ow.length by omega),(show (0 : Int) ≤ j by omega),(i64_in (x:=(j : Int) + 1) (by unfold I64; omega))] at hW
            subst hW
            refine rd_next (j + 1) ?_ (show ow.length - (j + 1) < ow.length - j by omega)
            simp (maxSteps:=999999) only [E0,seval,-Int.reduceNatCast',g138,g137,h23,h21,h17,hr17,h103,h102,h101,k2,k4,k5,k6,k13,k15,c5,c6,hd]
            exact ⟨by omega,by simp,hl17⟩)
        simp (maxSteps:=999999) only [E0,seval,-Int.reduceNatCast',NUM,h103,hd,hf,(i64_in (x:=(k : Int) + 1) (by unfold I64; omega))] at hW
        subst hW
        refine rd_next (k + 1) ?_ (show set.length - (k + 1) < set.length - k by omega)
        simp (maxSteps:=999999) only [E0,seval,-Int.reduceNatCast',h17,hr17,h102,h101,k2,k4,k5,k6,k13,k15,c5,c6,hd]
        exact ⟨by omega,hl17,by simp⟩
      · have hnb : ¬ EXP D X (RST set k):=fun g => by have:=hbE.2 g; cases this
        have tin:=SOK_bd hS t (List.mem_of_getElem? e0)
        have htn : t ∈ nm:=by
          have h1:=own_need hr hE hS e0 hnb hn0 hs0
          obtain ⟨i,rfl⟩:=Int.eq_ofNat_of_zero_le (show 0 ≤ t by omega)
          exact hnn i (by omega) ⟨n0,hn0,h1⟩
        have ch:=c_has nm none t (by omega)
        rw [decide_eq_true htn] at ch
        simp (maxSteps:=999999) only [E0,seval,-Int.reduceNatCast',NUM,INTS,h23,h24,h21,h17,k15,ch,hd,hf,List.length_map] at hW
        generalize hL : W _ (.loop _) _ = L at hW
        obtain ⟨ex,s3,rfl,rfl,h17,hr17,hl17,h103,h102,h101,k2,k4,k5,k6,k13,k15,c5,c6,hd,hf⟩:=loop_at hL (α:=Nat) (fun j => ow.length - j)
          (fun s0 j s => j ≤ ow.length ∧ s.tmps 139 = I j ∧ s.tmps 138 = I ow.length ∧ s.tmps 137 = .gsl 1 r17 ow.length 0 ow.length ∧ s.tmps 23 = .bool false ∧ s.tmps 21 = I t ∧ s.tmps 17 = .gsl 1 r17 ow.length 0 ow.length ∧ s.H.rows r17 = some (.gro 1 (ow.map I) 0) ∧ r17 < s.H.next ∧ s.tmps 103 = I k ∧ s.tmps 102 = I set.length ∧ s.tmps 101 = .vs 1 (set.map I) none ∧ s.tmps 2 = .vs 1 (set.map I) none ∧ s.tmps 4 = .vs 2 (ps.map prb) none ∧ s.tmps 5 = .bptr 0 5 0 0 ∧ s.tmps 6 = .bptr 0 6 0 0 ∧ s.tmps 13 = .vs 1 ((T.map fun n => BITS n m).map elt) none ∧ s.tmps 15 = .vs 1 (nm.map I) none ∧ s.boxes 5 = some (0,dcl D (qo D ws)) ∧ s.boxes 6 = some (0,evc X none none) ∧ s.defers = [] ∧ s.fid = 0)
          (fun s0 ex s => ex = .exit 4 ∧ s.tmps 17 = .gsl 1 r17 ow.length 0 ow.length ∧ s.H.rows r17 = some (.gro 1 (ow.map I) 0) ∧ r17 < s.H.next ∧ s.tmps 103 = I k ∧ s.tmps 102 = I set.length ∧ s.tmps 101 = .vs 1 (set.map I) none ∧ s.tmps 2 = .vs 1 (set.map I) none ∧ s.tmps 4 = .vs 2 (ps.map prb) none ∧ s.tmps 5 = .bptr 0 5 0 0 ∧ s.tmps 6 = .bptr 0 6 0 0 ∧ s.tmps 13 = .vs 1 ((T.map fun n => BITS n m).map elt) none ∧ s.tmps 15 = .vs 1 (nm.map I) none ∧ s.boxes 5 = some (0,dcl D (qo D ws)) ∧ s.boxes 6 = some (0,evc X none none) ∧ s.defers = [] ∧ s.fid = 0) 0
          (by simp (maxSteps:=999999) only [E0,seval,-Int.reduceNatCast',NUM,h23,h21,h17,hr17,h103,h102,h101,k2,k4,k5,k6,k13,k15,c5,c6]
              exact ⟨Nat.zero_le _,hl17⟩) (by
            rintro j s r hW ⟨hj,g139,g138,g137,h23,h21,h17,hr17,hl17,h103,h102,h101,k2,k4,k5,k6,k13,k15,c5,c6,hd,hf⟩
            by_cases hp : j < ow.length
            rotate_left
            · simp (maxSteps:=999999) only [E0,seval,-Int.reduceNatCast',NUM,g139,g138,hd,hf,(show ¬ (j : Int) < ow.length by omega)] at hW
              subst hW
              refine rd_exit ⟨rfl,?_,?_,?_,?_,?_,?_,?_,?_,?_,?_,?_,?_,?_,?_,?_,?_⟩ <;> simp (maxSteps:=999999) only [E0,seval,-Int.reduceNatCast',h17,hr17,h103,h102,h101,k2,k4,k5,k6,k13,k15,c5,c6,hd,hf]
              exact hl17
            have f0 : ow[j]? = some ow[j]:=List.getElem?_eq_getElem hp
            have f1:=ints_get f0
            obtain ⟨i,n,hx,hTi,hil,hos⟩:=hoM _ (List.getElem_mem hp)
            rw [hx] at f1
            have f2:=map_get (f:=elt) (map_get' (f:=fun n => BITS n m) hTi)
            have hin : t ∈ BITS n m:=by
              have h1:=own_need hr hE hS e0 hnb ((hTm n).1 (List.mem_of_getElem? hTi)) (by rw [hm]; exact hos)
              rw [hm] at h1
              exact h1
            have ch2:=c_has (BITS n m) none t (by have:=BITS_len n m; omega)
            rw [decide_eq_true hin] at ch2
            simp (maxSteps:=999999) only [E0,seval,-Int.reduceNatCast',NUM,INTS,SELT,g139,g138,g137,h23,h21,h17,hr17,k13,f1,f2,ch2,hd,hf,List.length_map,Int.toNat_natCast,Nat.zero_add,(show (j : Int) < ow.length by omega),(show (0 : Int) ≤ j by omega),(show (i : Int) < T.length by omega),(show (0 : Int) ≤ i by omega),(i64_in (x:=(j : Int) + 1) (by unfold I64; omega))] at hW
            subst hW
            refine rd_next (j + 1) ?_ (show ow.length - (j + 1) < ow.length - j by omega)
            simp (maxSteps:=999999) only [E0,seval,-Int.reduceNatCast',g138,g137,h23,h21,h17,hr17,h103,h102,h101,k2,k4,k5,k6,k13,k15,c5,c6,hd]
            exact ⟨by omega,by simp,hl17⟩)
        simp (maxSteps:=999999) only [E0,seval,-Int.reduceNatCast',NUM,h103,hd,hf,(i64_in (x:=(k : Int) + 1) (by unfold I64; omega))] at hW
        subst hW
        refine rd_next (k + 1) ?_ (show set.length - (k + 1) < set.length - k by omega)
        simp (maxSteps:=999999) only [E0,seval,-Int.reduceNatCast',h17,hr17,h102,h101,k2,k4,k5,k6,k13,k15,c5,c6,hd]
        exact ⟨by omega,hl17,by simp⟩)
  have sp0 : (ps.map prb).map strip0 = ps.map prb:=by
    rw [List.map_map]
    have : ∀ p ∈ ps,(strip0 ∘ prb) p = prb p:=fun p hp => by
      show PV.agg [I p.cost,strip0 p.v] = _
      rw [(RVS (hrv p hp).1).1.1]
    exact List.map_congr_left this
  have sp1 : strip0L (ps.map prb) = ps.map prb:=by rw [strip0L_map,sp0]
  by_cases hT12 : 12 < T.length
  · simp (maxSteps:=999999) only [E0,seval,-Int.reduceNatCast',NUM,k13,hd,hf,List.length_map,(show (12 : Int) < T.length by omega)]
  have hTlt : ∀ n ∈ T,n < 2 ^ m:=fun n hn => by rw [← hm]; exact (MINL_mem.1 ((hTm n).1 hn)).1
  have hm12 : m ≤ 12:=by omega
  obtain ⟨e,ek,hek⟩:=c_pcheck (T:=T) (m:=m) (ps:=ps) (c:=none) hm12 hTlt (fun h => by have:=(hTm n0).2 hn0; rw [h] at this; cases this) hpl hrv
  by_cases he : e = 0
  rotate_left
  · simp (maxSteps:=999999) only [E0,seval,-Int.reduceNatCast',NUM,SELT,INTS,sp0,sp1,k13,k4,hd,hf,ek,he,List.length_map,(show ¬ (12 : Int) < T.length by omega)]
  obtain ⟨H',rd⟩:=hek he
  subst he
  have eb:=c_best rd
  have hP:=PSM_of (T:=T) (by omega) rd.ok
  have hpn:=rd.pn
  obtain ⟨bv,hbv⟩ : ∃ bv,nextVer (s.boxes 27) = bv:=⟨_,rfl⟩
  simp (maxSteps:=999999) only [E0,seval,-Int.reduceNatCast',NUM,SELT,INTS,sp0,sp1,hbv,k13,h17,k4,hd,hf,ek,eb,TP_all,TPC,List.length_map,(show ¬ (12 : Int) < T.length by omega)]
  have p0 : 2 ^ T.length ≤ 2 ^ 12:=Nat.pow_le_pow_right (by decide) (by omega)
  have p1 : (2 : Nat) ^ 12 = 4096:=by decide
  have p2 : 0 < 2 ^ T.length:=Nat.pow_pos (by decide)
  obtain ⟨bs,es,hsg⟩:=c_single ps none m (by omega) (fun p hp => (hrv p hp).1) (by omega)
  generalize hL : W _ (.loop _) _ = L
  obtain ⟨ex,s3,rfl,rfl,hd,hf⟩:=loop_at hL (α:=Nat) (fun j => ow.length - j)
    (fun s0 j s => j ≤ ow.length ∧ s.tmps 176 = I j ∧ s.tmps 175 = I ow.length ∧ s.tmps 174 = .gsl 1 r17 ow.length 0 ow.length ∧ s.H.rows r17 = some (.gro 1 (ow.map I) 0) ∧ r17 < s.H.next ∧ s.tmps 4 = .vs 2 (ps.map prb) none ∧ s.tmps 6 = .bptr 0 6 0 0 ∧ s.tmps 13 = .vs 1 ((T.map fun n => BITS n m).map elt) none ∧ s.tmps 27 = .bptr 0 27 bv 0 ∧ s.tmps 28 = I (CH (PMS T ps) (2 ^ T.length - 1)).1 ∧ s.boxes 6 = some (0,evc X none none) ∧ s.boxes 27 = some (bv,(TP (TRE (PMS T ps) (2 ^ T.length - 1))).cells) ∧ s.defers = [] ∧ s.fid = 0)
    (fun s0 ex s => ex = .exit 6 ∧ s.defers = [] ∧ s.fid = 0) 0
    (by simp (maxSteps:=999999) only [E0,seval,-Int.reduceNatCast',NUM,hr17,k4,k6,k13,c6]
        exact ⟨Nat.zero_le _,hl17⟩) (by
      rintro j s r hW ⟨hj,g176,g175,g174,hr17,hl17,k4,k6,k13,k27,k28,c6,c27,hd,hf⟩
      by_cases hp : j < ow.length
      rotate_left
      · simp (maxSteps:=999999) only [E0,seval,-Int.reduceNatCast',NUM,g176,g175,hd,hf,(show ¬ (j : Int) < ow.length by omega)] at hW
        subst hW
        refine rd_exit ⟨rfl,?_,?_⟩ <;> simp (maxSteps:=999999) only [E0,seval,-Int.reduceNatCast',hd,hf]
      have f0 : ow[j]? = some ow[j]:=List.getElem?_eq_getElem hp
      have f1:=ints_get f0
      obtain ⟨i,n,hx,hTi,hil,hos⟩:=hoM _ (List.getElem_mem hp)
      rw [hx] at f1
      have f2:=map_get (f:=elt) (map_get' (f:=fun n => BITS n m) hTi)
      have hnl:=hTlt n (List.mem_of_getElem? hTi)
      have eS:=SETB_BITS n m hm12 hnl
      obtain ⟨⟨fw1,fw2⟩,⟨fw3,fw4⟩,_,_⟩:=FW_ok hP hTi (2 ^ T.length - 1) (by omega) (by rw [Nat.testBit_two_pow_sub_one]; simpa using hil)
      have hib : (i : Int) ∈ BITS (FW (PMS T ps) n (TRE (PMS T ps) (2 ^ T.length - 1))).2 12:=BITS_mem.2 ⟨i,by omega,rfl,(bit_iff _ _).1 fw4⟩
      have h1 : bs = true → BITS (FW (PMS T ps) n (TRE (PMS T ps) (2 ^ T.length - 1))).2 12 = [(i : Int)]:=fun hb => FW_one hP hTi hm12 hTlt hTn rd.tl (hsg hb)
      have ef:=c_pfollow rd (BITS n m) (elt (BITS n m)) (RV_vs _ _) (by have:=BITS_len n m; omega) (by rw [eS]) (by rw [eS]; intro g; rw [g] at hib; cases hib)
      rw [eS] at ef
      simp only at ef
      have lb:=BITS_len (FW (PMS T ps) n (TRE (PMS T ps) (2 ^ T.length - 1))).2 12
      generalize BITS (FW (PMS T ps) n (TRE (PMS T ps) (2 ^ T.length - 1))).2 12 = B1 at *
      generalize (FW (PMS T ps) n (TRE (PMS T ps) (2 ^ T.length - 1))).1 = c1 at *
      have ch:=c_has B1 none i (by omega)
      rw [decide_eq_true hib] at ch
      have FACTS : True:=trivial
      cases bs with
      | true =>
        have hB:=h1 rfl
        subst hB
        rw [List.map_cons,List.map_nil] at ch
        simp (maxSteps:=999999) only [E0,seval,-Int.reduceNatCast',NUM,SELT,INTS,sp0,sp1,TP_all,TPC,TP_frz,TP_slF,g176,g175,g174,hr17,k4,k6,k13,k27,k28,c6,c27,hd,hf,f1,f2,ef,ch,es,hm,List.length_map,Int.toNat_natCast,Nat.zero_add,(show (j : Int) < ow.length by omega),(show (0 : Int) ≤ j by omega),(show (i : Int) < T.length by omega),(show (0 : Int) ≤ i by omega),(show ¬ (CH (PMS T ps) (2 ^ T.length - 1)).1 < c1 by omega),(i64_in (x:=(j : Int) + 1) (by unfold I64; omega)),List.length_cons,List.length_nil] at hW
        subst hW
        refine rd_next (j + 1) ?_ (show ow.length - (j + 1) < ow.length - j by omega)
        simp (maxSteps:=999999) only [E0,seval,-Int.reduceNatCast',g175,g174,hr17,k4,k6,k13,k27,k28,c6,c27,hd]
        exact ⟨by omega,by simp,hl17⟩
      | false =>
        simp (maxSteps:=999999) only [E0,seval,-Int.reduceNatCast',NUM,SELT,INTS,sp0,sp1,TP_all,TPC,TP_frz,TP_slF,g176,g175,g174,hr17,k4,k6,k13,k27,k28,c6,c27,hd,hf,f1,f2,ef,ch,es,hm,List.length_map,Int.toNat_natCast,Nat.zero_add,(show (j : Int) < ow.length by omega),(show (0 : Int) ≤ j by omega),(show (i : Int) < T.length by omega),(show (0 : Int) ≤ i by omega),(show ¬ (CH (PMS T ps) (2 ^ T.length - 1)).1 < c1 by omega),(i64_in (x:=(j : Int) + 1) (by unfold I64; omega))] at hW
        subst hW
        refine rd_next (j + 1) ?_ (show ow.length - (j + 1) < ow.length - j by omega)
        simp (maxSteps:=999999) only [E0,seval,-Int.reduceNatCast',g175,g174,hr17,k4,k6,k13,k27,k28,c6,c27,hd]
        exact ⟨by omega,by simp,hl17⟩)
  simp (maxSteps:=999999) only [E0,seval,-Int.reduceNatCast',NUM,hd,hf]
end
def NN (_ : Nat) : Bool:=false
theorem wf_bd {k : IntKind} {n : Int} (h : (Lit.int k n).wf = true) : k.min ≤ n ∧ n ≤ k.max:=by
  simpa only [Lit.wf,Bool.and_eq_true,decide_eq_true_eq] using h
theorem wf_i64 {n : Int} (h : (Lit.int .i64 n).wf = true) : I64 n:=by
  have:=wf_bd h
  simp [IntKind.min,IntKind.max,IntKind.bits,IntKind.signed] at this
  exact this
theorem sh_int {g : Nat} {cs : List PV} (h : Sh NN Tryz.prog (g + 1) 3 cs) : ∃ n,cs = [I n] ∧ I64 n:=by
  simp only [Sh,Tryz.underlying3] at h
  obtain ⟨n,rfl,w⟩:=h
  exact ⟨n,rfl,wf_i64 w⟩
theorem agg_int : aggB Tryz.prog 3 = false:=by kernel_rfl
theorem els_map {α : Type} {P : PV → Prop} (f : α → PV) (Q : α → Prop) (hP : ∀ x,P x → ∃ a,x = f a ∧ Q a) : ∀ (es : List PV),(∀ x ∈ es,P x) → ∃ l : List α,es = l.map f ∧ ∀ a ∈ l,Q a
  | [],_ => ⟨[],rfl,by simp⟩
  | e :: r,h => by
    obtain ⟨a,rfl,ha⟩:=hP e (h e (by simp))
    obtain ⟨l,rfl,hl⟩:=els_map f Q hP r fun x hx => h x (by simp [hx])
    refine ⟨a :: l,rfl,?_⟩
    intro b hb
    rcases List.mem_cons.1 hb with rfl | hb
    · exact ha
    · exact hl b hb
theorem sh_str {g : Nat} {cs : List PV} (h : Sh NN Tryz.prog (g + 1) 9 cs) : ∃ s,cs = [.str s]:=by
  simp only [Sh,Tryz.underlying9] at h
  obtain ⟨s,rfl,_⟩:=h
  exact ⟨s,rfl⟩
theorem sh_rat {g : Nat} {cs : List PV} (h : Sh NN Tryz.prog (g + 2) 63 cs) : ∃ a b,cs = [I a,I b] ∧ I64 a ∧ I64 b:=by
  unfold Sh at h
  simp only [Tryz.underlying63,ShF] at h
  obtain ⟨_,_,rfl,h1,_,_,rfl,h2,rfl⟩:=h
  obtain ⟨a,rfl,ha⟩:=sh_int h1
  obtain ⟨b,rfl,hb⟩:=sh_int h2
  exact ⟨a,b,rfl,ha,hb⟩
theorem sh_range {g : Nat} {cs : List PV} (h : Sh NN Tryz.prog (g + 2) 66 cs) : ∃ a b,cs = [I a,I b] ∧ I64 a ∧ I64 b:=by
  unfold Sh at h
  simp only [Tryz.underlying66,ShF] at h
  obtain ⟨_,_,rfl,h1,_,_,rfl,h2,rfl⟩:=h
  obtain ⟨a,rfl,ha⟩:=sh_int h1
  obtain ⟨b,rfl,hb⟩:=sh_int h2
  exact ⟨a,b,rfl,ha,hb⟩
theorem sh_tank {g : Nat} {cs : List PV} (h : Sh NN Tryz.prog (g + 2) 23 cs) : ∃ a b,cs = [I a,I b] ∧ I64 a ∧ I64 b:=by
  unfold Sh at h
  simp only [Tryz.underlying23,ShF] at h
  obtain ⟨_,_,rfl,h1,_,_,rfl,h2,rfl⟩:=h
  obtain ⟨a,rfl,ha⟩:=sh_int h1
  obtain ⟨b,rfl,hb⟩:=sh_int h2
  exact ⟨a,b,rfl,ha,hb⟩
theorem sh_seep {g : Nat} {cs : List PV} (h : Sh NN Tryz.prog (g + 3) 64 cs) : ∃ a b c d,cs = [I a,I b,I c,I d] ∧ I64 a ∧ I64 b ∧ I64 c ∧ I64 d:=by
  unfold Sh at h
  simp only [Tryz.underlying64,ShA] at h
  obtain ⟨_,_,rfl,h1,_,_,rfl,h2,rfl⟩:=h
  obtain ⟨a,b,rfl,ha,hb⟩:=sh_rat h1
  obtain ⟨c,d,rfl,hc,hd⟩:=sh_rat h2
  exact ⟨a,b,c,d,rfl,ha,hb,hc,hd⟩
theorem sh_rch {g : Nat} {cs : List PV} (h : Sh NN Tryz.prog (g + 4) 68 cs) : ∃ x : Rch,PV.agg cs = rch x ∧ x.OK:=by
  unfold Sh at h
  simp only [Tryz.underlying68,ShF] at h
  obtain ⟨_,_,rfl,h1,_,_,rfl,h2,_,_,rfl,h3,_,_,rfl,h4,_,_,rfl,h5,_,_,rfl,h6,_,_,rfl,h7,_,_,rfl,h8,rfl⟩:=h
  obtain ⟨nm,rfl⟩:=sh_str h1
  obtain ⟨up,rfl,_⟩:=sh_int h2
  obtain ⟨dl,rfl,_⟩:=sh_int h3
  obtain ⟨cp,rfl,_⟩:=sh_int h4
  obtain ⟨bk,rfl,_⟩:=sh_int h5
  obtain ⟨si,rfl,_⟩:=sh_int h6
  obtain ⟨e0,e1,rfl,_⟩:=sh_range h7
  obtain ⟨s0,s1,s2,s3,rfl,a,b,c,d⟩:=sh_seep h8
  exact ⟨⟨nm,up,dl,cp,bk,si,e0,e1,s0,s1,s2,s3⟩,rfl,a,b,c,d⟩
theorem sh_frm {g : Nat} {cs : List PV} (h : Sh NN Tryz.prog (g + 2) 70 cs) : ∃ x : Frm,PV.agg cs = frm x:=by
  unfold Sh at h
  simp only [Tryz.underlying70,ShF] at h
  obtain ⟨_,_,rfl,h1,_,_,rfl,h2,_,_,rfl,h3,_,_,rfl,h4,rfl⟩:=h
  obtain ⟨nm,rfl⟩:=sh_str h1
  obtain ⟨a,rfl,_⟩:=sh_int h2
  obtain ⟨b,rfl,_⟩:=sh_int h3
  obtain ⟨c,rfl,_⟩:=sh_int h4
  exact ⟨⟨nm,a,b,c⟩,rfl⟩
theorem sh_crp {g : Nat} {cs : List PV} (h : Sh NN Tryz.prog (g + 2) 194 cs) : ∃ x : Crp,PV.agg cs = crp x:=by
  unfold Sh at h
  simp only [Tryz.underlying194,ShF] at h
  obtain ⟨_,_,rfl,h1,_,_,rfl,h2,rfl⟩:=h
  obtain ⟨nm,rfl⟩:=sh_str h1
  obtain ⟨a,rfl,_⟩:=sh_int h2
  exact ⟨⟨nm,a⟩,rfl⟩
theorem sh_rgt {g : Nat} {cs : List PV} (h : Sh NN Tryz.prog (g + 2) 196 cs) : ∃ x : Rgt,PV.agg cs = rgt x:=by
  unfold Sh at h
  simp only [Tryz.underlying196,ShF] at h
  obtain ⟨_,_,rfl,h1,_,_,rfl,h2,_,_,rfl,h3,_,_,rfl,h4,_,_,rfl,h5,_,_,rfl,h6,_,_,rfl,h7,_,_,rfl,h8,_,_,rfl,h9,_,_,rfl,h10,rfl⟩:=h
  obtain ⟨nm,rfl⟩:=sh_str h1
  obtain ⟨a2,rfl,_⟩:=sh_int h2
  obtain ⟨a3,rfl,_⟩:=sh_int h3
  obtain ⟨a4,rfl,_⟩:=sh_int h4
  obtain ⟨a5,rfl,_⟩:=sh_int h5
  obtain ⟨a6,rfl,_⟩:=sh_int h6
  obtain ⟨a7,rfl,_⟩:=sh_int h7
  obtain ⟨a8,rfl,_⟩:=sh_int h8
  obtain ⟨a9,rfl,_⟩:=sh_int h9
  obtain ⟨a10,rfl,_⟩:=sh_int h10
  exact ⟨⟨nm,a2,a3,a4,a5,a6,a7,a8,a9,a10⟩,rfl⟩
theorem sh_dty {g : Nat} {cs : List PV} (h : Sh NN Tryz.prog (g + 2) 199 cs) : ∃ x : Dty,PV.agg cs = dty x:=by
  unfold Sh at h
  simp only [Tryz.underlying199,ShF] at h
  obtain ⟨_,_,rfl,h1,_,_,rfl,h2,_,_,rfl,h3,_,_,rfl,h4,rfl⟩:=h
  obtain ⟨nm,rfl⟩:=sh_str h1
  obtain ⟨a,rfl,_⟩:=sh_int h2
  obtain ⟨b,rfl,_⟩:=sh_int h3
  obtain ⟨c,rfl,_⟩:=sh_int h4
  exact ⟨⟨nm,a,b,c⟩,rfl⟩
theorem agg_rch : aggB Tryz.prog 68 = true:=by kernel_rfl
theorem agg_frm : aggB Tryz.prog 70 = true:=by kernel_rfl
theorem agg_crp : aggB Tryz.prog 194 = true:=by kernel_rfl
theorem agg_rgt : aggB Tryz.prog 196 = true:=by kernel_rfl
theorem agg_dty : aggB Tryz.prog 199 = true:=by kernel_rfl
theorem sh_ints {g : Nat} {cs : List PV} (h : Sh NN Tryz.prog (g + 2) 36 cs) : ∃ l : List Int,cs = [.vs 1 (l.map I) none] ∧ l.length ≤ maxLen:=by
  obtain ⟨es,rfl,hl,hx⟩:=Sh_slice Tryz.underlying36 rfl h
  obtain ⟨l,rfl,_⟩:=els_map I I64 (P:=fun x => ∃ ps,x = elOf (aggB Tryz.prog 3) ps ∧ Sh NN Tryz.prog (g + 1) 3 ps) (by
    rintro x ⟨ps,rfl,hs⟩
    obtain ⟨n,rfl,hn⟩:=sh_int hs
    exact ⟨n,by rw [agg_int]; rfl,hn⟩) es hx
  exact ⟨l,rfl,by simpa using hl⟩
theorem sh_lst {α : Type} {g : Nat} {t e : Nat} (f : α → PV) (Q : α → Prop) (he : Tryz.prog.underlying t = some (.slice e)) (ha : aggB Tryz.prog e = true) (hP : ∀ cs,Sh NN Tryz.prog g e cs → ∃ a,PV.agg cs = f a ∧ Q a) {cs : List PV} (h : Sh NN Tryz.prog (g + 1) t cs) :
    ∃ l : List α,cs = [.vs (Tryz.prog.cellsOf e) (l.map f) none] ∧ l.length ≤ maxLen ∧ ∀ a ∈ l,Q a:=by
  obtain ⟨es,rfl,hm,hx⟩:=Sh_slice he rfl h
  obtain ⟨l,rfl,hl⟩:=els_map f Q (P:=fun x => ∃ ps,x = elOf (aggB Tryz.prog e) ps ∧ Sh NN Tryz.prog g e ps) (by
    rintro x ⟨ps,rfl,hs⟩
    obtain ⟨a,ea,qa⟩:=hP ps hs
    exact ⟨a,by rw [ha]; exact ea,qa⟩) es hx
  exact ⟨l,rfl,by simpa using hm,hl⟩
theorem agg_well : aggB Tryz.prog 229 = true:=by kernel_rfl
theorem agg_rg : aggB Tryz.prog 66 = true:=by kernel_rfl
theorem agg_wav : aggB Tryz.prog 74 = true:=by kernel_rfl
theorem agg_sus : aggB Tryz.prog 76 = true:=by kernel_rfl
theorem agg_tru : aggB Tryz.prog 86 = true:=by kernel_rfl
theorem agg_prb : aggB Tryz.prog 78 = true:=by kernel_rfl
theorem agg_dis : aggB Tryz.prog 31 = true:=by kernel_rfl
theorem agg_evd : aggB Tryz.prog 35 = true:=by kernel_rfl
theorem agg_sl : aggB Tryz.prog 36 = false ∧ aggB Tryz.prog 37 = false ∧ aggB Tryz.prog 38 = false:=⟨by kernel_rfl,by kernel_rfl,by kernel_rfl⟩
theorem sh_wel {g : Nat} {cs : List PV} (h : Sh NN Tryz.prog (g + 3) 229 cs) : ∃ x : Wel,PV.agg cs = wel x:=by
  unfold Sh at h
  simp only [Tryz.underlying229,ShF] at h
  obtain ⟨_,_,rfl,h1,_,_,rfl,h2,_,_,rfl,h3,_,_,rfl,h4,rfl⟩:=h
  obtain ⟨a,rfl,_⟩:=sh_int h1
  obtain ⟨b,rfl,_⟩:=sh_int h2
  obtain ⟨c,rfl,_⟩:=sh_int h3
  obtain ⟨l,rfl,_⟩:=sh_ints h4
  exact ⟨⟨a,b,c,l⟩,rfl⟩
theorem sh_rg {g : Nat} {cs : List PV} (h : Sh NN Tryz.prog (g + 2) 66 cs) : ∃ p : Int × Int,PV.agg cs = rg p:=by
  obtain ⟨a,b,rfl,_⟩:=sh_range h
  exact ⟨(a,b),rfl⟩
theorem sh_rgs {g : Nat} {cs : List PV} (h : Sh NN Tryz.prog (g + 3) 71 cs) : ∃ l : List (Int × Int),cs = [.vs 2 (l.map rg) none]:=by
  obtain ⟨l,rfl,_⟩:=sh_lst rg (fun _ => True) Tryz.underlying71 agg_rg (fun cs h => by obtain ⟨x,e⟩:=sh_rg h; exact ⟨x,e,trivial⟩) h
  exact ⟨l,rfl⟩
theorem sh_wav {g : Nat} {cs : List PV} (h : Sh NN Tryz.prog (g + 4) 74 cs) : ∃ x : Wav,PV.agg cs = wav x:=by
  unfold Sh at h
  simp only [Tryz.underlying74,ShF] at h
  obtain ⟨_,_,rfl,h1,_,_,rfl,h2,_,_,rfl,h3,_,_,rfl,h4,rfl⟩:=h
  obtain ⟨a,rfl,_⟩:=sh_int h1
  obtain ⟨b,rfl⟩:=sh_rgs h2
  obtain ⟨c,rfl⟩:=sh_rgs h3
  obtain ⟨d,rfl⟩:=sh_rgs h4
  exact ⟨⟨a,b,c,d⟩,rfl⟩
theorem sh_sus {g : Nat} {cs : List PV} (h : Sh NN Tryz.prog (g + 2) 76 cs) : ∃ x : Sus,PV.agg cs = sus x:=by
  unfold Sh at h
  simp only [Tryz.underlying76,ShF] at h
  obtain ⟨_,_,rfl,h1,_,_,rfl,h2,_,_,rfl,h3,rfl⟩:=h
  obtain ⟨a,rfl,_⟩:=sh_int h1
  obtain ⟨b,rfl,_⟩:=sh_int h2
  obtain ⟨c,rfl,_⟩:=sh_int h3
  exact ⟨⟨a,b,c⟩,rfl⟩
theorem sh_tru {g : Nat} {cs : List PV} (h : Sh NN Tryz.prog (g + 3) 86 cs) : ∃ x : Tru,PV.agg cs = tru x:=by
  unfold Sh at h
  simp only [Tryz.underlying86,ShF] at h
  obtain ⟨_,_,rfl,h1,_,_,rfl,h2,_,_,rfl,h3,_,_,rfl,h4,_,_,rfl,h5,rfl⟩:=h
  obtain ⟨a,rfl,_⟩:=sh_ints h1
  obtain ⟨b,rfl,_⟩:=sh_ints h2
  obtain ⟨c,rfl,_⟩:=sh_ints h3
  obtain ⟨d,rfl,_⟩:=sh_ints h4
  obtain ⟨e,rfl,_⟩:=sh_ints h5
  exact ⟨⟨a,b,c,d,e⟩,rfl⟩
theorem sh_dis {g : Nat} {cs : List PV} (h0 : Sh NN Tryz.prog (g + 6) 31 cs) : ∃ (D : Dis) (ws : List Wel),PV.agg cs = dv D ws ∧ ∀ x ∈ D.rs,x.OK:=by
  unfold Sh at h0
  simp only [Tryz.underlying31,ShF] at h0
  obtain ⟨_,_,rfl,h1,_,_,rfl,h2,_,_,rfl,h3,_,_,rfl,h4,_,_,rfl,h5,_,_,rfl,h6,_,_,rfl,h7,_,_,rfl,h8,_,_,rfl,h9,rfl⟩:=h0
  obtain ⟨nm,rfl⟩:=sh_str h1
  obtain ⟨hours,rfl,_⟩:=sh_int h2
  obtain ⟨cap,start,rfl,_⟩:=sh_tank h3
  obtain ⟨rs,rfl,_,hr⟩:=sh_lst rch Rch.OK Tryz.underlying24 agg_rch (fun cs h => sh_rch h) h4
  obtain ⟨fs,rfl,_,_⟩:=sh_lst frm (fun _ => True) Tryz.underlying25 agg_frm (fun cs h => by obtain ⟨x,e⟩:=sh_frm h; exact ⟨x,e,trivial⟩) h5
  obtain ⟨cs,rfl,_,_⟩:=sh_lst crp (fun _ => True) Tryz.underlying26 agg_crp (fun cs h => by obtain ⟨x,e⟩:=sh_crp h; exact ⟨x,e,trivial⟩) h6
  obtain ⟨gs,rfl,_,_⟩:=sh_lst rgt (fun _ => True) Tryz.underlying27 agg_rgt (fun cs h => by obtain ⟨x,e⟩:=sh_rgt h; exact ⟨x,e,trivial⟩) h7
  obtain ⟨ds,rfl,_,_⟩:=sh_lst dty (fun _ => True) Tryz.underlying28 agg_dty (fun cs h => by obtain ⟨x,e⟩:=sh_dty h; exact ⟨x,e,trivial⟩) h8
  obtain ⟨ws,rfl,_,_⟩:=sh_lst wel (fun _ => True) Tryz.underlying29 agg_well (fun cs h => by obtain ⟨x,e⟩:=sh_wel h; exact ⟨x,e,trivial⟩) h9
  exact ⟨⟨nm,hours,cap,start,rs,fs,cs,gs,ds⟩,ws,rfl,hr⟩
theorem sh_evd {g : Nat} {cs : List PV} (h : Sh NN Tryz.prog (g + 6) 35 cs) : ∃ X : Evd,PV.agg cs = ev X none none:=by
  unfold Sh at h
  simp only [Tryz.underlying35,ShF] at h
  obtain ⟨_,_,rfl,h1,_,_,rfl,h2,rfl⟩:=h
  obtain ⟨ws,rfl,_,_⟩:=sh_lst wav (fun _ => True) Tryz.underlying32 agg_wav (fun cs h => by obtain ⟨x,e⟩:=sh_wav h; exact ⟨x,e,trivial⟩) h1
  obtain ⟨ss,rfl,_,_⟩:=sh_lst sus (fun _ => True) Tryz.underlying33 agg_sus (fun cs h => by obtain ⟨x,e⟩:=sh_sus h; exact ⟨x,e,trivial⟩) h2
  exact ⟨⟨ws,ss⟩,rfl⟩
theorem sh_trus {g : Nat} {cs : List PV} (h : Sh NN Tryz.prog (g + 4) 37 cs) : ∃ l : List Tru,cs = [.vs 5 (l.map tru) none]:=by
  obtain ⟨l,rfl,_⟩:=sh_lst tru (fun _ => True) Tryz.underlying37 agg_tru (fun cs h => by obtain ⟨x,e⟩:=sh_tru h; exact ⟨x,e,trivial⟩) h
  exact ⟨l,rfl⟩
theorem sh_prb {g : Nat} {cs : List PV} (h : Sh NN Tryz.prog (g + 3) 78 cs) : ∃ x : Prb,PV.agg cs = prb x ∧ RV x.set x.v ∧ x.set.length ≤ maxLen:=by
  unfold Sh at h
  simp only [Tryz.underlying78,ShF] at h
  obtain ⟨_,_,rfl,h1,_,_,rfl,h2,rfl⟩:=h
  obtain ⟨a,rfl,_⟩:=sh_int h1
  obtain ⟨l,rfl,hl⟩:=sh_ints h2
  exact ⟨⟨a,l,_⟩,rfl,RV_vs l none,hl⟩
theorem sh_prbs {g : Nat} {cs : List PV} (h : Sh NN Tryz.prog (g + 4) 38 cs) : ∃ l : List Prb,cs = [.vs 2 (l.map prb) none] ∧ l.length ≤ maxLen ∧ ∀ p ∈ l,RV p.set p.v ∧ p.set.length ≤ maxLen:=by
  obtain ⟨l,rfl,hm,hl⟩:=sh_lst prb (fun p => RV p.set p.v ∧ p.set.length ≤ maxLen) Tryz.underlying38 agg_prb (fun cs h => by obtain ⟨x,e,h1,h2⟩:=sh_prb h; exact ⟨x,e,h1,h2⟩) h
  exact ⟨l,rfl,hm,hl⟩
end Go.Proofs.YtofkhhokaalknaaGreatDoor
