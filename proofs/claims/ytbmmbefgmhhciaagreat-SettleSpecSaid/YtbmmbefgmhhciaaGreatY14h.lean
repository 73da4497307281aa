/-
  Pay and Books match the specification: the law.
-/
import Derived.Test.YtbmmbefgmhhciaaGreatGd
set_option linter.unusedSimpArgs false
set_option linter.unusedVariables false
set_option linter.unusedSectionVars false
namespace Go.Proofs.YtbmmbefgmhhciaaGreat
open Go GoV
set_option maxRecDepth 100000
section
variable {M : Mkt} (hr : ∀ x ∈ M.D.rs,x.OK) {Ws av : List PV} (hw : SWS Ws) (hA : AWV M.aw av)
include hr hw hA
omit hr hw hA in
theorem same_z : ap Tryz.prog pol 11 [.nils,.nils] = some (.ret (.bool true)):=by
  rw [ap_eq _ Tryz.func11 rfl Tryz.ntmps11 Tryz.results11 (by kernel_rfl) rfl (by exact Nat.le_of_ble_eq_true rfl)]
  simp (maxSteps:=999999) only [E0,seval,-Int.reduceNatCast',NUM,WW_loop]
omit hr hw hA in
theorem same_y : ap Tryz.prog pol 11 [.vs 1 [] none,.nils] = some (.ret (.bool true)):=by
  rw [ap_eq _ Tryz.func11 rfl Tryz.ntmps11 Tryz.results11 (by kernel_rfl) rfl (by exact Nat.le_of_ble_eq_true rfl)]
  simp (maxSteps:=999999) only [E0,seval,-Int.reduceNatCast',NUM,WW_loop]
omit hr hw hA in
theorem same_45z : ap Tryz.prog pol 29 [.nils,.nils] = some (.ret (.bool true)):=by
  rw [ap_eq _ Tryz.func29 rfl Tryz.ntmps29 Tryz.results29 (by kernel_rfl) rfl (by exact Nat.le_of_ble_eq_true rfl)]
  simp (maxSteps:=999999) only [E0,seval,-Int.reduceNatCast',NUM,WW_loop]
omit hr hw hA in
theorem same_tz : ap Tryz.prog pol 12 [.nils,.nils] = some (.ret (.bool true)):=by
  rw [ap_eq _ Tryz.func12 rfl Tryz.ntmps12 Tryz.results12 (by kernel_rfl) rfl (by exact Nat.le_of_ble_eq_true rfl)]
  simp (maxSteps:=999999) only [E0,seval,-Int.reduceNatCast',NUM,same_45z]
omit hw in
set_option maxHeartbeats 8000000 in
theorem w_spec (hv : DV M.D (qq M.D Ws av).cs (qq M.D Ws av).gs (qq M.D Ws av).ds (qq M.D Ws av).ws) (hw : SWS Ws) (set : Int) : ap Tryz.prog pol 3 [.agg (mcl M (qq M.D Ws av)),I set] = some (.ret (.bool true)):=by
  have hlen:=SAV hA
  obtain ⟨b0,cf⟩:=c_few hv hA
  have cp:=c_pay hr hv hA set
  obtain ⟨tv,ct,htv⟩:=c_Aft hr hv hA set
  have cb:=c_books hr hv hA set tv ct htv
  have rp:=c_rPay hr hw hA set
  obtain ⟨tw,rb,htw⟩:=c_rBooks hr hw hA set
  unfold PAYV at cp rp
  unfold BKV at cb
  unfold RBK at rb
  rw [ap_eq _ Tryz.func3 rfl Tryz.ntmps3 Tryz.results3 (by kernel_rfl) rfl (by exact Nat.le_of_ble_eq_true rfl)]
  cases b0 with
  | false =>
    simp (maxSteps:=999999) only [E0,seval,-Int.reduceNatCast',K2,hw,hlen,c_sane,cf]
  | true =>
  by_cases h : PE M set = 0
  rotate_left
  · rw [if_pos h] at cp cb rp rb
    simp (maxSteps:=999999) only [E0,seval,-Int.reduceNatCast',K2,hw,hlen,c_sane,cf,cp,cb,rp,rb,same_z,same_y,same_tz]
  rw [if_neg (fun g => g h)] at cp cb rp rb
  obtain ⟨h0,ha,hp⟩:=PE_0 h
  obtain ⟨T,hT⟩ : ∃ T,AFT M set = some T:=Option.ne_none_iff_exists'.1 ha
  have t1:=htv T h0 hT
  have t2:=htw T h0 hT
  have st:=STV t1
  have su:=STV t2
  have hM:=(ASK_0 h0).1
  have lo:=(MC_0 hM).2.2.1
  have la:=(MC_0 hM).2.1
  have lfs:=(XC_0 (MC_0 hM).1).1.2.1
  have sz:=MOVT_sz hM set (k:=M.os.length) (Nat.le_refl _)
  rw [← AFT_eq hT] at sz
  have t5:=c_sameT T tv tw none none t1 t2 (by rw [sz.len]; omega) (fun l hl => by rw [sz.row l hl]; omega)
  have sp : ap Tryz.prog pol 11 [.vs 1 ((PAYS M.os set).map I) none,.vs 1 ((PAYS M.os set).map I) none] = some (.ret (.bool true)):=by rw [c_same _ _ none none (by rw [PAYS_len]; omega),decide_eq_true rfl]
  have sm : ap Tryz.prog pol 11 [.vs 1 ((MONS M set).map I) none,.vs 1 ((MONS M set).map I) none] = some (.ret (.bool true)):=by rw [c_same _ _ none none (by rw [MONS_len]; omega),decide_eq_true rfl]
  simp (maxSteps:=999999) only [E0,seval,-Int.reduceNatCast',K2,hw,hlen,c_sane,cf,cp,cb,rp,rb,st,su,t5,sp,sm]
end
end Go.Proofs.YtbmmbefgmhhciaaGreat
