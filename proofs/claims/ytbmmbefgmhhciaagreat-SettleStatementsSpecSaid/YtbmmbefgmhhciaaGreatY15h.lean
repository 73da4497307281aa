/-
  Statements matches the specification: the law.
-/
import Derived.Test.YtbmmbefgmhhciaaGreatGd
set_option linter.unusedSimpArgs false
set_option linter.unusedVariables false
set_option linter.unusedSectionVars false
namespace Go.Proofs.YtbmmbefgmhhciaaGreat
open Go GoV
set_option maxRecDepth 100000
section
variable {M : Mkt} (hr : ∀ x ∈ M.D.rs,x.OK) {Ws av : List PV} (hw : SWS Ws) (hA : AWV M.aw av)
include hr hw hA
omit hr hw hA in
theorem same_sz : ap Tryz.prog pol 15 [.nils,.nils] = some (.ret (.bool true)):=by
  rw [ap_eq _ Tryz.func15 rfl Tryz.ntmps15 Tryz.results15 (by kernel_rfl) rfl (by exact Nat.le_of_ble_eq_true rfl)]
  simp (maxSteps:=999999) only [E0,seval,-Int.reduceNatCast',NUM,WW_loop]
omit hw in
set_option maxHeartbeats 8000000 in
theorem w_statements (hv : DV M.D (qq M.D Ws av).cs (qq M.D Ws av).gs (qq M.D Ws av).ds (qq M.D Ws av).ws) (hw : SWS Ws) (set f : Int) : ap Tryz.prog pol 4 [.agg (mcl M (qq M.D Ws av)),I set,I f] = some (.ret (.bool true)):=by
  have hlen:=SAV hA
  obtain ⟨b0,cf⟩:=c_few hv hA
  have cs:=c_statements hr hv hA set f
  have rs:=c_rStatements hr hw hA set f
  unfold STMV at cs rs
  rw [ap_eq _ Tryz.func4 rfl Tryz.ntmps4 Tryz.results4 (by kernel_rfl) rfl (by exact Nat.le_of_ble_eq_true rfl)]
  cases b0 with
  | false =>
    simp (maxSteps:=999999) only [E0,seval,-Int.reduceNatCast',K2,hw,hlen,c_sane,cf]
  | true =>
  by_cases h : PE M set = 0
  rotate_left
  · rw [if_pos h] at cs rs
    simp (maxSteps:=999999) only [E0,seval,-Int.reduceNatCast',K2,hw,hlen,c_sane,cf,cs,rs,same_sz]
  rw [if_neg (fun g => g h)] at cs rs
  by_cases f0 : f < 0 ∨ (M.D.fs.length : Int) ≤ f
  · rw [if_pos f0] at cs rs
    simp (maxSteps:=999999) only [E0,seval,-Int.reduceNatCast',K2,hw,hlen,c_sane,cf,cs,rs,same_sz]
  rw [if_neg f0] at cs rs
  obtain ⟨h0,_,_⟩:=PE_0 h
  have lo:=(MC_0 (ASK_0 h0).1).2.2.1
  have sl:=STS_len (PAY M.os set) M.os set f M.os.length
  have ss:=c_samest (STS (PAY M.os set) M.os set f M.os.length) none none (by omega)
  simp (maxSteps:=999999) only [E0,seval,-Int.reduceNatCast',K2,hw,hlen,SSTM,c_sane,cf,cs,rs,ss]
end
end Go.Proofs.YtbmmbefgmhhciaaGreat
