/-
  Evidence, suspects and probes (part 2).
-/
import Derived.Test.YtofkhhokaalknaaGreatDoorGa
set_option linter.unusedSimpArgs false
set_option linter.unusedVariables false
set_option linter.unusedSectionVars false
namespace Go.Proofs.YtofkhhokaalknaaGreatDoor
open Go GoV
set_option maxRecDepth 100000
section
variable {D : Dis} (hr : ∀ x ∈ D.rs,x.OK) {X : Evd} {q : Cps}
include hr
set_option maxHeartbeats 4000000 in
theorem c_equal (hE : EOK D X) (l : List Tru) (cl : Option Nat) (hl : l.length ≤ 1000000) {set : List Int} {id : Nat} (H : Heap) (h : INQ X set id H) (R : Option (CR × Heap))
    (hX : callF G Tryz.prog pol 19 [.vs 4 (X.ws.map wav) q.w,.vs 5 (l.map tru) cl,.bnd 20 [.agg (inq D X q id)]] H = R) :
    ∃ b H',R = some (.ret (.bool b),H') ∧ (∀ i < H.next,H'.rows i = H.rows i) ∧ H.next ≤ H'.next ∧ (b = true → X.ws.length = l.length ∧ ∀ (i : Nat) (w : Wav) (t : Tru),X.ws[i]? = some w → l[i]? = some t → FIT D X set w t):=by
  subst hX
  have lw:=hE.2.1
  rw [callF_eq _ _ Tryz.func19 rfl Tryz.ntmps19 Tryz.results19 (by kernel_rfl) rfl (by exact Nat.le_of_ble_eq_true rfl)]
  by_cases h0 : X.ws.length = l.length
  rotate_left
  · simp (maxSteps:=999999) only [E0,seval,-Int.reduceNatCast',NUM,List.length_map,(show ¬ (X.ws.length : Int) = l.length by omega)]
    exact ⟨_,_,rfl,fun _ _ => rfl,by simp only; omega,by simp⟩
  simp (maxSteps:=999999) only [E0,seval,-Int.reduceNatCast',NUM,List.length_map,h0]
  generalize hL : W _ (.loop _) _ = L
  obtain ⟨ex,s,rfl,hd,hf,hfr,hnx,hex⟩:=loop_at hL (α:=Nat) (fun k => l.length - k)
    (fun s0 j s => j ≤ l.length ∧ (∀ i < j,∀ (w : Wav) (t : Tru),X.ws[i]? = some w → l[i]? = some t → FIT D X set w t) ∧ s.tmps 17 = I j ∧ s.tmps 16 = I l.length ∧ s.tmps 15 = .vs 4 (X.ws.map wav) q.w ∧ s.tmps 1 = .vs 5 (l.map tru) cl ∧ s.tmps 2 = .bnd 20 [.agg (inq D X q id)] ∧
      (∀ i < H.next,s.H.rows i = H.rows i) ∧ H.next ≤ s.H.next ∧ s.defers = [] ∧ s.fid = H.next)
    (fun s0 ex s => s.defers = [] ∧ s.fid = H.next ∧ (∀ i < H.next,s.H.rows i = H.rows i) ∧ H.next ≤ s.H.next ∧ ((ex = .ret ∧ s.tmps 6 = .bool false) ∨ (ex = .exit 0 ∧ ∀ i < l.length,∀ (w : Wav) (t : Tru),X.ws[i]? = some w → l[i]? = some t → FIT D X set w t))) 0
    (by simp (maxSteps:=999999) only [E0,seval,-Int.reduceNatCast']; exact ⟨Nat.zero_le _,fun i hi => absurd hi (Nat.not_lt_zero i),by simp,fun _ _ => trivial,by omega⟩) (by
      rintro j s r hW ⟨hj,hA,h17,h16,h15,h1,h2,hfr,hnx,hd,hf⟩
      by_cases hp : j < l.length
      · have hjw : j < X.ws.length:=by omega
        have e0 : X.ws[j]? = some (X.ws[j]'hjw):=List.getElem?_eq_getElem _
        have f0 : l[j]? = some l[j]:=List.getElem?_eq_getElem hp
        have e1:=map_get (f:=wav) e0
        have f1:=map_get (f:=tru) f0
        generalize X.ws[j]'hjw = w at *
        generalize l[j] = t at *
        have hw : w ∈ X.ws:=List.mem_of_getElem? e0
        have hI:=h.mono (H':=s.H) (hfr id h.lt) hnx
        obtain ⟨b,H',ef,ff,fn,hb⟩:=c_fits hr (q:=q) hE hw t s.H hI _ rfl
        obtain ⟨bv,hbv⟩ : ∃ bv,nextVer (s.boxes 8) = bv:=⟨_,rfl⟩
        obtain ⟨bv',hbv'⟩ : ∃ bv,nextVer (s.boxes 9) = bv:=⟨_,rfl⟩
        have lt : (j : Int) < l.length:=by omega
        have lt' : (j : Int) < X.ws.length:=by omega
        cases b with
        | false =>
          simp (maxSteps:=999999) only [E0,seval,-Int.reduceNatCast',NUM,h17,h16,h15,h1,h2,ef,hbv,hbv',hd,hf,e1,f1,lt,lt',List.length_map,Int.toNat_natCast,(show (0 : Int) ≤ j by omega)] at hW
          subst hW
          refine rd_ret ⟨?_,?_,?_,?_,.inl ⟨rfl,?_⟩⟩ <;> simp (maxSteps:=999999) only [E0,seval,-Int.reduceNatCast',hd,hf]
          · exact fun i hi => (ff i (by omega)).trans (hfr i hi)
          · omega
        | true =>
          simp (maxSteps:=999999) only [E0,seval,-Int.reduceNatCast',NUM,h17,h16,h15,h1,h2,ef,hbv,hbv',hd,hf,e1,f1,lt,lt',List.length_map,Int.toNat_natCast,(show (0 : Int) ≤ j by omega),(i64_in (x:=(j : Int) + 1) (by unfold I64; omega))] at hW
          subst hW
          refine rd_next (j + 1) ?_ (show l.length - (j + 1) < l.length - j by omega)
          simp (maxSteps:=999999) only [E0,seval,-Int.reduceNatCast',h16,h15,h1,h2,hd]
          refine ⟨by omega,fun i hi w' t' ew et => ?_,by simp,fun i hi => (ff i (by omega)).trans (hfr i hi),by omega⟩
          by_cases g : i = j
          · subst g; rw [e0] at ew; rw [f0] at et; cases ew; cases et; exact hb rfl
          · exact hA i (by omega) w' t' ew et
      · simp (maxSteps:=999999) only [E0,seval,-Int.reduceNatCast',NUM,h17,h16,hd,hf,(show ¬ (j : Int) < l.length by omega)] at hW
        subst hW
        have : j = l.length:=by omega
        subst this
        refine rd_exit ⟨?_,?_,?_,?_,.inr ⟨rfl,hA⟩⟩ <;> simp (maxSteps:=999999) only [E0,seval,-Int.reduceNatCast',hd,hf]
        · exact hfr
        · exact hnx)
  rcases hex with ⟨rfl,h6⟩ | ⟨rfl,hA⟩
  · simp (maxSteps:=999999) only [E0,seval,-Int.reduceNatCast',hd,hf,h6]
    exact ⟨_,_,rfl,hfr,hnx,by simp⟩
  · simp (maxSteps:=999999) only [E0,seval,-Int.reduceNatCast',hd,hf]
    exact ⟨_,_,rfl,hfr,hnx,fun _ => fun i w t ew et => hA i (List.getElem?_eq_some_iff.1 et).1 w t ew et⟩
theorem STRU : (∀ l : List Tru,strip0L (l.map tru) = l.map tru) ∧ (∀ l : List Tru,(l.map tru).map strip0 = l.map tru) ∧ (∀ H (l : List Tru),(l.map tru).map (strip1 H) = l.map tru) ∧ (∀ H (l : List Tru),(l.map tru).map (strip2 H) = l.map tru) ∧ (∀ H (l : List Tru),strip1L H (l.map tru) = l.map tru) ∧ (∀ H (l : List Tru),strip2L H (l.map tru) = l.map tru):=
  STR tru (fun x => by show PV.agg [.vs 1 (strip0L (x.hs.map I)) none,.vs 1 (strip0L (x.os.map I)) none,.vs 1 (strip0L (x.ts.map I)) none,.vs 1 (strip0L (x.ar.map I)) none,.vs 1 (strip0L (x.tk.map I)) none] = _; simp only [strip0_ints])
    (fun H x => by show PV.agg [.vs 1 (strip1L H (x.hs.map I)) none,.vs 1 (strip1L H (x.os.map I)) none,.vs 1 (strip1L H (x.ts.map I)) none,.vs 1 (strip1L H (x.ar.map I)) none,.vs 1 (strip1L H (x.tk.map I)) none] = _; simp only [strip1_ints])
    (fun H x => by show PV.agg [.vs 1 (strip2L H (x.hs.map I)) none,.vs 1 (strip2L H (x.os.map I)) none,.vs 1 (strip2L H (x.ts.map I)) none,.vs 1 (strip2L H (x.ar.map I)) none,.vs 1 (strip2L H (x.tk.map I)) none] = _; simp only [strip2_ints])
theorem c_accepts (hv : DV D q.cs q.gs q.ds q.ws) (hb : ∀ w ∈ X.ws,w.hs.length ≤ 1000000 ∧ w.os.length ≤ 1000000 ∧ w.ts.length ≤ 1000000) (set : List Int) (v : PV) (hs : RV set v) (hls : set.length ≤ 1000000) (l : List Tru) (cl : Option Nat) (hl : l.length ≤ 1000000) :
    ∃ b c,ap Tryz.prog pol 6 [.agg (dcl D q),.agg (evq X q),v,.vs 5 (l.map tru) cl] = some (.ret (.tup [.bool b,I c])) ∧ (b = true → c = 0 → EOK D X ∧ SOK X.ss.length (-1) set ∧
      X.ws.length = l.length ∧ ∀ (i : Nat) (w : Wav) (t : Tru),X.ws[i]? = some w → l[i]? = some t → FIT D X set w t):=by
  rw [ap_eq _ Tryz.func6 rfl Tryz.ntmps6 Tryz.results6 (by kernel_rfl) rfl (by exact Nat.le_of_ble_eq_true rfl)]
  simp (maxSteps:=999999) only [E0,seval,-Int.reduceNatCast',NUM]
  generalize hA : callF _ _ _ _ _ _ = A
  obtain ⟨H',c,w,rfl,hfr,hnx,hc⟩:=c_ask hr hv hb set v hs hls _ _ hA
  rcases hc with ⟨h0,_,cs,rfl,hcs⟩ | ⟨rfl,hE,hS,mm,rfl,hrow,hlt,hB⟩
  · simp (maxSteps:=999999) only [E0,seval,-Int.reduceNatCast',NUM,h0,hcs]
    exact ⟨_,_,rfl,fun h => by cases h⟩
  · have hI : INQ X set _ H':=⟨⟨mm,hrow,hB⟩,hlt⟩
    obtain ⟨b,H2,ee,_,_,hb'⟩:=c_equal hr (q:=q) hE l cl hl H' hI _ rfl
    simp (maxSteps:=999999) only [E0,seval,-Int.reduceNatCast',NUM] at ee
    simp (maxSteps:=999999) only [E0,seval,-Int.reduceNatCast',NUM,ee]
    exact ⟨b,_,rfl,fun h _ => ⟨hE,hS,hb' h⟩⟩
end
theorem NADD0 : (∀ a b : Nat,(a = a + b) = (b = 0)) ∧ (∀ a b : Nat,(a + b = a) = (b = 0)):=⟨fun a b => by simp,fun a b => by simp⟩
abbrev zv (n : Nat) : PV:=.vs 1 (List.replicate n (I 0)) (some n)
theorem zv_get {n k : Nat} (h : k < n) : (List.replicate n (I 0))[k]? = some (I 0):=by rw [List.getElem?_replicate,if_pos h]
abbrev crs (D : Dis) (X : Evd) (q : Cps) (id : Nat) (w : Wav) (hid : Nat) : List PV:=[.str D.nm,I D.hours,I D.cap,I D.start,.vs 12 (D.rs.map rch) q.r,.vs 4 (D.fs.map frm) q.f,q.cs,q.gs,q.ds,q.ws,.vs 4 (X.ws.map wav) q.w,.vs 3 (X.ss.map sus) q.s,.map id,
  I w.hour,.vs 2 (w.hs.map rg) none,.vs 2 (w.os.map rg) none,.vs 2 (w.ts.map rg) none,.gsl 2 hid D.rs.length 0 D.rs.length,zv D.rs.length,zv D.fs.length,zv D.rs.length,zv D.rs.length,zv X.ss.length]
theorem chk_leaves (ops : Array Oper) (a : Nat) (h : chkL ops [(15,[Vr.row 1],[Vr.row 1]),(13,[Vr.row 1],[Vr.row 1]),(10,[Vr.box 5],[]),(7,[Vr.row 1],[]),(4,[Vr.box 5],[]),(1,[Vr.row 1],[])] [(15,[Vr.row 1],[Vr.row 1]),(13,[Vr.row 1],[Vr.row 1]),(10,[Vr.box 5],[]),(7,[Vr.row 1],[]),(4,[Vr.box 5],[]),(1,[Vr.row 1],[])] = true) :
    chkL ops [(15,[Vr.row a],[Vr.row a]),(13,[Vr.row a],[Vr.row a]),(10,[Vr.box 5],[]),(7,[Vr.row a],[]),(4,[Vr.box 5],[]),(1,[Vr.row a],[])] [(15,[Vr.row a],[Vr.row a]),(13,[Vr.row a],[Vr.row a]),(10,[Vr.box 5],[]),(7,[Vr.row a],[]),(4,[Vr.box 5],[]),(1,[Vr.row a],[])] = true:=
  chkL_at ops (fun a => [(15,[Vr.row a],[Vr.row a]),(13,[Vr.row a],[Vr.row a]),(10,[Vr.box 5],[]),(7,[Vr.row a],[]),(4,[Vr.box 5],[]),(1,[Vr.row a],[])]) 1 a (by simp [renL,renM,renV,swp]) h
theorem chk_keep3 (ops : Array Oper) (a b c d e : Nat) (x : Nat)
    (h1 : chk1 ops a [.all] [(a,([.all],[.all])),(b,([],[])),(c,([.all],[.all])),(d,([],[])),(e,([],[]))] = true)
    (h2 : chk1 ops c [.all] [(a,([.all],[.all])),(b,([],[])),(c,([.all],[.all])),(d,([],[])),(e,([],[]))] = true) :
    chkK ops [x] [(a,([.all],[.all])),(b,([.row x],[])),(c,([.all],[.all])),(d,([.row x],[])),(e,([.row x],[]))] [(a,([.all],[.all])),(b,([.row x],[])),(c,([.all],[.all])),(d,([.row x],[])),(e,([.row x],[]))] = true:=by
  simp only [chkK,isAllB,if_true,dropL,dropM,List.map_cons,List.map_nil,List.filter,notIn,List.contains_cons,List.contains_nil,Bool.or_false,beq_self_eq_true,Bool.not_true,h1,h2,Bool.and_true]
theorem chk_keep4 (ops : Array Oper) (a b c d e f t : Nat) (x : Nat)
    (h1 : chk1 ops a [.all] [(a,([.all],[.all])),(b,([],[])),(c,([.all],[.all])),(d,([],[])),(e,([],[])),(f,([.box t],[]))] = true)
    (h2 : chk1 ops c [.all] [(a,([.all],[.all])),(b,([],[])),(c,([.all],[.all])),(d,([],[])),(e,([],[])),(f,([.box t],[]))] = true) :
    chkK ops [x] [(a,([.all],[.all])),(b,([.row x],[])),(c,([.all],[.all])),(d,([.row x],[])),(e,([.row x],[])),(f,([.box t],[]))] [(a,([.all],[.all])),(b,([.row x],[])),(c,([.all],[.all])),(d,([.row x],[])),(e,([.row x],[])),(f,([.box t],[]))] = true:=by
  simp only [chkK,isAllB,if_true,dropL,dropM,List.map_cons,List.map_nil,List.filter,notIn,List.contains_cons,List.contains_nil,Bool.or_false,beq_self_eq_true,Bool.not_true,h1,h2,Bool.and_true]
theorem chk_keep5 (ops : Array Oper) (a b c d e f t : Nat) (x : Nat)
    (h1 : chk1 ops a [.all] [(a,([.all],[.all])),(b,([],[])),(c,([.all],[.all])),(d,([],[])),(e,([.box t],[])),(f,([.box t],[]))] = true)
    (h2 : chk1 ops c [.all] [(a,([.all],[.all])),(b,([],[])),(c,([.all],[.all])),(d,([],[])),(e,([.box t],[])),(f,([.box t],[]))] = true) :
    chkK ops [x] [(a,([.all],[.all])),(b,([.row x],[])),(c,([.all],[.all])),(d,([.row x],[])),(e,([.box t],[])),(f,([.box t],[]))] [(a,([.all],[.all])),(b,([.row x],[])),(c,([.all],[.all])),(d,([.row x],[])),(e,([.box t],[])),(f,([.box t],[]))] = true:=by
  simp only [chkK,isAllB,if_true,dropL,dropM,List.map_cons,List.map_nil,List.filter,notIn,List.contains_cons,List.contains_nil,Bool.or_false,beq_self_eq_true,Bool.not_true,h1,h2,Bool.and_true]
def gL (rs : List Rch) (hs : List (Int × Int)) (r : Int) (k : Nat) : Int:=if (rs[k]?).map Rch.up = some r then ((hs[k]?).map (·.1)).getD 0 else 0
def gU (rs : List Rch) (hs : List (Int × Int)) (r : Int) (k : Nat) : Int:=if (rs[k]?).map Rch.up = some r then ((hs[k]?).map (·.2)).getD 0 else 0
theorem gL_bd {rs : List Rch} {hs : List (Int × Int)} (h : ∀ p ∈ hs,RG p) (r : Int) (k : Nat) : (0 ≤ gL rs hs r k ∧ gL rs hs r k ≤ 1073741824) ∧ (0 ≤ gU rs hs r k ∧ gU rs hs r k ≤ 1073741824):=by
  unfold gL gU
  split
  · cases e : hs[k]? with
    | none => simp
    | some p =>
      have:=h p (List.mem_of_getElem? e)
      obtain ⟨a,b,c⟩:=this
      simp only [Option.map_some,Option.getD_some]
      omega
  · omega
def gF (ss : List Sus) (set : List Int) (fs : List Frm) (os : List (Int × Int)) (r : Int) (f : Nat) : Int × Int:=if (fs[f]?).map Frm.at_ = some r then MT ss set 2 f ((os[f]?).getD (0,0)) else (0,0)
theorem gF_bd {ss : List Sus} (hS : ∀ s ∈ ss,1 ≤ s.mo ∧ s.mo ≤ 1073741824) (set : List Int) {fs : List Frm} {os : List (Int × Int)} (h : ∀ p ∈ os,RG p) (r : Int) (f : Nat) : (0 ≤ (gF ss set fs os r f).1 ∧ (gF ss set fs os r f).1 ≤ 1073741824) ∧ (0 ≤ (gF ss set fs os r f).2 ∧ (gF ss set fs os r f).2 ≤ 1073741824):=by
  unfold gF
  split
  · have hp : RG ((os[f]?).getD (0,0)):=by
      cases e : os[f]? with
      | none => exact ⟨by decide,by decide,by decide⟩
      | some p => exact h p (List.mem_of_getElem? e)
    obtain ⟨a,b,c⟩:=MT_RG hS set 2 f hp
    omega
  · exact ⟨⟨by decide,by decide⟩,⟨by decide,by decide⟩⟩
def gP (ss : List Sus) (set : List Int) (r : Int) (i : Nat) : Int × Int:=if (ss[i]?).map (fun s => (s.kd,s.ix)) = some (4,r) then MT ss set 4 r (0,0) else (0,0)
theorem gP_bd {ss : List Sus} (hS : ∀ s ∈ ss,1 ≤ s.mo ∧ s.mo ≤ 1073741824) (set : List Int) (r : Int) (i : Nat) : (0 ≤ (gP ss set r i).1 ∧ (gP ss set r i).1 ≤ 1073741824) ∧ (0 ≤ (gP ss set r i).2 ∧ (gP ss set r i).2 ≤ 1073741824):=by
  unfold gP
  split
  · obtain ⟨a,b,c⟩:=MT_RG hS set 4 r (p:=(0,0)) ⟨by decide,by decide,by decide⟩
    omega
  · exact ⟨⟨by decide,by decide⟩,⟨by decide,by decide⟩⟩
def LV (D : Dis) (X : Evd) (set : List Int) (w : Wav) (hs : List (Int × Int)) (r : Nat) : Int × Int:=
  ((MT X.ss set 3 r ((w.ts[r]?).getD (0,0))).1 + SUMF (gL D.rs hs r) D.rs.length + SUMF (fun i => (gF X.ss set D.fs w.os r i).1) D.fs.length + SUMF (fun i => (gP X.ss set r i).1) X.ss.length,
   (MT X.ss set 3 r ((w.ts[r]?).getD (0,0))).2 + SUMF (gU D.rs hs r) D.rs.length + SUMF (fun i => (gF X.ss set D.fs w.os r i).2) D.fs.length + SUMF (fun i => (gP X.ss set r i).2) X.ss.length)
theorem run_of {rec : Rec} {cx : Ctx} {ops : Array Oper} {S : St} {B : Option (Ex × St)} (_ : bruteW rec cx ops S = B) : ∃ p,runD rec cx ops 0 ops.toList S [] = p:=⟨_,rfl⟩
section
variable {D : Dis} (hr : ∀ x ∈ D.rs,x.OK) {X : Evd} {q : Cps} {w : Wav} {set : List Int} {id : Nat}
include hr
set_option maxHeartbeats 4000000 in
theorem c_leaves (hE : EOK D X) (hw : w ∈ X.ws) (cr hid : Nat) (hs : List (Int × Int)) (hh : hs.length = D.rs.length) (hrg : ∀ p ∈ hs,RG p) (r : Nat) (hrl : r < D.rs.length) (H : Heap) (h : INQ X set id H)
    (hc : H.rows cr = some (.gro 23 [.agg (crs D X q id w hid)] 0)) (hcl : cr < H.next) (hhr : H.rows hid = some (.gro 2 (hs.map rg) 0)) (hhl : hid < H.next) (R : Option (CR × Heap))
    (hX : callF G Tryz.prog pol 51 [.ptr cr 1 0 0,I r] H = R) :
    ∃ H',R = some (.ret (.agg [I (LV D X set w hs r).1,I (LV D X set w hs r).2]),H') ∧ (∀ i < H.next,H'.rows i = H.rows i) ∧ H.next ≤ H'.next:=by
  rw [callF_eq _ _ Tryz.func51 rfl Tryz.ntmps51 Tryz.results51 (by kernel_rfl) rfl (by exact Nat.le_of_ble_eq_true rfl)] at hX
  simp (maxSteps:=999999) only [E0,seval,-Int.reduceNatCast',NUM] at hX
  rw [callF_eq _ _ Tryz.func76 rfl Tryz.ntmps76 Tryz.results76 (by kernel_rfl) rfl (by exact Nat.le_of_ble_eq_true rfl)] at hX
  simp (maxSteps:=999999) only [E0,seval,-Int.reduceNatCast',NUM] at hX
  rw [callF_eq _ _ Tryz.func98 rfl Tryz.ntmps98 Tryz.results98 (by kernel_rfl) rfl (by exact Nat.le_of_ble_eq_true rfl)] at hX
  obtain ⟨hX0,hlw,hls,hW1,hS1⟩:=hE
  obtain ⟨g1,g2,g3⟩:=WVS_mem hW1 w hw
  have k3:=g3.1
  have idl:=h.lt
  have zr:=zv_get hrl
  have p0 : w.ts[r]? = some (w.ts[r]'(by omega)):=List.getElem?_eq_getElem _
  have p1:=map_get (f:=rg) p0
  generalize w.ts[r]'(by omega) = p at p0 p1
  have ne : ∀ x,x < H.next → (¬ x = H.next + 1) ∧ (¬ x = H.next + 1 + 1) ∧ (¬ x = H.next + 1 + 1 + 1) ∧ (¬ x = H.next + 1 + 1 + 1 + 1) ∧ (¬ x = H.next + 1 + 1 + 1 + 1 + 1):=fun x hx => by omega
  have ltr : (r : Int) < w.ts.length:=by omega
  have ltr' : (r : Int) < D.rs.length:=by omega
  simp (maxSteps:=999999) only [E0,seval,-Int.reduceNatCast',NUM,NADD0,hc,ne cr hcl,p1,zr,List.length_replicate,ltr,ltr',List.length_map,Int.toNat_natCast,(show (0 : Int) ≤ r by omega)] at hX
  rw [c_meter D X q set id 3 r p.1 p.2 _ (by
    refine h.mono ?_ ?_
    · simp (maxSteps:=999999) only [E0,seval,-Int.reduceNatCast',ne id idl]
    · simp (maxSteps:=999999) only [E0,seval,-Int.reduceNatCast']; omega)] at hX
  simp (maxSteps:=999999) only [E0,seval,-Int.reduceNatCast',NUM,NADD0,Tryz.func51,hc,ne cr hcl,p1,zr,List.length_replicate,ltr,ltr',List.length_map,Int.toNat_natCast,(show (0 : Int) ≤ r by omega)] at hX
  rw [if_pos (by kernel_rfl),if_pos (chk_leaves _ _ (by kernel_rfl))] at hX
  generalize hB : bruteW _ _ _ _ = B at hX
  obtain ⟨p',hp⟩:=run_of hB
  have hp0:=hp
  simp (maxSteps:=999999) only [E0,seval,-Int.reduceNatCast',NUM,NADD0,Tryz.func51,hc,ne cr hcl,p1,zr,List.length_replicate,ltr,ltr',List.length_map,Int.toNat_natCast,(show (0 : Int) ≤ r by omega)] at hp
  rw [c_meter D X q set id 3 r p.1 p.2 _ (by
    refine h.mono ?_ ?_
    · simp (maxSteps:=999999) only [E0,seval,-Int.reduceNatCast',ne id idl]
    · simp (maxSteps:=999999) only [E0,seval,-Int.reduceNatCast']; omega)] at hp
  simp (maxSteps:=999999) only [E0,seval,-Int.reduceNatCast',NUM,NADD0,Tryz.func51,hc,ne cr hcl,p1,zr,List.length_replicate,ltr,ltr',List.length_map,Int.toNat_natCast,(show (0 : Int) ≤ r by omega)] at hp
  rw [if_pos (by kernel_rfl),if_pos (chk_leaves _ _ (by kernel_rfl))] at hp
  subst hp
  have hbk:=brute_keep [cr] [14,23] (by kernel_rfl) hp0 (by rfl) (by
    intro j hj σ σ' g1 g2 h1 h2 x hx
    simp only [List.mem_cons,List.not_mem_nil,or_false] at hj hx
    rw [hx]
    clear hx
    rcases hj with rfl | rfl
    · simp (maxSteps:=999999) only [E0,seval,-Int.reduceNatCast',NUM,NADD0,Tryz.func51,hc,ne cr hcl,p1,zr,List.length_replicate,ltr,ltr',List.length_map,Int.toNat_natCast,(show (0 : Int) ≤ r by omega),List.take] at h1
      simp (maxSteps:=999999) only [E0,seval,-Int.reduceNatCast',NUM,NADD0,Tryz.func51,hc,ne cr hcl,p1,zr,List.length_replicate,ltr,ltr',List.length_map,Int.toNat_natCast,(show (0 : Int) ≤ r by omega),List.take] at h2
      rw [c_meter D X q set id 3 r p.1 p.2 _ (by
        refine h.mono ?_ ?_
        · simp (maxSteps:=999999) only [E0,seval,-Int.reduceNatCast',ne id idl]
        · simp (maxSteps:=999999) only [E0,seval,-Int.reduceNatCast']; omega)] at h2
      simp (maxSteps:=999999) only [E0,seval,-Int.reduceNatCast',NUM,NADD0,Tryz.func51,hc,ne cr hcl,p1,zr,List.length_replicate,ltr,ltr',List.length_map,Int.toNat_natCast,(show (0 : Int) ≤ r by omega)] at h2
      cases h1; cases h2
      simp (maxSteps:=999999) only [E0,seval,-Int.reduceNatCast',ne cr hcl]
    · simp (maxSteps:=999999) only [E0,seval,-Int.reduceNatCast',NUM,NADD0,Tryz.func51,hc,ne cr hcl,p1,zr,List.length_replicate,ltr,ltr',List.length_map,Int.toNat_natCast,(show (0 : Int) ≤ r by omega),List.take] at h1
      rw [c_meter D X q set id 3 r p.1 p.2 _ (by
        refine h.mono ?_ ?_
        · simp (maxSteps:=999999) only [E0,seval,-Int.reduceNatCast',ne id idl]
        · simp (maxSteps:=999999) only [E0,seval,-Int.reduceNatCast']; omega)] at h1
      simp (maxSteps:=999999) only [E0,seval,-Int.reduceNatCast',NUM,NADD0,Tryz.func51,hc,ne cr hcl,p1,zr,List.length_replicate,ltr,ltr',List.length_map,Int.toNat_natCast,(show (0 : Int) ≤ r by omega)] at h1
      simp (maxSteps:=999999) only [E0,seval,-Int.reduceNatCast',NUM,NADD0,Tryz.func51,hc,ne cr hcl,p1,zr,List.length_replicate,ltr,ltr',List.length_map,Int.toNat_natCast,(show (0 : Int) ≤ r by omega),List.take] at h2
      rw [c_meter D X q set id 3 r p.1 p.2 _ (by
        refine h.mono ?_ ?_
        · simp (maxSteps:=999999) only [E0,seval,-Int.reduceNatCast',ne id idl]
        · simp (maxSteps:=999999) only [E0,seval,-Int.reduceNatCast']; omega)] at h2
      simp (maxSteps:=999999) only [E0,seval,-Int.reduceNatCast',NUM,NADD0,Tryz.func51,hc,ne cr hcl,p1,zr,List.length_replicate,ltr,ltr',List.length_map,Int.toNat_natCast,(show (0 : Int) ≤ r by omega)] at h2
      rw [if_pos (by kernel_rfl),if_pos (chk_leaves _ _ (by kernel_rfl))] at h2
      cases h1; cases h2
      simp (maxSteps:=999999) only [E0,seval,-Int.reduceNatCast',ne cr hcl]) (chk_keep3 _ _ _ _ _ _ _ (by kernel_rfl) (by kernel_rfl))
  rw [hbk] at hB
  subst hB
  simp (maxSteps:=999999) only [E0,seval,-Int.reduceNatCast',NUM,NADD0,ite_self,Tryz.func51,hc,ne cr hcl,List.length_map,Int.toNat_natCast] at hX
  generalize hL : W _ (.loop _) _ = L at hX
  obtain ⟨la,hla⟩ : ∃ a,(MT X.ss set 3 r p).1 = a:=⟨_,rfl⟩
  obtain ⟨lb,hlb⟩ : ∃ b,(MT X.ss set 3 r p).2 = b:=⟨_,rfl⟩
  have ep : (p.1,p.2) = p:=rfl
  rw [ep,hla,hlb] at hL
  have hmo : ∀ s ∈ X.ss,1 ≤ s.mo ∧ s.mo ≤ 1073741824:=fun s hs => (SSO_mem hS1 s hs).2.1
  have pm:=MT_RG hmo set 3 r (g3.2 p (List.mem_of_getElem? p0))
  obtain ⟨pm1,pm2,pm3⟩:=pm
  rw [hla] at pm1
  rw [hla,hlb] at pm2
  rw [hlb] at pm3
  have wa : IntKind.i64.wrap (0 + la) = la:=by rw [i64_in (by unfold I64; omega)]; omega
  have wb : IntKind.i64.wrap (0 + lb) = lb:=by rw [i64_in (by unfold I64; omega)]; omega
  rw [wa,wb] at hL
  have lrs:=(XC_0 hX0).1.1
  obtain ⟨ex,s,rfl,rfl,hrow1,hrowl,hrowd,hfr,hnx,h0,h1,h2,hd,hf⟩:=loop_at hL (α:=Nat) (fun k => D.rs.length - k)
    (fun s0 k s => k ≤ D.rs.length ∧ s.H.rows (H.next + 1) = some (.gro 2 [.agg [I (la + SUMF (gL D.rs hs r) k),I (lb + SUMF (gU D.rs hs r) k)]] 0) ∧ s.H.rows (H.next + 1 + 1 + 1 + 1) = s0.H.rows (H.next + 1 + 1 + 1 + 1) ∧ s.H.rows (H.next + 1 + 1 + 1) = s0.H.rows (H.next + 1 + 1 + 1) ∧ (∀ i < H.next,s.H.rows i = H.rows i) ∧ H.next + 1 + 1 + 1 + 1 < s.H.next ∧
      s.tmps 42 = I k ∧ s.tmps 41 = I D.rs.length ∧ s.tmps 40 = .vs 12 (D.rs.map rch) q.r ∧ s.tmps 0 = .yield (H.next + 1 + 1 + 1 + 1) ∧ s.tmps 1 = .rop [.ptr cr 1 0 0] ∧ s.tmps 2 = .rop [I r] ∧ s.defers = [] ∧ s.fid = H.next + 1 + 1 + 1 + 1 + 1)
    (fun s0 ex s => ex = .exit 0 ∧ s.H.rows (H.next + 1) = some (.gro 2 [.agg [I (la + SUMF (gL D.rs hs r) D.rs.length),I (lb + SUMF (gU D.rs hs r) D.rs.length)]] 0) ∧ s.H.rows (H.next + 1 + 1 + 1 + 1) = s0.H.rows (H.next + 1 + 1 + 1 + 1) ∧ s.H.rows (H.next + 1 + 1 + 1) = s0.H.rows (H.next + 1 + 1 + 1) ∧ (∀ i < H.next,s.H.rows i = H.rows i) ∧ H.next + 1 + 1 + 1 + 1 < s.H.next ∧
      s.tmps 0 = .yield (H.next + 1 + 1 + 1 + 1) ∧ s.tmps 1 = .rop [.ptr cr 1 0 0] ∧ s.tmps 2 = .rop [I r] ∧ s.defers = [] ∧ s.fid = H.next + 1 + 1 + 1 + 1 + 1) 0
    (by simp (maxSteps:=999999) only [E0,seval,-Int.reduceNatCast',NADD0]
        refine ⟨Nat.zero_le _,by simp [SUMF],fun i hi => ?_,by omega,by simp⟩
        simp (maxSteps:=999999) only [E0,seval,-Int.reduceNatCast',ne i hi]) (by
      rintro k s r' hW ⟨hk,hrow1,hrowl,hrowd,hfr,hnx,h42,h41,h40,h0,h1,h2,hd,hf⟩
      simp (maxSteps:=999999) only [E0,seval,-Int.reduceNatCast',NADD0] at hrowl
      by_cases hp : k < D.rs.length
      rotate_left
      · simp (maxSteps:=999999) only [E0,seval,-Int.reduceNatCast',NUM,h42,h41,hd,hf,(show ¬ (k : Int) < D.rs.length by omega)] at hW
        subst hW
        have : k = D.rs.length:=by omega
        subst this
        refine rd_exit ⟨rfl,?_,?_,?_,?_,?_,?_,?_,?_,?_,?_⟩ <;> simp (maxSteps:=999999) only [E0,seval,-Int.reduceNatCast',hrow1,h0,h1,h2,hd,hf,hrowl,hrowd,NADD0]
        · exact hfr
        · exact hnx
      have zk:=zv_get hp
      have e0 : D.rs[k]? = some D.rs[k]:=List.getElem?_eq_getElem hp
      have e1:=map_get (f:=rch) e0
      generalize D.rs[k] = y at *
      have hkk : k < hs.length:=by rw [hh]; exact hp
      have u0 : hs[k]? = some (hs[k]'hkk):=List.getElem?_eq_getElem _
      have u1:=map_get (f:=rg) u0
      generalize hs[k]'hkk = hd' at u0 u1
      obtain ⟨bv,hbv⟩ : ∃ bv,nextVer (s.boxes 5) = bv:=⟨_,rfl⟩
      have lt : (k : Int) < D.rs.length:=by omega
      have hcr':=hfr cr hcl
      have hhr':=hfr hid hhl
      rw [hc] at hcr'
      rw [hhr] at hhr'
      by_cases hu : y.up = r
      rotate_left
      · simp (maxSteps:=999999) only [E0,seval,-Int.reduceNatCast',NUM,h42,h41,h40,h0,h1,h2,hbv,hd,hf,e1,hu,lt,List.length_map,Int.toNat_natCast,(show (0 : Int) ≤ k by omega),(i64_in (x:=(k : Int) + 1) (by unfold I64; omega))] at hW
        subst hW
        refine rd_next (k + 1) ?_ (show D.rs.length - (k + 1) < D.rs.length - k by omega)
        simp (maxSteps:=999999) only [E0,seval,-Int.reduceNatCast',h41,h40,h0,h1,h2,hrowl,hrowd,NADD0,hd]
        refine ⟨by omega,?_,hfr,hnx,by simp⟩
        rw [hrow1]
        have z1 : gL D.rs hs r k = 0:=by unfold gL; rw [e0]; simp [hu]
        have z2 : gU D.rs hs r k = 0:=by unfold gU; rw [e0]; simp [hu]
        simp [SUMF,z1,z2]
      · have z1 : gL D.rs hs r k = hd'.1:=by unfold gL; rw [e0,u0]; simp [hu]
        have z2 : gU D.rs hs r k = hd'.2:=by unfold gU; rw [e0,u0]; simp [hu]
        have s1:=SUMF_bd (n:=k) (fun i _ => (gL_bd (rs:=D.rs) hrg r i).1)
        have s2:=SUMF_bd (n:=k) (fun i _ => (gL_bd (rs:=D.rs) hrg r i).2)
        have m3 : (k : Int) * 1073741824 ≤ 64 * 1073741824:=Int.mul_le_mul_of_nonneg_right (by omega) (by decide)
        obtain ⟨q1,q2,q3⟩:=hrg hd' (List.mem_of_getElem? u0)
        simp (maxSteps:=999999) only [E0,seval,-Int.reduceNatCast',NUM,NADD0,Tryz.func51,h42,h41,h40,h0,h1,h2,hbv,hd,hf,e1,u1,zk,List.length_replicate,hu,hcr',hhr',hrow1,hrowl,hh,lt,List.length_map,Int.toNat_natCast,Nat.zero_add,(show (0 : Int) ≤ k by omega),(i64_in (x:=(k : Int) + 1) (by unfold I64; omega)),(i64_in (x:=la + SUMF (gL D.rs hs r) k + hd'.1) (by unfold I64; omega)),(i64_in (x:=lb + SUMF (gU D.rs hs r) k + hd'.2) (by unfold I64; omega))] at hW
        rw [if_pos (by kernel_rfl),if_pos (chk_leaves _ _ (by kernel_rfl)),if_pos (by kernel_rfl)] at hW
        subst hW
        refine rd_next (k + 1) ?_ (show D.rs.length - (k + 1) < D.rs.length - k by omega)
        simp (maxSteps:=999999) only [E0,seval,-Int.reduceNatCast',h41,h40,h0,h1,h2,hrowl,hrowd,NADD0,hd]
        refine ⟨by omega,?_,fun i hi => ?_,by omega,by simp⟩
        · simp [SUMF,z1,z2,Int.add_assoc]
        · simp (maxSteps:=999999) only [E0,seval,-Int.reduceNatCast',ne i hi]
          exact hfr i hi)
  have hcr':=hfr cr hcl
  rw [hc] at hcr'
  simp (maxSteps:=999999) only [E0,seval,-Int.reduceNatCast',NADD0] at hrowl
  simp (maxSteps:=999999) only [E0,seval,-Int.reduceNatCast',NADD0] at hrowd
  have hl1:=hrowl
  have hd1:=hrowd
  simp (maxSteps:=999999) only [E0,seval,-Int.reduceNatCast',NUM,NADD0,h0,h1,h2,hd,hf,hcr',List.length_map,Int.toNat_natCast] at hX
  generalize hL : W _ (.loop _) _ = L at hX
  have lfs:=(XC_0 hX0).1.2.1
  have k2:=g2.1
  obtain ⟨lc,hlc⟩ : ∃ a,la + SUMF (gL D.rs hs r) D.rs.length = a:=⟨_,rfl⟩
  obtain ⟨ld,hld⟩ : ∃ a,lb + SUMF (gU D.rs hs r) D.rs.length = a:=⟨_,rfl⟩
  rw [hlc,hld] at hrow1
  have hcd : (0 ≤ lc ∧ lc ≤ 69793218560) ∧ (0 ≤ ld ∧ ld ≤ 69793218560):=by
    have s1:=SUMF_bd (n:=D.rs.length) (fun i _ => (gL_bd (rs:=D.rs) hrg r i).1)
    have s2:=SUMF_bd (n:=D.rs.length) (fun i _ => (gL_bd (rs:=D.rs) hrg r i).2)
    have m3 : (D.rs.length : Int) * 1073741824 ≤ 64 * 1073741824:=Int.mul_le_mul_of_nonneg_right (by omega) (by decide)
    omega
  obtain ⟨ex,s,rfl,rfl,hrow1,hrowl,hrowd,hfr,hnx,h0,h1,h2,hd,hf⟩:=loop_at hL (α:=Nat) (fun k => D.fs.length - k)
    (fun s0 k s => k ≤ D.fs.length ∧ s.H.rows (H.next + 1) = some (.gro 2 [.agg [I (lc + SUMF (fun i => (gF X.ss set D.fs w.os r i).1) k),I (ld + SUMF (fun i => (gF X.ss set D.fs w.os r i).2) k)]] 0) ∧ s.H.rows (H.next + 1 + 1 + 1 + 1) = s0.H.rows (H.next + 1 + 1 + 1 + 1) ∧ s.H.rows (H.next + 1 + 1 + 1) = s0.H.rows (H.next + 1 + 1 + 1) ∧ (∀ i < H.next,s.H.rows i = H.rows i) ∧ H.next + 1 + 1 + 1 + 1 < s.H.next ∧
      s.tmps 79 = I k ∧ s.tmps 78 = I D.fs.length ∧ s.tmps 77 = .vs 4 (D.fs.map frm) q.f ∧ s.tmps 0 = .yield (H.next + 1 + 1 + 1 + 1) ∧ s.tmps 1 = .rop [.ptr cr 1 0 0] ∧ s.tmps 2 = .rop [I r] ∧ s.defers = [] ∧ s.fid = H.next + 1 + 1 + 1 + 1 + 1)
    (fun s0 ex s => ex = .exit 2 ∧ s.H.rows (H.next + 1) = some (.gro 2 [.agg [I (lc + SUMF (fun i => (gF X.ss set D.fs w.os r i).1) D.fs.length),I (ld + SUMF (fun i => (gF X.ss set D.fs w.os r i).2) D.fs.length)]] 0) ∧ s.H.rows (H.next + 1 + 1 + 1 + 1) = s0.H.rows (H.next + 1 + 1 + 1 + 1) ∧ s.H.rows (H.next + 1 + 1 + 1) = s0.H.rows (H.next + 1 + 1 + 1) ∧ (∀ i < H.next,s.H.rows i = H.rows i) ∧ H.next + 1 + 1 + 1 + 1 < s.H.next ∧
      s.tmps 0 = .yield (H.next + 1 + 1 + 1 + 1) ∧ s.tmps 1 = .rop [.ptr cr 1 0 0] ∧ s.tmps 2 = .rop [I r] ∧ s.defers = [] ∧ s.fid = H.next + 1 + 1 + 1 + 1 + 1) 0
    (by simp (maxSteps:=999999) only [E0,seval,-Int.reduceNatCast',NADD0,h0,h1,h2,hd,hf,hrow1]
        exact ⟨Nat.zero_le _,by simp [SUMF],hfr,hnx,by simp⟩) (by
      rintro k s r' hW ⟨hk,hrow1,hrowl',hrowd',hfr,hnx,h79,h78,h77,h0,h1,h2,hd,hf⟩
      rw [hrowl] at hrowl'
      rw [hrowd] at hrowd'
      by_cases hp : k < D.fs.length
      rotate_left
      · simp (maxSteps:=999999) only [E0,seval,-Int.reduceNatCast',NUM,h79,h78,hd,hf,(show ¬ (k : Int) < D.fs.length by omega)] at hW
        subst hW
        have : k = D.fs.length:=by omega
        subst this
        refine rd_exit ⟨rfl,?_,?_,?_,?_,?_,?_,?_,?_,?_,?_⟩ <;> simp (maxSteps:=999999) only [E0,seval,-Int.reduceNatCast',hrow1,h0,h1,h2,hd,hf,hrowl',hrowd',hrowl,hrowd,NADD0]
        · exact hfr
        · exact hnx
      have zk:=zv_get hp
      have e0 : D.fs[k]? = some D.fs[k]:=List.getElem?_eq_getElem hp
      have e1:=map_get (f:=frm) e0
      generalize D.fs[k] = y at e0 e1
      have hkk : k < w.os.length:=by omega
      have u0 : w.os[k]? = some (w.os[k]'hkk):=List.getElem?_eq_getElem _
      have u1:=map_get (f:=rg) u0
      generalize w.os[k]'hkk = po at u0 u1
      obtain ⟨bv,hbv⟩ : ∃ bv,nextVer (s.boxes 7) = bv:=⟨_,rfl⟩
      have lt : (k : Int) < D.fs.length:=by omega
      have lt' : (k : Int) < w.os.length:=by omega
      have ltf:=lt
      have hcr':=hfr cr hcl
      rw [hc] at hcr'
      by_cases hu : y.at_ = r
      rotate_left
      · simp (maxSteps:=999999) only [E0,seval,-Int.reduceNatCast',NUM,NADD0,Tryz.func51,h79,h78,h77,h0,h1,h2,hbv,hd,hf,e1,u1,zk,List.length_replicate,hcr',hrow1,hrowl',lt,lt',ltf,List.length_map,Int.toNat_natCast,Nat.zero_add,(show (0 : Int) ≤ k by omega),(i64_in (x:=(k : Int) + 1) (by unfold I64; omega)),hu] at hW
        subst hW
        refine rd_next (k + 1) ?_ (show D.fs.length - (k + 1) < D.fs.length - k by omega)
        simp (maxSteps:=999999) only [E0,seval,-Int.reduceNatCast',h78,h77,h0,h1,h2,hrowl',hrowd',hrowl,hrowd,NADD0,hd]
        refine ⟨by omega,?_,hfr,hnx,by simp⟩
        rw [hrow1]
        have z1 : gF X.ss set D.fs w.os r k = (0,0):=by unfold gF; rw [e0]; simp [hu]
        simp [SUMF,z1]
      have hIs : INQ X set id s.H:=h.mono (hfr id idl) (by omega)
      have cmx:=c_meter D X q set id 2 k po.1 po.2 s.H hIs
      have epo : (po.1,po.2) = po:=rfl
      have z1 : gF X.ss set D.fs w.os r k = MT X.ss set 2 k po:=by unfold gF; rw [e0,u0]; simp [hu]
      have gb:=gF_bd hmo set (fs:=D.fs) g2.2 r k
      rw [z1] at gb
      rw [epo] at cmx
      obtain ⟨ma,hma⟩ : ∃ a,(MT X.ss set 2 k po).1 = a:=⟨_,rfl⟩
      obtain ⟨mb,hmb⟩ : ∃ a,(MT X.ss set 2 k po).2 = a:=⟨_,rfl⟩
      rw [hma,hmb] at cmx gb
      have s1:=SUMF_bd (n:=k) (fun i _ => (gF_bd hmo set (fs:=D.fs) g2.2 r i).1)
      have s2:=SUMF_bd (n:=k) (fun i _ => (gF_bd hmo set (fs:=D.fs) g2.2 r i).2)
      have m3 : (k : Int) * 1073741824 ≤ 600 * 1073741824:=Int.mul_le_mul_of_nonneg_right (by omega) (by decide)
      have wx:=i64_in (x:=lc + SUMF (fun i => (gF X.ss set D.fs w.os r i).1) k + ma) (by unfold I64; omega)
      have wy:=i64_in (x:=ld + SUMF (fun i => (gF X.ss set D.fs w.os r i).2) k + mb) (by unfold I64; omega)
      simp (maxSteps:=999999) only [E0,seval,-Int.reduceNatCast',NUM,NADD0,Tryz.func51,h79,h78,h77,h0,h1,h2,hbv,hd,hf,e1,u1,zk,List.length_replicate,hcr',hrow1,hrowl',lt,lt',ltf,List.length_map,Int.toNat_natCast,Nat.zero_add,(show (0 : Int) ≤ k by omega),(i64_in (x:=(k : Int) + 1) (by unfold I64; omega)),hu,cmx,wx,wy] at hW
      rw [if_pos (by kernel_rfl),if_pos (chk_leaves _ _ (by kernel_rfl))] at hW
      generalize hB : bruteW _ _ _ _ = B at hW
      obtain ⟨p',hp'⟩:=run_of hB
      have hp0:=hp'
      simp (maxSteps:=999999) only [E0,seval,-Int.reduceNatCast',NUM,NADD0,Tryz.func51,h79,h78,h77,h0,h1,h2,hbv,hd,hf,e1,u1,zk,List.length_replicate,hcr',hrow1,hrowl',lt,lt',ltf,List.length_map,Int.toNat_natCast,Nat.zero_add,(show (0 : Int) ≤ k by omega),(i64_in (x:=(k : Int) + 1) (by unfold I64; omega)),hu,cmx,wx,wy] at hp'
      rw [if_pos (by kernel_rfl),if_pos (chk_leaves _ _ (by kernel_rfl))] at hp'
      subst hp'
      have hbk:=brute_keep [cr] [19,28] (by kernel_rfl) hp0 (by rfl) (by
        intro j hj σ σ' g1 g2 x1 x2 x hx
        simp only [List.mem_cons,List.not_mem_nil,or_false] at hj hx
        rw [hx]
        clear hx
        rcases hj with rfl | rfl
        · simp (maxSteps:=999999) only [E0,seval,-Int.reduceNatCast',NUM,NADD0,Tryz.func51,h79,h78,h77,h0,h1,h2,hbv,hd,hf,e1,u1,zk,List.length_replicate,hcr',hrow1,hrowl',lt,lt',ltf,List.length_map,Int.toNat_natCast,Nat.zero_add,(show (0 : Int) ≤ k by omega),hu,cmx,wx,wy,List.take] at x1
          simp (maxSteps:=999999) only [E0,seval,-Int.reduceNatCast',NUM,NADD0,Tryz.func51,h79,h78,h77,h0,h1,h2,hbv,hd,hf,e1,u1,zk,List.length_replicate,hcr',hrow1,hrowl',lt,lt',ltf,List.length_map,Int.toNat_natCast,Nat.zero_add,(show (0 : Int) ≤ k by omega),hu,cmx,wx,wy,List.take] at x2
          cases x1; cases x2
          rfl
        · simp (maxSteps:=999999) only [E0,seval,-Int.reduceNatCast',NUM,NADD0,Tryz.func51,h79,h78,h77,h0,h1,h2,hbv,hd,hf,e1,u1,zk,List.length_replicate,hcr',hrow1,hrowl',lt,lt',ltf,List.length_map,Int.toNat_natCast,Nat.zero_add,(show (0 : Int) ≤ k by omega),hu,cmx,wx,wy,List.take] at x1
          simp (maxSteps:=999999) only [E0,seval,-Int.reduceNatCast',NUM,NADD0,Tryz.func51,h79,h78,h77,h0,h1,h2,hbv,hd,hf,e1,u1,zk,List.length_replicate,hcr',hrow1,hrowl',lt,lt',ltf,List.length_map,Int.toNat_natCast,Nat.zero_add,(show (0 : Int) ≤ k by omega),hu,cmx,wx,wy,List.take] at x2
          rw [if_pos (by kernel_rfl),if_pos (chk_leaves _ _ (by kernel_rfl))] at x2
          cases x1; cases x2
          simp (maxSteps:=999999) only [E0,seval,-Int.reduceNatCast',ne cr hcl]) (chk_keep4 _ _ _ _ _ _ _ _ _ (by kernel_rfl) (by kernel_rfl))
      rw [hbk] at hB
      subst hB
      simp (maxSteps:=999999) only [E0,seval,-Int.reduceNatCast',NUM,NADD0,ite_self,h79,h78,h77,h0,h1,h2,hd,hf,(i64_in (x:=(k : Int) + 1) (by unfold I64; omega))] at hW
      subst hW
      refine rd_next (k + 1) ?_ (show D.fs.length - (k + 1) < D.fs.length - k by omega)
      simp (maxSteps:=999999) only [E0,seval,-Int.reduceNatCast',h78,h77,h0,h1,h2,hrowl',hrowd',hrowl,hrowd,NADD0,hd]
      refine ⟨by omega,?_,fun i hi => ?_,by omega,by simp⟩
      · simp [SUMF,z1,hma,hmb,Int.add_assoc]
      · simp (maxSteps:=999999) only [E0,seval,-Int.reduceNatCast',ne i hi]
        exact hfr i hi)
  have hl2:=hrowl
  rw [hl1] at hl2
  have hd2:=hrowd
  rw [hd1] at hd2
  have hcr':=hfr cr hcl
  rw [hc] at hcr'
  simp (maxSteps:=999999) only [E0,seval,-Int.reduceNatCast',NUM,NADD0,h0,h1,h2,hd,hf,hcr',List.length_map,Int.toNat_natCast] at hX
  generalize hL : W _ (.loop _) _ = L at hX
  obtain ⟨le,hle⟩ : ∃ a,lc + SUMF (fun i => (gF X.ss set D.fs w.os r i).1) D.fs.length = a:=⟨_,rfl⟩
  obtain ⟨lf,hlf⟩ : ∃ a,ld + SUMF (fun i => (gF X.ss set D.fs w.os r i).2) D.fs.length = a:=⟨_,rfl⟩
  rw [hle,hlf] at hrow1
  have hce : (0 ≤ le ∧ le ≤ 714038312960) ∧ (0 ≤ lf ∧ lf ≤ 714038312960):=by
    have s1:=SUMF_bd (n:=D.fs.length) (fun i _ => (gF_bd hmo set (fs:=D.fs) g2.2 r i).1)
    have s2:=SUMF_bd (n:=D.fs.length) (fun i _ => (gF_bd hmo set (fs:=D.fs) g2.2 r i).2)
    have m3 : (D.fs.length : Int) * 1073741824 ≤ 600 * 1073741824:=Int.mul_le_mul_of_nonneg_right (by omega) (by decide)
    omega
  obtain ⟨ex,s,rfl,rfl,hrow1,hrowl,hrowd,hfr,hnx,hd,hf⟩:=loop_at hL (α:=Nat) (fun k => X.ss.length - k)
    (fun s0 k s => k ≤ X.ss.length ∧ s.H.rows (H.next + 1) = some (.gro 2 [.agg [I (le + SUMF (fun i => (gP X.ss set r i).1) k),I (lf + SUMF (fun i => (gP X.ss set r i).2) k)]] 0) ∧ s.H.rows (H.next + 1 + 1 + 1 + 1) = s0.H.rows (H.next + 1 + 1 + 1 + 1) ∧ s.H.rows (H.next + 1 + 1 + 1) = s0.H.rows (H.next + 1 + 1 + 1) ∧ (∀ i < H.next,s.H.rows i = H.rows i) ∧ H.next + 1 + 1 + 1 + 1 < s.H.next ∧
      s.tmps 123 = I k ∧ s.tmps 122 = I X.ss.length ∧ s.tmps 121 = .vs 3 (X.ss.map sus) q.s ∧ s.tmps 0 = .yield (H.next + 1 + 1 + 1 + 1) ∧ s.tmps 1 = .rop [.ptr cr 1 0 0] ∧ s.tmps 2 = .rop [I r] ∧ s.defers = [] ∧ s.fid = H.next + 1 + 1 + 1 + 1 + 1)
    (fun s0 ex s => ex = .exit 4 ∧ s.H.rows (H.next + 1) = some (.gro 2 [.agg [I (le + SUMF (fun i => (gP X.ss set r i).1) X.ss.length),I (lf + SUMF (fun i => (gP X.ss set r i).2) X.ss.length)]] 0) ∧ s.H.rows (H.next + 1 + 1 + 1 + 1) = s0.H.rows (H.next + 1 + 1 + 1 + 1) ∧ s.H.rows (H.next + 1 + 1 + 1) = s0.H.rows (H.next + 1 + 1 + 1) ∧ (∀ i < H.next,s.H.rows i = H.rows i) ∧ H.next + 1 + 1 + 1 + 1 < s.H.next ∧
      s.defers = [] ∧ s.fid = H.next + 1 + 1 + 1 + 1 + 1) 0
    (by simp (maxSteps:=999999) only [E0,seval,-Int.reduceNatCast',NADD0,h0,h1,h2,hd,hf,hrow1]
        exact ⟨Nat.zero_le _,by simp [SUMF],hfr,hnx,by simp⟩) (by
      rintro k s r' hW ⟨hk,hrow1,hrowl',hrowd',hfr,hnx,h123,h122,h121,h0,h1,h2,hd,hf⟩
      rw [hl2] at hrowl'
      rw [hd2] at hrowd'
      by_cases hp : k < X.ss.length
      rotate_left
      · simp (maxSteps:=999999) only [E0,seval,-Int.reduceNatCast',NUM,h123,h122,hd,hf,(show ¬ (k : Int) < X.ss.length by omega)] at hW
        subst hW
        have : k = X.ss.length:=by omega
        subst this
        refine rd_exit ⟨rfl,?_,?_,?_,?_,?_,?_,?_⟩ <;> simp (maxSteps:=999999) only [E0,seval,-Int.reduceNatCast',hrow1,hd,hf,hrowl',hrowd',hl2,hd2,NADD0]
        · exact hfr
        · exact hnx
      have zk:=zv_get hp
      have e0 : X.ss[k]? = some X.ss[k]:=List.getElem?_eq_getElem hp
      have e1:=map_get (f:=sus) e0
      generalize X.ss[k] = y at e0 e1
      obtain ⟨bv,hbv⟩ : ∃ bv,nextVer (s.boxes 9) = bv:=⟨_,rfl⟩
      have lt : (k : Int) < X.ss.length:=by omega
      have hcr':=hfr cr hcl
      rw [hc] at hcr'
      have hIs : INQ X set id s.H:=h.mono (hfr id idl) (by omega)
      have cmx:=c_meter D X q set id 4 r 0 0 s.H hIs
      have gb:=MT_RG hmo set 4 r (p:=(0,0)) ⟨by decide,by decide,by decide⟩
      obtain ⟨ma,hma⟩ : ∃ a,(MT X.ss set 4 r (0,0)).1 = a:=⟨_,rfl⟩
      obtain ⟨mb,hmb⟩ : ∃ a,(MT X.ss set 4 r (0,0)).2 = a:=⟨_,rfl⟩
      rw [hma,hmb] at cmx
      obtain ⟨gb1,gb2,gb3⟩:=gb
      rw [hma] at gb1
      rw [hma,hmb] at gb2
      rw [hmb] at gb3
      have s1:=SUMF_bd (n:=k) (fun i _ => (gP_bd hmo set r i).1)
      have s2:=SUMF_bd (n:=k) (fun i _ => (gP_bd hmo set r i).2)
      have m3 : (k : Int) * 1073741824 ≤ 600 * 1073741824:=Int.mul_le_mul_of_nonneg_right (by omega) (by decide)
      have wx:=i64_in (x:=le + SUMF (fun i => (gP X.ss set r i).1) k + ma) (by unfold I64; omega)
      have wy:=i64_in (x:=lf + SUMF (fun i => (gP X.ss set r i).2) k + mb) (by unfold I64; omega)
      by_cases hu1 : y.kd = 4
      rotate_left
      · have z1 : gP X.ss set r k = (0,0):=by unfold gP; rw [e0]; simp [hu1]
        simp (maxSteps:=999999) only [E0,seval,-Int.reduceNatCast',NUM,NADD0,Tryz.func51,h123,h122,h121,h0,h1,h2,hbv,hd,hf,e1,zk,List.length_replicate,hcr',hrow1,hrowl',lt,List.length_map,Int.toNat_natCast,Nat.zero_add,(show (0 : Int) ≤ k by omega),(i64_in (x:=(k : Int) + 1) (by unfold I64; omega)),hu1] at hW
        subst hW
        refine rd_next (k + 1) ?_ (show X.ss.length - (k + 1) < X.ss.length - k by omega)
        simp (maxSteps:=999999) only [E0,seval,-Int.reduceNatCast',h122,h121,h0,h1,h2,hrowl',hrowd',hl2,hd2,NADD0,hd]
        refine ⟨by omega,?_,hfr,hnx,by simp⟩
        rw [hrow1]
        simp [SUMF,z1]
      by_cases hu2 : y.ix = r
      rotate_left
      · have z1 : gP X.ss set r k = (0,0):=by unfold gP; rw [e0]; simp [hu2]
        simp (maxSteps:=999999) only [E0,seval,-Int.reduceNatCast',NUM,NADD0,Tryz.func51,h123,h122,h121,h0,h1,h2,hbv,hd,hf,e1,zk,List.length_replicate,hcr',hrow1,hrowl',lt,List.length_map,Int.toNat_natCast,Nat.zero_add,(show (0 : Int) ≤ k by omega),(i64_in (x:=(k : Int) + 1) (by unfold I64; omega)),hu1,hu2] at hW
        subst hW
        refine rd_next (k + 1) ?_ (show X.ss.length - (k + 1) < X.ss.length - k by omega)
        simp (maxSteps:=999999) only [E0,seval,-Int.reduceNatCast',h122,h121,h0,h1,h2,hrowl',hrowd',hl2,hd2,NADD0,hd]
        refine ⟨by omega,?_,hfr,hnx,by simp⟩
        rw [hrow1]
        simp [SUMF,z1]
      have z1 : gP X.ss set r k = MT X.ss set 4 r (0,0):=by unfold gP; rw [e0]; simp [hu1,hu2]
      simp (maxSteps:=999999) only [E0,seval,-Int.reduceNatCast',NUM,NADD0,Tryz.func51,h123,h122,h121,h0,h1,h2,hbv,hd,hf,e1,zk,List.length_replicate,hcr',hrow1,hrowl',lt,List.length_map,Int.toNat_natCast,Nat.zero_add,(show (0 : Int) ≤ k by omega),(i64_in (x:=(k : Int) + 1) (by unfold I64; omega)),hu1,hu2,cmx,wx,wy] at hW
      rw [if_pos (by kernel_rfl),if_pos (chk_leaves _ _ (by kernel_rfl))] at hW
      generalize hB : bruteW _ _ _ _ = B at hW
      obtain ⟨p',hp'⟩:=run_of hB
      have hp0:=hp'
      simp (maxSteps:=999999) only [E0,seval,-Int.reduceNatCast',NUM,NADD0,Tryz.func51,h123,h122,h121,h0,h1,h2,hbv,hd,hf,e1,zk,List.length_replicate,hcr',hrow1,hrowl',lt,List.length_map,Int.toNat_natCast,Nat.zero_add,(show (0 : Int) ≤ k by omega),(i64_in (x:=(k : Int) + 1) (by unfold I64; omega)),hu1,hu2,cmx,wx,wy] at hp'
      rw [if_pos (by kernel_rfl),if_pos (chk_leaves _ _ (by kernel_rfl))] at hp'
      subst hp'
      have hbk:=brute_keep [cr] [17,26] (by kernel_rfl) hp0 (by rfl) (by
        intro j hj σ σ' g1 g2 x1 x2 x hx
        simp only [List.mem_cons,List.not_mem_nil,or_false] at hj hx
        rw [hx]
        clear hx
        rcases hj with rfl | rfl
        · simp (maxSteps:=999999) only [E0,seval,-Int.reduceNatCast',NUM,NADD0,Tryz.func51,h123,h122,h121,h0,h1,h2,hbv,hd,hf,e1,zk,List.length_replicate,hcr',hrow1,hrowl',lt,List.length_map,Int.toNat_natCast,Nat.zero_add,(show (0 : Int) ≤ k by omega),hu1,hu2,cmx,wx,wy,List.take] at x1
          simp (maxSteps:=999999) only [E0,seval,-Int.reduceNatCast',NUM,NADD0,Tryz.func51,h123,h122,h121,h0,h1,h2,hbv,hd,hf,e1,zk,List.length_replicate,hcr',hrow1,hrowl',lt,List.length_map,Int.toNat_natCast,Nat.zero_add,(show (0 : Int) ≤ k by omega),hu1,hu2,cmx,wx,wy,List.take] at x2
          cases x1; cases x2
          rfl
        · simp (maxSteps:=999999) only [E0,seval,-Int.reduceNatCast',NUM,NADD0,Tryz.func51,h123,h122,h121,h0,h1,h2,hbv,hd,hf,e1,zk,List.length_replicate,hcr',hrow1,hrowl',lt,List.length_map,Int.toNat_natCast,Nat.zero_add,(show (0 : Int) ≤ k by omega),hu1,hu2,cmx,wx,wy,List.take] at x1
          simp (maxSteps:=999999) only [E0,seval,-Int.reduceNatCast',NUM,NADD0,Tryz.func51,h123,h122,h121,h0,h1,h2,hbv,hd,hf,e1,zk,List.length_replicate,hcr',hrow1,hrowl',lt,List.length_map,Int.toNat_natCast,Nat.zero_add,(show (0 : Int) ≤ k by omega),hu1,hu2,cmx,wx,wy,List.take] at x2
          rw [if_pos (by kernel_rfl),if_pos (chk_leaves _ _ (by kernel_rfl))] at x2
          cases x1; cases x2
          simp (maxSteps:=999999) only [E0,seval,-Int.reduceNatCast',ne cr hcl]) (chk_keep5 _ _ _ _ _ _ _ _ _ (by kernel_rfl) (by kernel_rfl))
      rw [hbk] at hB
      subst hB
      simp (maxSteps:=999999) only [E0,seval,-Int.reduceNatCast',NUM,NADD0,ite_self,h123,h122,h121,h0,h1,h2,hd,hf,(i64_in (x:=(k : Int) + 1) (by unfold I64; omega))] at hW
      subst hW
      refine rd_next (k + 1) ?_ (show X.ss.length - (k + 1) < X.ss.length - k by omega)
      simp (maxSteps:=999999) only [E0,seval,-Int.reduceNatCast',h122,h121,h0,h1,h2,hrowl',hrowd',hl2,hd2,NADD0,hd]
      refine ⟨by omega,?_,fun i hi => ?_,by omega,by simp⟩
      · simp [SUMF,z1,hma,hmb,Int.add_assoc]
      · simp (maxSteps:=999999) only [E0,seval,-Int.reduceNatCast',ne i hi]
        exact hfr i hi)
  rw [hl2] at hrowl
  rw [hd2] at hrowd
  simp (maxSteps:=999999) only [E0,seval,-Int.reduceNatCast',NUM,NADD0,Tryz.func51,hrowl,hrowd,hrow1,hd,hf] at hX
  subst hX
  have elv : LV D X set w hs r = (le + SUMF (fun i => (gP X.ss set r i).1) X.ss.length,lf + SUMF (fun i => (gP X.ss set r i).2) X.ss.length):=by
    unfold LV
    rw [p0,Option.getD_some,hla,hlb,hlc,hld,hle,hlf]
  rw [elv]
  refine ⟨_,rfl,fun i hi => ?_,?_⟩
  · simp (maxSteps:=999999) only [E0,seval,-Int.reduceNatCast',ne i hi]
    exact hfr i hi
  · simp (maxSteps:=999999) only [E0,seval,-Int.reduceNatCast']
    omega
end
noncomputable def LST (p : Int → Prop) (n : Int) : Int:=Classical.epsilon fun r => IsL p n r
theorem LST_eq {p : Int → Prop} {n r : Int} (h : IsL p n r) : LST p n = r:=IsL_one (Classical.epsilon_spec (p:=fun r => IsL p n r) ⟨r,h⟩) h
noncomputable def REA (x : Rch) (w : Int) : Int:=LST (fun v => w - 1 < BE (los x) v) 1073741825
noncomputable def MOS (x : Rch) (w : Int) : Int:=LST (fun v => w < WO (los x) v) 1073741825 - 1
noncomputable def FHD (D : Dis) (X : Evd) (set : List Int) (w : Wav) (hs : List (Int × Int)) (r : Nat) (x : Rch) : Int × Int:=
  (max (REA x (LV D X set w hs r).1) (MT X.ss set 1 r ((w.hs[r]?).getD (0,0))).1,min (MOS x (min 1073741824 (LV D X set w hs r).2)) (MT X.ss set 1 r ((w.hs[r]?).getD (0,0))).2)
def FOK (D : Dis) (X : Evd) (set : List Int) (w : Wav) (hs : List (Int × Int)) (r : Nat) (x : Rch) : Prop:=
  (LV D X set w hs r).1 ≤ 1073741824 ∧ REA x (LV D X set w hs r).1 ≤ 1073741824 ∧ (FHD D X set w hs r x).1 ≤ (FHD D X set w hs r x).2
open Classical in
noncomputable def FOL (D : Dis) (X : Evd) (set : List Int) (w : Wav) : Nat → Option (List (Int × Int))
  | 0 => some (List.replicate D.rs.length (0,0))
  | k + 1 => (FOL D X set w k).bind fun hs => (D.rs[D.rs.length - 1 - k]?).bind fun x => if FOK D X set w hs (D.rs.length - 1 - k) x then some (hs.set (D.rs.length - 1 - k) (FHD D X set w hs (D.rs.length - 1 - k) x)) else none
theorem c_rch (x : Rch) (hx : x.OK) (hR : RIGHT x) (w : Int) (hw : 0 ≤ w ∧ w ≤ 1073741824) : 0 ≤ REA x w ∧ ∃ v,ap Tryz.prog pol 52 [rch x,I w] = some (.ret (.tup [I v,.bool (decide (REA x w ≤ 1073741824)),I 0])) ∧ (REA x w ≤ 1073741824 → v = REA x w):=by
  rcases c_Reach x hx w with ⟨h,_⟩ | ⟨_,r,hl,e⟩
  · exact absurd ((VC_0 x w).2 ⟨hR,hw⟩) h
  · have er : REA x w = r:=LST_eq hl
    rw [er]
    refine ⟨hl.lo,?_⟩
    by_cases h : r ≤ 1073741824
    · exact ⟨r,by rw [e,if_pos h,decide_eq_true h],fun _ => rfl⟩
    · exact ⟨0,by rw [e,if_neg h,decide_eq_false h],fun g => absurd g h⟩
theorem c_mos (x : Rch) (hx : x.OK) (hR : RIGHT x) (w : Int) (hw : 0 ≤ w ∧ w ≤ 1073741824) : MOS x w ≤ 1073741824 ∧ ap Tryz.prog pol 53 [rch x,I w] = some (.ret (.tup [I (MOS x w),I 0])):=by
  rcases c_Most x hx w with ⟨h,_⟩ | ⟨_,r,hl,e⟩
  · exact absurd ((VC_0 x w).2 ⟨hR,hw⟩) h
  · have er : MOS x w = r - 1:=by unfold MOS; rw [LST_eq hl]
    rw [er]
    exact ⟨by have:=hl.hi; omega,e⟩
theorem LV_bd {ss : List Sus} (hS : ∀ s ∈ ss,1 ≤ s.mo ∧ s.mo ≤ 1073741824) {D : Dis} {X : Evd} (hX : X.ss = ss) (set : List Int) {w : Wav} (ht : ∀ p ∈ w.ts,RG p) (ho : ∀ p ∈ w.os,RG p) {hs : List (Int × Int)} (hh : ∀ p ∈ hs,RG p) (r : Nat) : 0 ≤ (LV D X set w hs r).1 ∧ 0 ≤ (LV D X set w hs r).2:=by
  subst hX
  have hp : RG ((w.ts[r]?).getD (0,0)):=by
    cases e : w.ts[r]? with
    | none => exact ⟨by decide,by decide,by decide⟩
    | some p => exact ht p (List.mem_of_getElem? e)
  obtain ⟨a,b,c⟩:=MT_RG hS set 3 r hp
  have a1:=SUMF_bd (n:=D.rs.length) (fun i _ => (gL_bd (rs:=D.rs) hh r i).1)
  have a2:=SUMF_bd (n:=D.rs.length) (fun i _ => (gL_bd (rs:=D.rs) hh r i).2)
  have b1:=SUMF_bd (n:=D.fs.length) (fun i _ => (gF_bd hS set (fs:=D.fs) ho r i).1)
  have b2:=SUMF_bd (n:=D.fs.length) (fun i _ => (gF_bd hS set (fs:=D.fs) ho r i).2)
  have c1:=SUMF_bd (n:=X.ss.length) (fun i _ => (gP_bd hS set r i).1)
  have c2:=SUMF_bd (n:=X.ss.length) (fun i _ => (gP_bd hS set r i).2)
  unfold LV
  simp only
  omega
theorem FOL_succ {D : Dis} {X : Evd} {set : List Int} {w : Wav} {k : Nat} {hs : List (Int × Int)} {x : Rch} (h : FOL D X set w k = some hs) (e : D.rs[D.rs.length - 1 - k]? = some x) :
    (FOK D X set w hs (D.rs.length - 1 - k) x → FOL D X set w (k + 1) = some (hs.set (D.rs.length - 1 - k) (FHD D X set w hs (D.rs.length - 1 - k) x))) ∧ (¬ FOK D X set w hs (D.rs.length - 1 - k) x → FOL D X set w (k + 1) = none):=by
  constructor
  · intro g
    show (FOL D X set w k).bind _ = _
    rw [h,Option.bind_some,e,Option.bind_some,if_pos g]
  · intro g
    show (FOL D X set w k).bind _ = _
    rw [h,Option.bind_some,e,Option.bind_some,if_neg g]
theorem FOL_none {D : Dis} {X : Evd} {set : List Int} {w : Wav} {k : Nat} (h : FOL D X set w k = none) : ∀ {n : Nat},k ≤ n → FOL D X set w n = none
  | 0,hn => by
    have : k = 0:=by omega
    subst this; exact h
  | n + 1,hn => by
    by_cases e : k = n + 1
    · subst e; exact h
    · show (FOL D X set w n).bind _ = _
      rw [FOL_none h (by omega)]; rfl
theorem FOL_ok {D : Dis} {X : Evd} {set : List Int} {w : Wav} (hS : ∀ s ∈ X.ss,1 ≤ s.mo ∧ s.mo ≤ 1073741824) (hw : ∀ p ∈ w.hs,RG p) : ∀ {k : Nat} {hs : List (Int × Int)},FOL D X set w k = some hs → hs.length = D.rs.length ∧ ∀ p ∈ hs,RG p
  | 0,hs,h => by
    cases h
    exact ⟨by simp,fun p hp => by rw [(List.mem_replicate.1 hp).2]; exact ⟨by decide,by decide,by decide⟩⟩
  | k + 1,hs,h => by
    have h' : (FOL D X set w k).bind _ = some hs:=h
    cases e0 : FOL D X set w k with
    | none => rw [e0] at h'; cases h'
    | some g =>
      rw [e0,Option.bind_some] at h'
      cases e1 : D.rs[D.rs.length - 1 - k]? with
      | none => rw [e1] at h'; cases h'
      | some x =>
        rw [e1,Option.bind_some] at h'
        obtain ⟨i1,i2⟩:=FOL_ok hS hw e0
        split at h'
        · next hf =>
          cases h'
          refine ⟨by simpa using i1,fun p hp => ?_⟩
          rcases List.mem_or_eq_of_mem_set hp with hp | rfl
          · exact i2 p hp
          · have hp : RG ((w.hs[D.rs.length - 1 - k]?).getD (0,0)):=by
              cases e : w.hs[D.rs.length - 1 - k]? with
              | none => exact ⟨by decide,by decide,by decide⟩
              | some p => exact hw p (List.mem_of_getElem? e)
            obtain ⟨a,b,c⟩:=MT_RG hS set 1 (D.rs.length - 1 - k : Nat) hp
            have h3:=hf.2.2
            refine ⟨?_,h3,?_⟩
            · unfold FHD; simp only; omega
            · unfold FHD; simp only; omega
        · cases h'
def setL (st : LoopSt) : Option Row → Option Row
  | some (.loop _ fn nt t ps a b d) => some (.loop st fn nt t ps a b d)
  | r => r
section
variable {D : Dis} (hr : ∀ x ∈ D.rs,x.OK) {X : Evd} {q : Cps} {w : Wav} {set : List Int} {id : Nat}
include hr
set_option maxHeartbeats 8000000 in
theorem c_follow (hE : EOK D X) (hw : w ∈ X.ws) (H : Heap) (h : INQ X set id H) (R : Option (CR × Heap))
    (hX : callF G Tryz.prog pol 30 [.agg (inq D X q id),wav w] H = R) :
    ∃ p H' b,R = some (.ret (.tup [p,.bool b]),H') ∧ (b = true ↔ FOL D X set w D.rs.length ≠ none) ∧ (∀ i < H.next,H'.rows i = H.rows i) ∧ H.next ≤ H'.next:=by
  obtain ⟨hL0,hK⟩:=XC_0 hE.1
  have idl:=h.lt
  have lrs:=hL0.1
  have lfs:=hL0.2.1
  have lss:=hE.2.2.1
  obtain ⟨g1',g2'',g3'⟩:=WVS_mem hE.2.2.2.1 w hw
  have hmo : ∀ s ∈ X.ss,1 ≤ s.mo ∧ s.mo ≤ 1073741824:=fun s hs => (SSO_mem hE.2.2.2.2 s hs).2.1
  have zs : List.replicate D.rs.length (PV.agg [PV.int .i64 0,PV.int .i64 0]) = (List.replicate D.rs.length ((0 : Int),(0 : Int))).map rg:=by simp
  rw [callF_eq _ _ Tryz.func30 rfl Tryz.ntmps30 Tryz.results30 (by kernel_rfl) rfl (by exact Nat.le_of_ble_eq_true rfl)] at hX
  simp (maxSteps:=999999) only [E0,seval,-Int.reduceNatCast',NUM,NADD0,zs,List.length_map,Int.toNat_natCast,(show (0 : Int) ≤ D.rs.length by omega),(show (0 : Int) ≤ D.fs.length by omega),(show (0 : Int) ≤ X.ss.length by omega),(show (D.rs.length : Int) ≤ maxN by unfold maxN; omega),(show (D.fs.length : Int) ≤ maxN by unfold maxN; omega),(show (X.ss.length : Int) ≤ maxN by unfold maxN; omega),(show 8 ≤ maxB by decide),(show 16 ≤ maxB by decide)] at hX
  replace hX:=ite_chk3 (fun a b c => [(6,[Vr.row a],[Vr.row a]),(5,[Vr.nx],[Vr.nx,Vr.row b]),(3,[Vr.nx],[Vr.nx,Vr.row c])]) (H.next + 1) (H.next + 1 + 1 + 1 + 1) (H.next + 1 + 1 + 1) (by omega) (by omega) (by omega) (by intro f h1 h2 h3; simp [renL,renM,renV,h1,h2,h3]) (by kernel_rfl) hX
  replace hX:=ite_chk2 (fun a b => [(20,[Vr.row b],[Vr.row b]),(0,[Vr.row a],[])]) (H.next + 1) (H.next + 1 + 1 + 1 + 1) (by omega) (by intro f h1 h2; simp [renL,renM,renV,h1,h2]) (by kernel_rfl) hX
  rw [callF_eq _ _ Tryz.func50 rfl Tryz.ntmps50 Tryz.results50 (by kernel_rfl) rfl (by exact Nat.le_of_ble_eq_true rfl)] at hX
  simp (maxSteps:=999999) only [E0,seval,-Int.reduceNatCast',NUM,NADD0,zs,List.length_map,Int.toNat_natCast,(show (0 : Int) ≤ D.rs.length by omega),(show (0 : Int) ≤ D.fs.length by omega),(show (0 : Int) ≤ X.ss.length by omega),(show (D.rs.length : Int) ≤ maxN by unfold maxN; omega),(show (D.fs.length : Int) ≤ maxN by unfold maxN; omega),(show (X.ss.length : Int) ≤ maxN by unfold maxN; omega),(show 8 ≤ maxB by decide),(show 16 ≤ maxB by decide)] at hX
  rw [callF_eq _ _ Tryz.func75 rfl Tryz.ntmps75 Tryz.results75 (by kernel_rfl) rfl (by exact Nat.le_of_ble_eq_true rfl)] at hX
  simp (maxSteps:=999999) only [E0,seval,-Int.reduceNatCast',NUM,NADD0,zs,List.length_map,Int.toNat_natCast,(show (0 : Int) ≤ D.rs.length by omega),(show (0 : Int) ≤ D.fs.length by omega),(show (0 : Int) ≤ X.ss.length by omega),(show (D.rs.length : Int) ≤ maxN by unfold maxN; omega),(show (D.fs.length : Int) ≤ maxN by unfold maxN; omega),(show (X.ss.length : Int) ≤ maxN by unfold maxN; omega),(show 8 ≤ maxB by decide),(show 16 ≤ maxB by decide)] at hX
  generalize hL : W _ (.loop _) _ = L at hX
  have rw0 : IntKind.i64.wrap ((D.rs.length : Int) - 1) = (D.rs.length : Int) - 1:=i64_in (by unfold I64; omega)
  rw [rw0] at hL
  obtain ⟨ex,s,rfl,hex,g2',g6,gfr,gnx,gd,gf⟩:=loop_at hL (α:=Nat) (fun k => D.rs.length - k)
    (fun s0 k s => k ≤ D.rs.length ∧ (∃ hs,FOL D X set w k = some hs ∧ s.H.rows (H.next + 1 + 1 + 1) = some (.gro 2 (hs.map rg) 0)) ∧ s.tmps 3 = I ((D.rs.length : Int) - 1 - k) ∧ s.tmps 0 = .yield (H.next + 1 + 1 + 1 + 1 + 1 + 1 + 1) ∧ s.tmps 1 = .rop [.vs 12 (D.rs.map rch) q.r] ∧ s.H.rows (H.next + 1) = some (.gro 1 [.ptr (H.next + 1 + 1 + 1 + 1) 1 0 0] 0) ∧ s.H.rows (H.next + 1 + 1 + 1 + 1) = some (.gro 23 [.agg (crs D X q id w (H.next + 1 + 1 + 1))] 0) ∧ s.H.rows (H.next + 1 + 1 + 1 + 1 + 1 + 1 + 1) = s0.H.rows (H.next + 1 + 1 + 1 + 1 + 1 + 1 + 1) ∧ s.H.rows (H.next + 1 + 1) = some (.gro 1 [.bool false] 0) ∧ s.H.rows (H.next + 1 + 1 + 1 + 1 + 1 + 1) = some .dfr ∧ (∀ i < H.next,s.H.rows i = H.rows i) ∧ H.next + 1 + 1 + 1 + 1 + 1 + 1 + 1 + 1 < s.H.next ∧ s.defers = [] ∧ s.fid = H.next + 1 + 1 + 1 + 1 + 1 + 1 + 1 + 1)
    (fun s0 ex s => ((ex = .exit 0 ∧ FOL D X set w D.rs.length ≠ none ∧ s.H.rows (H.next + 1) = some (.gro 1 [.ptr (H.next + 1 + 1 + 1 + 1) 1 0 0] 0) ∧ s.H.rows (H.next + 1 + 1 + 1 + 1 + 1 + 1 + 1) = s0.H.rows (H.next + 1 + 1 + 1 + 1 + 1 + 1 + 1)) ∨ (ex = .ret ∧ FOL D X set w D.rs.length = none ∧ (s.H.rows (H.next + 1) = some (.gro 1 [.ptr (H.next + 1 + 1 + 1 + 1) 1 0 0] 0)) ∧ s.H.rows (H.next + 1 + 1 + 1 + 1 + 1 + 1 + 1) = setL (.over (some .ret)) (s0.H.rows (H.next + 1 + 1 + 1 + 1 + 1 + 1 + 1)))) ∧ s.H.rows (H.next + 1 + 1) = some (.gro 1 [.bool false] 0) ∧ s.H.rows (H.next + 1 + 1 + 1 + 1 + 1 + 1) = some .dfr ∧ (∀ i < H.next,s.H.rows i = H.rows i) ∧ H.next + 1 + 1 + 1 + 1 + 1 + 1 + 1 + 1 < s.H.next ∧ s.defers = [] ∧ s.fid = H.next + 1 + 1 + 1 + 1 + 1 + 1 + 1 + 1) 0
    (by simp (maxSteps:=999999) only [E0,seval,-Int.reduceNatCast',NADD0]
        refine ⟨Nat.zero_le _,⟨_,rfl,?_⟩,by simp,fun a ha => ?_,by omega⟩
        · simp (maxSteps:=999999) only [E0,seval,-Int.reduceNatCast',NADD0]
        · simp (maxSteps:=999999) only [E0,seval,-Int.reduceNatCast',(show ¬ a = H.next + 1 by omega),(show ¬ a = H.next + 1 + 1 by omega),(show ¬ a = H.next + 1 + 1 + 1 by omega),(show ¬ a = H.next + 1 + 1 + 1 + 1 by omega),(show ¬ a = H.next + 1 + 1 + 1 + 1 + 1 + 1 by omega),(show ¬ a = H.next + 1 + 1 + 1 + 1 + 1 + 1 + 1 by omega)]) (by
      rintro k s r hW ⟨hk,⟨hs,hN,g3⟩,h3,h0,h1,g1,g4,g7,g2',g6,gfr,gnx,gd,gf⟩
      simp (maxSteps:=999999) only [E0,seval,-Int.reduceNatCast',NADD0] at g7
      by_cases hp : k < D.rs.length
      rotate_left
      · simp (maxSteps:=999999) only [E0,seval,-Int.reduceNatCast',NUM,h3,gd,gf,(show ¬ (0 : Int) ≤ (D.rs.length : Int) - 1 - k by omega)] at hW
        subst hW
        have : k = D.rs.length:=by omega
        subst this
        refine rd_exit ⟨.inl ⟨rfl,by rw [hN]; simp,?_⟩,?_⟩
        · simp (maxSteps:=999999) only [E0,seval,-Int.reduceNatCast',g1,g7,NADD0]
        · simp (maxSteps:=999999) only [E0,seval,-Int.reduceNatCast',g2',g6,gd]
          exact ⟨gfr,gnx⟩
      obtain ⟨i,hi⟩ : ∃ i,D.rs.length - 1 - k = i:=⟨_,rfl⟩
      have hii : ((D.rs.length : Int) - 1 - k) = (i : Int):=by omega
      have hil : i < D.rs.length:=by omega
      have x0 : D.rs[i]? = some D.rs[i]:=List.getElem?_eq_getElem hil
      have x1:=map_get (f:=rch) x0
      have hxr:=hr _ (List.getElem_mem hil)
      have hxR:=RIN_right (hK.2.2.2.1 i _ x0).2
      have fs:=FOL_succ hN (by rw [hi]; exact x0)
      rw [hi] at fs
      obtain ⟨o1,o2⟩:=FOL_ok hmo g1'.2 hN
      have lvb:=LV_bd hmo rfl set g3'.2 g2''.2 o2 (D:=D) i
      have wl : i < w.hs.length:=by have:=g1'.1; omega
      have w0 : w.hs[i]? = some (w.hs[i]'wl):=List.getElem?_eq_getElem _
      have w1:=map_get (f:=rg) w0
      generalize w.hs[i]'wl = ow at w0 w1
      generalize D.rs[i] = x at *
      rw [hii] at h3
      simp (maxSteps:=999999) only [E0,seval,-Int.reduceNatCast',NUM,NADD0,Tryz.func30,List.length_map,Int.toNat_natCast,h3,h0,h1,g1,g2',g3,g4,g6,g7,gd,gf,x1,(show (0 : Int) ≤ i by omega),(show (i : Int) < D.rs.length by omega)] at hW
      rw [if_pos (by kernel_rfl)] at hW
      generalize hE1 : callF _ _ _ _ _ _ = E1 at hW
      have hcall : ∃ H1,E1 = some (.ret (.agg [I (LV D X set w hs i).1,I (LV D X set w hs i).2]),H1) ∧ (∀ a < H.next,H1.rows a = H.rows a) ∧ H1.rows (H.next + 1) = some (.gro 1 [.ptr (H.next + 1 + 1 + 1 + 1) 1 0 0] 0) ∧ H1.rows (H.next + 1 + 1) = some (.gro 1 [.bool false] 0) ∧ H1.rows (H.next + 1 + 1 + 1) = some (.gro 2 (hs.map rg) 0) ∧ H1.rows (H.next + 1 + 1 + 1 + 1) = some (.gro 23 [.agg (crs D X q id w (H.next + 1 + 1 + 1))] 0) ∧ H1.rows (H.next + 1 + 1 + 1 + 1 + 1 + 1) = some .dfr ∧ H1.rows (H.next + 1 + 1 + 1 + 1 + 1 + 1 + 1) = setL .busy (s.H.rows (H.next + 1 + 1 + 1 + 1 + 1 + 1 + 1)) ∧ H.next + 1 + 1 + 1 + 1 + 1 + 1 + 1 + 1 < H1.next:=by
        obtain ⟨H1,rfl,fr1,nx1⟩:=c_leaves hr (q:=q) hE hw (H.next + 1 + 1 + 1 + 1) (H.next + 1 + 1 + 1) hs o1 o2 i hil _ (h.mono (H':=_) (by simp (maxSteps:=999999) only [E0,seval,-Int.reduceNatCast',(show ¬ id = H.next + 1 + 1 + 1 + 1 + 1 + 1 + 1 by omega)]; exact gfr id idl) (by simp (maxSteps:=999999) only [E0,seval,-Int.reduceNatCast']; omega)) (by simp (maxSteps:=999999) only [E0,seval,-Int.reduceNatCast',NADD0,g4]) (by simp (maxSteps:=999999) only [E0,seval,-Int.reduceNatCast']; omega) (by simp (maxSteps:=999999) only [E0,seval,-Int.reduceNatCast',NADD0,g3]) (by simp (maxSteps:=999999) only [E0,seval,-Int.reduceNatCast']; omega) E1 hE1
        clear hE1
        simp (maxSteps:=999999) only [E0,seval,-Int.reduceNatCast'] at nx1
        refine ⟨H1,rfl,fun a ha => ?_,?_,?_,?_,?_,?_,?_,by omega⟩
        · rw [fr1 a (by simp (maxSteps:=999999) only [E0,seval,-Int.reduceNatCast']; omega)]
          simp (maxSteps:=999999) only [E0,seval,-Int.reduceNatCast',(show ¬ a = H.next + 1 + 1 + 1 + 1 + 1 + 1 + 1 by omega)]
          exact gfr a ha
        · rw [fr1 _ (by simp (maxSteps:=999999) only [E0,seval,-Int.reduceNatCast']; omega)]
          simp (maxSteps:=999999) only [E0,seval,-Int.reduceNatCast',NADD0,g1]
        · rw [fr1 _ (by simp (maxSteps:=999999) only [E0,seval,-Int.reduceNatCast']; omega)]
          simp (maxSteps:=999999) only [E0,seval,-Int.reduceNatCast',NADD0,g2']
        · rw [fr1 _ (by simp (maxSteps:=999999) only [E0,seval,-Int.reduceNatCast']; omega)]
          simp (maxSteps:=999999) only [E0,seval,-Int.reduceNatCast',NADD0,g3]
        · rw [fr1 _ (by simp (maxSteps:=999999) only [E0,seval,-Int.reduceNatCast']; omega)]
          simp (maxSteps:=999999) only [E0,seval,-Int.reduceNatCast',NADD0,g4]
        · rw [fr1 _ (by simp (maxSteps:=999999) only [E0,seval,-Int.reduceNatCast']; omega)]
          simp (maxSteps:=999999) only [E0,seval,-Int.reduceNatCast',NADD0,g6]
        · rw [fr1 _ (by simp (maxSteps:=999999) only [E0,seval,-Int.reduceNatCast']; omega)]
          simp (maxSteps:=999999) only [E0,seval,-Int.reduceNatCast',NADD0,g7,setL]
      clear hE1
      obtain ⟨H1,rfl,qf,q1,q2,q3,q4,q6,q7,qn⟩:=hcall
      rw [g7] at q7
      simp (maxSteps:=999999) only [E0,seval,-Int.reduceNatCast',setL] at q7
      obtain ⟨la,hla⟩ : ∃ a,(LV D X set w hs i).1 = a:=⟨_,rfl⟩
      obtain ⟨lb,hlb⟩ : ∃ a,(LV D X set w hs i).2 = a:=⟨_,rfl⟩
      rw [hla,hlb] at lvb
      rw [hla,hlb] at hW
      by_cases ho : 1073741824 < la
      · have HNO : ¬ FOK D X set w hs i x:=fun g => by have:=g.1; rw [hla] at this; omega
        simp (maxSteps:=999999) only [E0,seval,-Int.reduceNatCast',NUM,NADD0,Tryz.func30,List.length_map,Int.toNat_natCast,q1,q2,q3,q4,q6,q7,gd,gf,h3,x1,w1,(i64_in (x:=(i : Int) - 1) (by unfold I64; omega)),(show (0 : Int) ≤ i by omega),(show (i : Int) < D.rs.length by omega),(show (i : Int) < w.hs.length by omega),ho] at hW
        subst hW
        refine rd_ret ⟨.inr ⟨rfl,FOL_none (fs.2 HNO) (by omega),?_,?_⟩,?_⟩
        · simp (maxSteps:=999999) only [E0,seval,-Int.reduceNatCast',NADD0]
        · simp (maxSteps:=999999) only [E0,seval,-Int.reduceNatCast',NADD0,setL]
        · simp (maxSteps:=999999) only [E0,seval,-Int.reduceNatCast',NADD0,q2,q6,gd]
          refine ⟨fun a ha => ?_,by omega⟩
          simp (maxSteps:=999999) only [E0,seval,-Int.reduceNatCast',(show ¬ a = H.next + 1 by omega),(show ¬ a = H.next + 1 + 1 by omega),(show ¬ a = H.next + 1 + 1 + 1 by omega),(show ¬ a = H.next + 1 + 1 + 1 + 1 by omega),(show ¬ a = H.next + 1 + 1 + 1 + 1 + 1 + 1 by omega),(show ¬ a = H.next + 1 + 1 + 1 + 1 + 1 + 1 + 1 by omega)]
          exact qf a ha
      obtain ⟨ra0,rv,rce,rcv⟩:=c_rch x hxr hxR la ⟨lvb.1,by omega⟩
      obtain ⟨ms0,mce⟩:=c_mos x hxr hxR (min 1073741824 lb) (by omega)
      have hIs : INQ X set id H1:=⟨by have:=h.row; rw [← qf id idl] at this; exact this,by omega⟩
      have cm:=c_meter D X q set id 1 i ow.1 ow.2 H1 hIs
      obtain ⟨ma,hma⟩ : ∃ a,(MT X.ss set 1 i ow).1 = a:=⟨_,rfl⟩
      obtain ⟨mb,hmb⟩ : ∃ a,(MT X.ss set 1 i ow).2 = a:=⟨_,rfl⟩
      rw [show ((ow.1,ow.2) : Int × Int) = ow from rfl,hma,hmb] at cm
      have hwl : w.hs.length = D.rs.length:=by have:=g1'.1; omega
      have oil : i < hs.length:=by omega
      have o0 : hs[i]? = some (hs[i]'oil):=List.getElem?_eq_getElem _
      have o3:=map_get (f:=rg) o0
      have fhd : FHD D X set w hs i x = (max (REA x la) ma,min (MOS x (min 1073741824 lb)) mb):=by
        unfold FHD
        rw [w0,Option.getD_some,hla,hlb,hma,hmb]
      by_cases hA : REA x la ≤ 1073741824
      rotate_left
      · have HNO : ¬ FOK D X set w hs i x:=fun g => by have:=g.2.1; rw [hla] at this; omega
        simp (maxSteps:=999999) only [E0,seval,-Int.reduceNatCast',NUM,NADD0,Tryz.func30,List.length_map,Int.toNat_natCast,q1,q2,q3,q4,q6,q7,gd,gf,h3,x1,w1,o1,hwl,List.length_set,List.getElem?_set,(i64_in (x:=(i : Int) - 1) (by unfold I64; omega)),(show (0 : Int) ≤ i by omega),(show (i : Int) < D.rs.length by omega),(show (i : Int) < w.hs.length by omega),hil,cm,rce,mce,Nat.zero_add,List.getElem?_map,o3,ho,hA] at hW
        rw [if_pos (by kernel_rfl),if_pos (Nat.zero_le _)] at hW
        replace hW:=ite_chk3 (fun a b c => [(15,[Vr.row c],[Vr.row c]),(11,[Vr.box 15],[]),(7,[Vr.box 15],[]),(3,[Vr.row b],[]),(0,[Vr.row a],[])]) (H.next + 1) (H.next + 1 + 1 + 1 + 1) (H.next + 1 + 1 + 1) (by omega) (by omega) (by omega) (by intro f h1 h2 h3; simp [renL,renM,renV,h1,h2,h3]) (by kernel_rfl) hW
        subst hW
        refine rd_ret ⟨.inr ⟨rfl,FOL_none (fs.2 HNO) (by omega),?_,?_⟩,?_⟩
        · simp (maxSteps:=999999) only [E0,seval,-Int.reduceNatCast',NADD0]
        · simp (maxSteps:=999999) only [E0,seval,-Int.reduceNatCast',NADD0,setL]
        · simp (maxSteps:=999999) only [E0,seval,-Int.reduceNatCast',NADD0,q2,q6,gd]
          refine ⟨fun a ha => ?_,by omega⟩
          simp (maxSteps:=999999) only [E0,seval,-Int.reduceNatCast',(show ¬ a = H.next + 1 by omega),(show ¬ a = H.next + 1 + 1 by omega),(show ¬ a = H.next + 1 + 1 + 1 by omega),(show ¬ a = H.next + 1 + 1 + 1 + 1 by omega),(show ¬ a = H.next + 1 + 1 + 1 + 1 + 1 + 1 by omega),(show ¬ a = H.next + 1 + 1 + 1 + 1 + 1 + 1 + 1 by omega)]
          exact qf a ha
      have:=rcv hA
      subst this
      by_cases hB : min (MOS x (min 1073741824 lb)) mb < max (REA x la) ma
      · have HNO : ¬ FOK D X set w hs i x:=fun g => by have:=g.2.2; rw [fhd] at this; simp only at this; omega
        simp (maxSteps:=999999) only [E0,seval,-Int.reduceNatCast',NUM,NADD0,Tryz.func30,List.length_map,Int.toNat_natCast,q1,q2,q3,q4,q6,q7,gd,gf,h3,x1,w1,o1,hwl,List.length_set,List.getElem?_set,(i64_in (x:=(i : Int) - 1) (by unfold I64; omega)),(show (0 : Int) ≤ i by omega),(show (i : Int) < D.rs.length by omega),(show (i : Int) < w.hs.length by omega),hil,cm,rce,mce,Nat.zero_add,List.getElem?_map,o3,ho,hA,hB] at hW
        rw [if_pos (by kernel_rfl),if_pos (Nat.zero_le _)] at hW
        replace hW:=ite_chk3 (fun a b c => [(15,[Vr.row c],[Vr.row c]),(11,[Vr.box 15],[]),(7,[Vr.box 15],[]),(3,[Vr.row b],[]),(0,[Vr.row a],[])]) (H.next + 1) (H.next + 1 + 1 + 1 + 1) (H.next + 1 + 1 + 1) (by omega) (by omega) (by omega) (by intro f h1 h2 h3; simp [renL,renM,renV,h1,h2,h3]) (by kernel_rfl) hW
        subst hW
        refine rd_ret ⟨.inr ⟨rfl,FOL_none (fs.2 HNO) (by omega),?_,?_⟩,?_⟩
        · simp (maxSteps:=999999) only [E0,seval,-Int.reduceNatCast',NADD0]
        · simp (maxSteps:=999999) only [E0,seval,-Int.reduceNatCast',NADD0,setL]
        · simp (maxSteps:=999999) only [E0,seval,-Int.reduceNatCast',NADD0,q2,q6,gd]
          refine ⟨fun a ha => ?_,by omega⟩
          simp (maxSteps:=999999) only [E0,seval,-Int.reduceNatCast',(show ¬ a = H.next + 1 by omega),(show ¬ a = H.next + 1 + 1 by omega),(show ¬ a = H.next + 1 + 1 + 1 by omega),(show ¬ a = H.next + 1 + 1 + 1 + 1 by omega),(show ¬ a = H.next + 1 + 1 + 1 + 1 + 1 + 1 by omega),(show ¬ a = H.next + 1 + 1 + 1 + 1 + 1 + 1 + 1 by omega)]
          exact qf a ha
      · have HYES : FOK D X set w hs i x:=⟨by rw [hla]; omega,by rw [hla]; exact hA,by rw [fhd]; simp only; omega⟩
        have ns:=fs.1 HYES
        rw [fhd] at ns
        simp (maxSteps:=999999) only [E0,seval,-Int.reduceNatCast',NUM,NADD0,Tryz.func30,List.length_map,Int.toNat_natCast,q1,q2,q3,q4,q6,q7,gd,gf,h3,x1,w1,o1,hwl,List.length_set,List.getElem?_set,(i64_in (x:=(i : Int) - 1) (by unfold I64; omega)),(show (0 : Int) ≤ i by omega),(show (i : Int) < D.rs.length by omega),(show (i : Int) < w.hs.length by omega),hil,cm,rce,mce,Nat.zero_add,List.getElem?_map,o3,ho,hA,hB] at hW
        rw [if_pos (by kernel_rfl),if_pos (Nat.zero_le _)] at hW
        replace hW:=ite_chk3 (fun a b c => [(15,[Vr.row c],[Vr.row c]),(11,[Vr.box 15],[]),(7,[Vr.box 15],[]),(3,[Vr.row b],[]),(0,[Vr.row a],[])]) (H.next + 1) (H.next + 1 + 1 + 1 + 1) (H.next + 1 + 1 + 1) (by omega) (by omega) (by omega) (by intro f h1 h2 h3; simp [renL,renM,renV,h1,h2,h3]) (by kernel_rfl) hW
        subst hW
        refine rd_next (k + 1) ?_ (show D.rs.length - (k + 1) < D.rs.length - k by omega)
        simp (maxSteps:=999999) only [E0,seval,-Int.reduceNatCast',NADD0,h0,h1,q1,q2,q3,q4,q6,g7]
        refine ⟨by omega,⟨_,ns,?_⟩,?_,fun a ha => ?_,by omega⟩
        · rw [List.map_set]
        · congr 1; omega
        · simp (maxSteps:=999999) only [E0,seval,-Int.reduceNatCast',(show ¬ a = H.next + 1 by omega),(show ¬ a = H.next + 1 + 1 by omega),(show ¬ a = H.next + 1 + 1 + 1 by omega),(show ¬ a = H.next + 1 + 1 + 1 + 1 by omega),(show ¬ a = H.next + 1 + 1 + 1 + 1 + 1 + 1 by omega),(show ¬ a = H.next + 1 + 1 + 1 + 1 + 1 + 1 + 1 by omega)]
          exact qf a ha)
  rcases hex with ⟨rfl,hN,g1,g7⟩ | ⟨rfl,hN,g1,g7⟩
  · simp (maxSteps:=999999) only [E0,seval,-Int.reduceNatCast',NADD0] at g7
    simp (maxSteps:=999999) only [E0,seval,-Int.reduceNatCast',NUM,NADD0,g1,g2',g6,g7,gd,gf] at hX
    subst hX
    refine ⟨_,_,_,rfl,by simp [hN],fun a ha => ?_,?_⟩
    · simp (maxSteps:=999999) only [E0,seval,-Int.reduceNatCast',(show ¬ a = H.next + 1 by omega),(show ¬ a = H.next + 1 + 1 by omega),(show ¬ a = H.next + 1 + 1 + 1 by omega),(show ¬ a = H.next + 1 + 1 + 1 + 1 by omega),(show ¬ a = H.next + 1 + 1 + 1 + 1 + 1 + 1 by omega),(show ¬ a = H.next + 1 + 1 + 1 + 1 + 1 + 1 + 1 by omega)]
      exact gfr a ha
    · simp (maxSteps:=999999) only [E0,seval,-Int.reduceNatCast']
      omega
  · simp (maxSteps:=999999) only [E0,seval,-Int.reduceNatCast',NADD0,setL] at g7
    simp (maxSteps:=999999) only [E0,seval,-Int.reduceNatCast',NUM,NADD0,g1,g2',g6,g7,gd,gf] at hX
    subst hX
    refine ⟨_,_,_,rfl,by simp [hN],fun a ha => ?_,?_⟩
    · simp (maxSteps:=999999) only [E0,seval,-Int.reduceNatCast',(show ¬ a = H.next + 1 by omega),(show ¬ a = H.next + 1 + 1 by omega),(show ¬ a = H.next + 1 + 1 + 1 by omega),(show ¬ a = H.next + 1 + 1 + 1 + 1 by omega),(show ¬ a = H.next + 1 + 1 + 1 + 1 + 1 + 1 by omega),(show ¬ a = H.next + 1 + 1 + 1 + 1 + 1 + 1 + 1 by omega)]
      exact gfr a ha
    · simp (maxSteps:=999999) only [E0,seval,-Int.reduceNatCast']
      omega
end
def EXP (D : Dis) (X : Evd) (set : List Int) : Prop:=∀ w ∈ X.ws,FOL D X set w D.rs.length ≠ none
section
variable {D : Dis} (hr : ∀ x ∈ D.rs,x.OK) {X : Evd} {q : Cps} {set : List Int} {id : Nat}
include hr
set_option maxHeartbeats 4000000 in
theorem c_ex1 (hE : EOK D X) {w : Wav} (hw : w ∈ X.ws) (H : Heap) (h : INQ X set id H) (rq : Nat) (hq : H.rows rq = some (.gro 13 [.agg (inq D X q id)] 0)) (hql : rq < H.next) (R : Option (CR × Heap))
    (hX : callF G Tryz.prog pol 29 [wav w,.ptr rq 1 0 0] H = R) :
    ∃ H' b,R = some (.ret (.bool b),H') ∧ (b = true ↔ FOL D X set w D.rs.length = none) ∧ (∀ i < H.next,H'.rows i = H.rows i) ∧ H.next ≤ H'.next:=by
  subst hX
  rw [callF_eq _ _ Tryz.func29 rfl Tryz.ntmps29 Tryz.results29 (by kernel_rfl) rfl (by exact Nat.le_of_ble_eq_true rfl)]
  simp (maxSteps:=999999) only [E0,seval,-Int.reduceNatCast',NUM,hq]
  generalize hE1 : callF _ _ _ _ _ _ = E1
  obtain ⟨p,H',b,rfl,hb,hf,hn⟩:=c_follow hr (q:=q) (set:=set) (id:=id) hE hw _ (h.mono (by simp (maxSteps:=999999) only [E0,seval,-Int.reduceNatCast']) (by simp (maxSteps:=999999) only [E0,seval,-Int.reduceNatCast']; omega)) E1 hE1
  clear hE1
  simp (maxSteps:=999999) only [E0,seval,-Int.reduceNatCast'] at hn
  simp (maxSteps:=999999) only [E0,seval,-Int.reduceNatCast'] at hf
  by_cases hN : FOL D X set w D.rs.length = none
  · have : b = false:=by cases b with
      | false => rfl
      | true => exact absurd hN (hb.1 rfl)
    subst this
    simp (maxSteps:=999999) only [E0,seval,-Int.reduceNatCast',NUM]
    refine ⟨_,_,rfl,by simp [hN],fun i hi => hf i (by omega),by omega⟩
  · have : b = true:=hb.2 hN
    subst this
    simp (maxSteps:=999999) only [E0,seval,-Int.reduceNatCast',NUM]
    refine ⟨_,_,rfl,by simp [hN],fun i hi => hf i (by omega),by omega⟩
set_option maxHeartbeats 4000000 in
theorem c_exix (hE : EOK D X) (H : Heap) (h : INQ X set id H) (rq : Nat) (hq : H.rows rq = some (.gro 13 [.agg (inq D X q id)] 0)) (hql : rq < H.next) (R : Option (CR × Heap))
    (hX : callF G Tryz.prog pol 49 [.vs 4 (X.ws.map wav) q.w,.fn 29 [.ptr rq 1 0 0]] H = R) :
    ∃ H' i,R = some (.ret (I i),H') ∧ (0 ≤ i ↔ ¬ EXP D X set) ∧ (∀ i < H.next,H'.rows i = H.rows i) ∧ H.next ≤ H'.next:=by
  subst hX
  have lw:=hE.2.1
  have idl:=h.lt
  rw [callF_eq _ _ Tryz.func49 rfl Tryz.ntmps49 Tryz.results49 (by kernel_rfl) rfl (by exact Nat.le_of_ble_eq_true rfl)]
  simp (maxSteps:=999999) only [E0,seval,-Int.reduceNatCast',NUM,List.length_map]
  generalize hL : W _ (.loop _) _ = L
  obtain ⟨ex,s,rfl,hd,hf,hfr,hnx,hex⟩:=loop_at hL (α:=Nat) (fun k => X.ws.length - k)
    (fun s0 j s => j ≤ X.ws.length ∧ (∀ w ∈ X.ws.take j,FOL D X set w D.rs.length ≠ none) ∧ s.tmps 8 = I j ∧ s.tmps 7 = I X.ws.length ∧ s.tmps 0 = .vs 4 (X.ws.map wav) q.w ∧ s.tmps 1 = .fn 29 [.ptr rq 1 0 0] ∧
      (∀ i < H.next,s.H.rows i = H.rows i) ∧ H.next ≤ s.H.next ∧ s.defers = [] ∧ s.fid = H.next)
    (fun s0 ex s => s.defers = [] ∧ s.fid = H.next ∧ (∀ i < H.next,s.H.rows i = H.rows i) ∧ H.next ≤ s.H.next ∧ ((ex = .exit 0 ∧ EXP D X set) ∨ (ex = .ret ∧ (¬ EXP D X set) ∧ ∃ i : Nat,s.tmps 4 = I i))) 0
    (by simp (maxSteps:=999999) only [E0,seval,-Int.reduceNatCast']; exact ⟨Nat.zero_le _,by simp,by simp,fun _ _ => trivial,by omega⟩) (by
      rintro j s r hW ⟨hj,hA,h8,h7,h0,h1,hfr,hnx,hd,hf⟩
      by_cases hp : j < X.ws.length
      · have e0 : X.ws[j]? = some X.ws[j]:=List.getElem?_eq_getElem hp
        have e1:=map_get (f:=wav) e0
        generalize X.ws[j] = w at *
        have hw : w ∈ X.ws:=List.mem_of_getElem? e0
        have hI:=h.mono (H':=s.H) (hfr id h.lt) hnx
        obtain ⟨H',b,ee,hb,hf',hn'⟩:=c_ex1 hr (q:=q) hE hw s.H hI rq (by rw [hfr rq hql]; exact hq) (by omega) _ rfl
        have lt : (j : Int) < X.ws.length:=by omega
        by_cases hN : FOL D X set w D.rs.length = none
        · have : b = true:=hb.2 hN
          subst this
          simp (maxSteps:=999999) only [E0,seval,-Int.reduceNatCast',NUM,h8,h7,h0,h1,ee,hd,hf,e1,lt,List.length_map,Int.toNat_natCast,(show (0 : Int) ≤ j by omega)] at hW
          subst hW
          refine rd_ret ⟨?_,?_,?_,?_,.inr ⟨rfl,fun g => g w hw hN,j,?_⟩⟩ <;> simp (maxSteps:=999999) only [E0,seval,-Int.reduceNatCast',hd,hf]
          · exact fun i hi => (hf' i (by omega)).trans (hfr i hi)
          · omega
        · have : b = false:=by cases b with
            | false => rfl
            | true => exact absurd (hb.1 rfl) hN
          subst this
          simp (maxSteps:=999999) only [E0,seval,-Int.reduceNatCast',NUM,h8,h7,h0,h1,ee,hd,hf,e1,lt,List.length_map,Int.toNat_natCast,(show (0 : Int) ≤ j by omega),(i64_in (x:=(j : Int) + 1) (by unfold I64; omega))] at hW
          subst hW
          refine rd_next (j + 1) ?_ (show X.ws.length - (j + 1) < X.ws.length - j by omega)
          simp (maxSteps:=999999) only [E0,seval,-Int.reduceNatCast',h7,h0,h1,hd]
          refine ⟨by omega,fun w' hw' => ?_,by simp,fun i hi => (hf' i (by omega)).trans (hfr i hi),by omega⟩
          rw [List.take_add_one,e0] at hw'
          rcases List.mem_append.1 hw' with hw' | hw'
          · exact hA w' hw'
          · simp at hw'; subst hw'; exact hN
      · simp (maxSteps:=999999) only [E0,seval,-Int.reduceNatCast',NUM,h8,h7,hd,hf,(show ¬ (j : Int) < X.ws.length by omega)] at hW
        subst hW
        rw [List.take_of_length_le (by omega)] at hA
        refine rd_exit ⟨?_,?_,?_,?_,.inl ⟨rfl,hA⟩⟩ <;> simp (maxSteps:=999999) only [E0,seval,-Int.reduceNatCast',hd,hf]
        · exact hfr
        · exact hnx)
  rcases hex with ⟨rfl,hA⟩ | ⟨rfl,hA,i,h4⟩
  · simp (maxSteps:=999999) only [E0,seval,-Int.reduceNatCast',hd,hf]
    exact ⟨_,_,rfl,⟨fun g => absurd g (by decide),fun g => absurd hA g⟩,hfr,hnx⟩
  · simp (maxSteps:=999999) only [E0,seval,-Int.reduceNatCast',hd,hf,h4]
    exact ⟨_,_,rfl,⟨fun _ => hA,fun _ => by omega⟩,hfr,hnx⟩
set_option maxHeartbeats 4000000 in
theorem c_exct (hE : EOK D X) (H : Heap) (h : INQ X set id H) (rq : Nat) (hq : H.rows rq = some (.gro 13 [.agg (inq D X q id)] 0)) (hql : rq < H.next) (R : Option (CR × Heap))
    (hX : callF G Tryz.prog pol 28 [.vs 4 (X.ws.map wav) q.w,.fn 29 [.ptr rq 1 0 0]] H = R) :
    ∃ H' b,R = some (.ret (.bool b),H') ∧ (b = true ↔ ¬ EXP D X set):=by
  subst hX
  have idl:=h.lt
  rw [callF_eq _ _ Tryz.func28 rfl Tryz.ntmps28 Tryz.results28 (by kernel_rfl) rfl (by exact Nat.le_of_ble_eq_true rfl)]
  simp (maxSteps:=999999) only [E0,seval,-Int.reduceNatCast',NUM]
  generalize hE1 : callF _ _ _ _ _ _ = E1
  obtain ⟨H',i,rfl,hb,hf,hn⟩:=c_exix hr (q:=q) hE _ (h.mono (by simp (maxSteps:=999999) only [E0,seval,-Int.reduceNatCast']) (by simp (maxSteps:=999999) only [E0,seval,-Int.reduceNatCast']; omega)) rq (by simp (maxSteps:=999999) only [E0,seval,-Int.reduceNatCast',hq]) (by simp (maxSteps:=999999) only [E0,seval,-Int.reduceNatCast']; omega) E1 hE1
  by_cases h0 : 0 ≤ i
  · simp (maxSteps:=999999) only [E0,seval,-Int.reduceNatCast',NUM,h0]
    exact ⟨_,_,rfl,by simp [hb.1 h0]⟩
  · simp (maxSteps:=999999) only [E0,seval,-Int.reduceNatCast',NUM,h0]
    refine ⟨_,_,rfl,?_⟩
    simp only [Bool.false_eq_true,false_iff]
    exact fun g => h0 (hb.2 g)
theorem c_explains (hv : DV D q.cs q.gs q.ds q.ws) (hb : ∀ w ∈ X.ws,w.hs.length ≤ 1000000 ∧ w.os.length ≤ 1000000 ∧ w.ts.length ≤ 1000000) (set : List Int) (v : PV) (hs : RV set v) (hls : set.length ≤ 1000000) :
    ∃ b c,ap Tryz.prog pol 10 [.agg (dcl D q),.agg (evq X q),v] = some (.ret (.tup [.bool b,I c])) ∧ (c = 0 ↔ EOK D X ∧ SOK X.ss.length (-1) set) ∧ (c = 0 → (b = true ↔ EXP D X set)):=by
  rw [ap_eq _ Tryz.func10 rfl Tryz.ntmps10 Tryz.results10 (by kernel_rfl) rfl (by exact Nat.le_of_ble_eq_true rfl)]
  simp (maxSteps:=999999) only [E0,seval,-Int.reduceNatCast',NUM]
  generalize hA : callF _ _ _ _ _ _ = A
  obtain ⟨H',c,w,rfl,hfr,hnx,hc⟩:=c_ask hr hv hb set v hs hls _ _ hA
  clear hA
  rcases hc with ⟨h0,hn,cs,rfl,hcs⟩ | ⟨rfl,hE,hS,mm,rfl,hrow,hlt,hB⟩
  · simp (maxSteps:=999999) only [E0,seval,-Int.reduceNatCast',NUM,h0,hcs]
    exact ⟨_,_,rfl,⟨fun g => absurd g h0,fun g => absurd g hn⟩,fun g => absurd g h0⟩
  · have hI : INQ X set _ H':=⟨⟨mm,hrow,hB⟩,hlt⟩
    simp (maxSteps:=999999) only [E0,seval,-Int.reduceNatCast',NUM]
    generalize hE1 : callF _ _ _ _ _ _ = E1
    simp (maxSteps:=999999) only [E0,seval,-Int.reduceNatCast'] at hlt
    simp (maxSteps:=999999) only [E0,seval,-Int.reduceNatCast'] at hnx
    obtain ⟨H2,b,rfl,hb'⟩:=c_exct hr (q:=q) hE _ (hI.mono (by simp (maxSteps:=999999) only [E0,seval,-Int.reduceNatCast',(show ¬ (2 : Nat) = H'.next by omega)]) (by simp (maxSteps:=999999) only [E0,seval,-Int.reduceNatCast']; omega)) H'.next (by simp (maxSteps:=999999) only [E0,seval,-Int.reduceNatCast']) (by simp (maxSteps:=999999) only [E0,seval,-Int.reduceNatCast']; omega) E1 hE1
    clear hE1
    cases b with
    | false =>
      simp (maxSteps:=999999) only [E0,seval,-Int.reduceNatCast',NUM]
      refine ⟨_,_,rfl,by simp [hE,hS],fun _ => ?_⟩
      simp at hb'
      simpa using hb'
    | true =>
      simp (maxSteps:=999999) only [E0,seval,-Int.reduceNatCast',NUM]
      refine ⟨_,_,rfl,by simp [hE,hS],fun _ => ?_⟩
      simp at hb'
      simpa using hb'
end
theorem SHRn (n i : Nat) (h : i ≤ 64) : (n : Int).fdiv (2 ^ min i IntKind.i64.bits) = ((n / 2 ^ i : Nat) : Int):=by
  rw [show min i IntKind.i64.bits = i from Nat.min_eq_left h,Int.fdiv_eq_ediv_of_nonneg _ (Int.pow_nonneg (by decide))]
  simp
theorem SHLn (i : Nat) (h : i ≤ 62) : IntKind.i64.wrap (1 * 2 ^ min i IntKind.i64.bits) = ((2 ^ i : Nat) : Int):=by
  rw [show min i IntKind.i64.bits = i from Nat.min_eq_left (show i ≤ 64 by omega),Int.one_mul]
  have h1 : 2 ^ i ≤ 2 ^ 62:=Nat.pow_le_pow_right (by decide) h
  have h2 : (2 : Nat) ^ 62 = 4611686018427387904:=by decide
  have e : ((2 : Int) ^ i) = ((2 ^ i : Nat) : Int):=by simp
  rw [e]
  generalize 2 ^ i = k at *
  exact i64_in (by unfold I64; omega)
theorem bvn (a : Nat) (h : a < 9223372036854775808) : (BitVec.ofInt IntKind.i64.bits (a : Int)).toNat = a:=by
  rw [BitVec.ofInt_natCast,BitVec.toNat_ofNat]
  exact Nat.mod_eq_of_lt (by show a < 2 ^ 64; omega)
theorem ANDc (a b : Nat) (ha : a < 9223372036854775808) (hb : b < 9223372036854775808) : IntKind.i64.wrap ((BitVec.ofInt IntKind.i64.bits (a : Int) &&& BitVec.ofInt IntKind.i64.bits (b : Int)).toNat : Nat) = ((a &&& b : Nat) : Int):=by
  rw [BitVec.toNat_and,bvn a ha,bvn b hb]
  have : a &&& b ≤ a:=Nat.and_le_left
  exact i64_in (by unfold I64; omega)
theorem AND1 (a : Nat) (ha : a < 9223372036854775808) : IntKind.i64.wrap ((BitVec.ofInt IntKind.i64.bits (a : Int) &&& BitVec.ofInt IntKind.i64.bits 1).toNat : Nat) = ((a % 2 : Nat) : Int):=by
  have:=ANDc a 1 ha (by decide)
  rw [Nat.and_one_is_mod] at this
  exact this
theorem ORc (a b : Nat) (ha : a < 4611686018427387904) (hb : b < 4611686018427387904) : IntKind.i64.wrap ((BitVec.ofInt IntKind.i64.bits (a : Int) ||| BitVec.ofInt IntKind.i64.bits (b : Int)).toNat : Nat) = ((a ||| b : Nat) : Int):=by
  rw [BitVec.toNat_or,bvn a (by omega),bvn b (by omega)]
  have : a ||| b < 2 ^ 62:=Nat.or_lt_two_pow (by omega) (by omega)
  exact i64_in (by unfold I64; omega)
def ANDN (a b : Nat) : Nat:=a &&& (2 ^ 64 - 1 - b)
theorem ANDN_bit {a : Nat} (b i : Nat) (ha : a < 2 ^ 64) (hb : b < 2 ^ 64) : (ANDN a b).testBit i = (a.testBit i && !b.testBit i):=by
  unfold ANDN
  rw [Nat.testBit_and]
  by_cases hi : i < 64
  · have e : 2 ^ 64 - 1 - b = 2 ^ 64 - (b + 1):=by omega
    rw [e,Nat.testBit_two_pow_sub_succ hb]
    simp [hi]
  · have : a.testBit i = false:=Nat.testBit_lt_two_pow (Nat.lt_of_lt_of_le ha (Nat.pow_le_pow_right (by decide) (by omega)))
    simp [this]
theorem ANDN_le (a b : Nat) : ANDN a b ≤ a:=Nat.and_le_left
theorem ANDNc (a b : Nat) (ha : a < 9223372036854775808) (hb : b < 9223372036854775808) : IntKind.i64.wrap ((BitVec.ofInt IntKind.i64.bits (a : Int) &&& ~~~BitVec.ofInt IntKind.i64.bits (b : Int)).toNat : Nat) = ((ANDN a b : Nat) : Int):=by
  rw [BitVec.toNat_and,BitVec.toNat_not,bvn a ha,bvn b hb]
  have : ANDN a b ≤ a:=ANDN_le a b
  unfold ANDN at this ⊢
  exact i64_in (by unfold I64; show _ ≤ ((a &&& (2 ^ 64 - 1 - b) : Nat) : Int) ∧ ((a &&& (2 ^ 64 - 1 - b) : Nat) : Int) ≤ _; omega)
theorem bit_iff (n i : Nat) : n.testBit i = true ↔ n / 2 ^ i % 2 = 1:=by
  rw [Nat.testBit_eq_decide_div_mod_eq]; simp
def BITS (n : Nat) : Nat → List Int
  | 0 => []
  | k + 1 => BITS n k ++ (if n / 2 ^ k % 2 = 1 then [(k : Int)] else [])
theorem BITS_mem {n : Nat} {x : Int} : ∀ {k : Nat},x ∈ BITS n k ↔ ∃ i < k,x = (i : Int) ∧ n / 2 ^ i % 2 = 1
  | 0 => by simp [BITS]
  | k + 1 => by
    unfold BITS
    rw [List.mem_append,BITS_mem]
    constructor
    · rintro (⟨i,hi,e,h⟩ | h)
      · exact ⟨i,by omega,e,h⟩
      · split at h
        · next hb => simp at h; exact ⟨k,by omega,h,hb⟩
        · simp at h
    · rintro ⟨i,hi,e,h⟩
      by_cases g : i = k
      · subst g; right; rw [if_pos h]; simp [e]
      · exact .inl ⟨i,by omega,e,h⟩
theorem BITS_len (n : Nat) : ∀ k,(BITS n k).length ≤ k
  | 0 => by simp [BITS]
  | k + 1 => by
    have:=BITS_len n k
    unfold BITS
    rw [List.length_append]
    split <;> simp <;> omega
theorem SOK_app {m : Int} {k : Int} (hk : k < m) : ∀ {l : List Int} {last : Int},SOK m last l → last < k → (∀ x ∈ l,x < k) → SOK m last (l ++ [k])
  | [],last,_,h1,_ => ⟨h1,hk,trivial⟩
  | x :: r,last,h,h1,h2 => ⟨h.1,h.2.1,SOK_app hk h.2.2 (h2 x (by simp)) fun y hy => h2 y (by simp [hy])⟩
theorem BITS_SOK (n m : Nat) : ∀ k,k ≤ m → SOK m (-1) (BITS n k)
  | 0,_ => trivial
  | k + 1,h => by
    unfold BITS
    split
    · refine SOK_app (by omega) (BITS_SOK n m k (by omega)) (by omega) fun x hx => ?_
      obtain ⟨i,hi,rfl,_⟩:=BITS_mem.1 hx
      omega
    · rw [List.append_nil]; exact BITS_SOK n m k (by omega)
noncomputable instance (D : Dis) (X : Evd) (set : List Int) : Decidable (EXP D X set):=Classical.propDecidable _
section
variable {D : Dis} (hr : ∀ x ∈ D.rs,x.OK) {X : Evd} {q : Cps} (hv : DV D q.cs q.gs q.ds q.ws) (hb : ∀ w ∈ X.ws,w.hs.length ≤ 1000000 ∧ w.os.length ≤ 1000000 ∧ w.ts.length ≤ 1000000)
include hr hv hb
noncomputable def TB (D : Dis) (X : Evd) (n : Nat) : Bool:=decide (EXP D X (BITS n X.ss.length))
omit hr hv hb in
theorem TB_iff {n : Nat} : TB D X n = true ↔ EXP D X (BITS n X.ss.length):=by unfold TB; exact decide_eq_true_iff
noncomputable abbrev tbl (D : Dis) (X : Evd) (k : Nat) : List PV:=(List.range k).map fun n => .bool (TB D X n)
set_option maxHeartbeats 8000000 in
theorem c_table : ∃ c v,ap Tryz.prog pol 21 [.agg (dcl D q),.agg (evq X q)] = some (.ret (.tup [v,I c])) ∧ (c = 0 ↔ EOK D X) ∧ (c = 0 → v = .vs 1 (tbl D X (2 ^ X.ss.length)) none):=by
  obtain ⟨c,ec,hc⟩:=c_evcheck hr hv hb
  rw [ap_eq _ Tryz.func21 rfl Tryz.ntmps21 Tryz.results21 (by kernel_rfl) rfl (by exact Nat.le_of_ble_eq_true rfl)]
  by_cases h0 : c = 0
  rotate_left
  · simp (maxSteps:=999999) only [E0,seval,-Int.reduceNatCast',NUM,SRCH,SFRM,SCRP,SRGT,SDTY,SWAV,SSUS,hv.st,ec,h0]
    exact ⟨_,_,rfl,⟨fun g => absurd g h0,fun g => absurd (hc.2 g) h0⟩,fun g => absurd g h0⟩
  have hE:=hc.1 h0
  subst h0
  have lss:=hE.2.2.1
  simp (maxSteps:=999999) only [E0,seval,-Int.reduceNatCast',NUM,SRCH,SFRM,SCRP,SRGT,SDTY,SWAV,SSUS,hv.st,ec,List.length_map,Int.toNat_natCast,SHLn X.ss.length (by omega),(show ¬ (X.ss.length : Int) < 0 by omega)]
  generalize hL : W _ (.loop _) _ = L
  have p0 : 2 ^ X.ss.length ≤ 2 ^ 12:=Nat.pow_le_pow_right (by decide) lss
  have p1 : (2 : Nat) ^ 12 = 4096:=by decide
  obtain ⟨N,hN⟩ : ∃ N,2 ^ X.ss.length = N:=⟨_,rfl⟩
  rw [hN] at hL p0
  obtain ⟨ex,s,rfl,rfl,⟨r4,h4,hr4⟩,hd,hf⟩:=loop_at hL (α:=Nat) (fun k => N - k)
    (fun s0 n s => n ≤ N ∧ (∃ r4,s.tmps 4 = .gsl 1 r4 n 0 n ∧ s.H.rows r4 = some (.gro 1 (tbl D X n) 0) ∧ r4 < s.H.next) ∧ s.tmps 21 = I n ∧ s.tmps 20 = I N ∧ s.tmps 2 = .bptr 0 2 0 0 ∧ s.tmps 3 = .bptr 0 3 0 0 ∧ s.boxes 2 = some (0,dcl D q) ∧ s.boxes 3 = some (0,evq X q) ∧ s.defers = [] ∧ s.fid = 0)
    (fun s0 ex s => ex = .exit 0 ∧ (∃ r4,s.tmps 4 = .gsl 1 r4 N 0 N ∧ s.H.rows r4 = some (.gro 1 (tbl D X N) 0)) ∧ s.defers = [] ∧ s.fid = 0) 0
    (by simp (maxSteps:=999999) only [E0,seval,-Int.reduceNatCast',NUM]
        exact ⟨Nat.zero_le _,_,rfl,by simp (maxSteps:=999999) only [E0,seval,-Int.reduceNatCast']; rfl,by decide⟩) (by
      rintro n s r hW ⟨hn,⟨r4,h4,hr4,hl4⟩,h21,h20,h2,h3,b2,b3,hd,hf⟩
      by_cases hp : n < N
      rotate_left
      · simp (maxSteps:=999999) only [E0,seval,-Int.reduceNatCast',NUM,h21,h20,hd,hf,(show ¬ (n : Int) < N by omega)] at hW
        subst hW
        have : n = N:=by omega
        subst this
        refine rd_exit ⟨rfl,⟨r4,?_,?_⟩,?_,?_⟩ <;> simp (maxSteps:=999999) only [E0,seval,-Int.reduceNatCast',h4,hr4,hd,hf]
      have lt : (n : Int) < N:=by omega
      simp (maxSteps:=999999) only [E0,seval,-Int.reduceNatCast',NUM,List.length_map,Int.toNat_natCast,h4,hr4,h21,h20,h2,h3,b2,b3,hd,hf,lt] at hW
      generalize hL2 : W _ (.loop _) _ = L2 at hW
      obtain ⟨ex,s',rfl,rfl,⟨r7,h7,hr7,hl7,hne⟩,g4,gr4,gl4,g21,g20,g2,g3,g6,c2,c3,gd,gf⟩:=loop_at hL2 (α:=Nat) (fun k => X.ss.length - k)
        (fun s0 k s' => k ≤ X.ss.length ∧ (∃ r7,s'.tmps 7 = .gsl 1 r7 (BITS n k).length 0 (BITS n k).length ∧ s'.H.rows r7 = some (.gro 1 ((BITS n k).map I) 0) ∧ r7 < s'.H.next ∧ r7 ≠ r4) ∧ s'.tmps 4 = .gsl 1 r4 n 0 n ∧ s'.H.rows r4 = some (.gro 1 (tbl D X n) 0) ∧ r4 < s'.H.next ∧ s'.tmps 27 = I k ∧ s'.tmps 26 = I X.ss.length ∧ s'.tmps 6 = I n ∧ s'.tmps 21 = I n ∧ s'.tmps 20 = I N ∧ s'.tmps 2 = .bptr 0 2 0 0 ∧ s'.tmps 3 = .bptr 0 3 0 0 ∧ s'.boxes 2 = some (0,dcl D q) ∧ s'.boxes 3 = some (0,evq X q) ∧ s'.defers = [] ∧ s'.fid = 0)
        (fun s0 ex s' => ex = .exit 2 ∧ (∃ r7,s'.tmps 7 = .gsl 1 r7 (BITS n X.ss.length).length 0 (BITS n X.ss.length).length ∧ s'.H.rows r7 = some (.gro 1 ((BITS n X.ss.length).map I) 0) ∧ r7 < s'.H.next ∧ r7 ≠ r4) ∧ s'.tmps 4 = .gsl 1 r4 n 0 n ∧ s'.H.rows r4 = some (.gro 1 (tbl D X n) 0) ∧ r4 < s'.H.next ∧ s'.tmps 21 = I n ∧ s'.tmps 20 = I N ∧ s'.tmps 2 = .bptr 0 2 0 0 ∧ s'.tmps 3 = .bptr 0 3 0 0 ∧ s'.tmps 6 = I n ∧ s'.boxes 2 = some (0,dcl D q) ∧ s'.boxes 3 = some (0,evq X q) ∧ s'.defers = [] ∧ s'.fid = 0) 0
        (by simp (maxSteps:=999999) only [E0,seval,-Int.reduceNatCast',NUM,h4,hr4,h21,h20,h2,h3,b2,b3]
            exact ⟨Nat.zero_le _,⟨s.H.next,rfl,by simp (maxSteps:=999999) only [E0,seval,-Int.reduceNatCast',BITS,List.map_nil],by omega,by omega⟩,by simp (maxSteps:=999999) only [E0,seval,-Int.reduceNatCast',(show ¬ r4 = s.H.next by omega),hr4],by omega⟩) (by
          rintro k s' r hW ⟨hk,⟨r7,h7,hr7,hl7,hne⟩,g4,gr4,gl4,g27,g26,g6,g21,g20,g2,g3,c2,c3,gd,gf⟩
          by_cases hq : k < X.ss.length
          rotate_left
          · simp (maxSteps:=999999) only [E0,seval,-Int.reduceNatCast',NUM,g27,g26,gd,gf,(show ¬ (k : Int) < X.ss.length by omega)] at hW
            subst hW
            have : k = X.ss.length:=by omega
            subst this
            refine rd_exit ⟨rfl,⟨r7,?_,?_,?_,hne⟩,?_,?_,?_,?_,?_,?_,?_,?_,?_,?_,?_,?_⟩ <;> simp (maxSteps:=999999) only [E0,seval,-Int.reduceNatCast',h7,hr7,g4,gr4,g21,g20,g6,g2,g3,c2,c3,gd,gf]
            · exact hl7
            · exact gl4
          have lt2 : (k : Int) < X.ss.length:=by omega
          have sh:=SHRn n k (by omega)
          have nn : n / 2 ^ k < 9223372036854775808:=Nat.lt_of_le_of_lt (Nat.div_le_self _ _) (by omega)
          have an:=AND1 (n / 2 ^ k) nn
          have bb:=BITS_len n k
          by_cases hbit : n / 2 ^ k % 2 = 1
          · have al : ([I (k : Int)].all fun e => e.fits 1) = true:=by simp [PV.fits,PV.cells]
            simp (maxSteps:=999999) only [E0,seval,-Int.reduceNatCast',NUM,List.length_map,Int.toNat_natCast,h7,hr7,g27,g26,g6,g21,g20,g2,g3,c2,c3,gd,gf,lt2,sh,an,hbit,al,(show ¬ (k : Int) < 0 by omega),(show (0 : Int) ≤ k by omega),(i64_in (x:=(k : Int) + 1) (by unfold I64; omega)),Nat.zero_add,(show (BITS n k).length + 1 ≤ 67108864 by omega),(show (BITS n k).length ≤ 67108863 by omega)] at hW
            subst hW
            refine rd_next (k + 1) ?_ (show X.ss.length - (k + 1) < X.ss.length - k by omega)
            simp (maxSteps:=999999) only [E0,seval,-Int.reduceNatCast',g4,gr4,g26,g6,g21,g20,g2,g3,c2,c3,gd]
            have eB : BITS n (k + 1) = BITS n k ++ [(k : Int)]:=by rw [BITS,if_pos hbit]
            rw [eB]
            refine ⟨by omega,⟨r7,by simp,by simp (maxSteps:=999999) only [E0,seval,-Int.reduceNatCast',List.map_append,List.map_cons,List.map_nil],hl7,hne⟩,?_,gl4,by simp⟩
            simp (maxSteps:=999999) only [E0,seval,-Int.reduceNatCast',(show ¬ r4 = r7 from fun e => hne e.symm),gr4]
          · simp (maxSteps:=999999) only [E0,seval,-Int.reduceNatCast',NUM,List.length_map,Int.toNat_natCast,h7,hr7,g27,g26,g6,g21,g20,g2,g3,c2,c3,gd,gf,lt2,sh,an,(show ¬ ((n / 2 ^ k % 2 : Nat) : Int) = 1 by omega),(show ¬ (k : Int) < 0 by omega),(show (0 : Int) ≤ k by omega),(i64_in (x:=(k : Int) + 1) (by unfold I64; omega))] at hW
            subst hW
            refine rd_next (k + 1) ?_ (show X.ss.length - (k + 1) < X.ss.length - k by omega)
            simp (maxSteps:=999999) only [E0,seval,-Int.reduceNatCast',h7,g4,gr4,g26,g6,g21,g20,g2,g3,c2,c3,gd]
            have eB : BITS n (k + 1) = BITS n k:=by rw [BITS,if_neg hbit,List.append_nil]
            rw [eB]
            exact ⟨by omega,⟨r7,rfl,hr7,hl7,hne⟩,gl4,by simp⟩)
      obtain ⟨b,c',ee,ec1,ec2⟩:=c_explains hr hv hb (BITS n X.ss.length) (.vs 1 ((BITS n X.ss.length).map I) none) (RV_vs _ _) (by have:=BITS_len n X.ss.length; omega)
      have : c' = 0:=ec1.2 ⟨hE,BITS_SOK n X.ss.length _ (Nat.le_refl _)⟩
      subst this
      have hbt : b = TB D X n:=by
        rw [Bool.eq_iff_iff]
        exact (ec2 rfl).trans TB_iff.symm
      subst hbt
      have bb:=BITS_len n X.ss.length
      generalize hBB : BITS n X.ss.length = BB at *
      have al : ([PV.bool (TB D X n)].all fun e => e.fits 1) = true:=by simp [PV.fits,PV.cells]
      have ltb : (tbl D X n).length = n:=by simp
      have mp : (BB.map I).map strip0 = BB.map I:=INTS.2.2.1 BB
      simp (maxSteps:=999999) only [E0,seval,-Int.reduceNatCast',NUM,List.length_map,Int.toNat_natCast,SRCH,SFRM,SCRP,SRGT,SDTY,SWAV,SSUS,hv.st,h7,hr7,g4,gr4,g21,g20,g2,g3,c2,c3,gd,gf,mp,ee,List.take_of_length_le,List.drop_zero,List.length_map,Nat.zero_add,Nat.le_refl,al,(show ¬ r4 = r7 from fun e => hne e.symm),ltb,(show n + 1 ≤ 67108864 by omega),(show n ≤ 67108863 by omega),(i64_in (x:=(n : Int) + 1) (by unfold I64; omega))] at hW
      subst hW
      refine rd_next (n + 1) ?_ (show N - (n + 1) < N - n by omega)
      simp (maxSteps:=999999) only [E0,seval,-Int.reduceNatCast',g20,g2,g3,c2,c3,gd]
      refine ⟨by omega,⟨r4,rfl,?_,gl4⟩,by simp⟩
      rw [if_pos rfl]
      show _ = some (Row.gro 1 ((List.range (n + 1)).map _) 0)
      rw [List.range_succ,List.map_append]; rfl)
  have ltb : (tbl D X N).length = N:=by simp
  have mp : (tbl D X N).map (strip1 s.H) = tbl D X N:=by simp only [List.map_map]; rfl
  simp (maxSteps:=999999) only [E0,seval,-Int.reduceNatCast',hd,hf,h4,hr4,List.take_of_length_le,ltb,Nat.le_refl,List.drop_zero,Nat.zero_add,mp]
  exact ⟨0,_,rfl,⟨fun _ => hE,fun _ => rfl⟩,fun _ => by rw [hN]⟩
end
abbrev elt (l : List Int) : PV:=.vs 1 (l.map I) none
theorem SELT : (∀ l : List (List Int),strip0L (l.map elt) = l.map elt) ∧ (∀ l : List (List Int),(l.map elt).map strip0 = l.map elt) ∧ (∀ H (l : List (List Int)),(l.map elt).map (strip1 H) = l.map elt) ∧ (∀ H (l : List (List Int)),(l.map elt).map (strip2 H) = l.map elt) ∧ (∀ H (l : List (List Int)),strip1L H (l.map elt) = l.map elt) ∧ (∀ H (l : List (List Int)),strip2L H (l.map elt) = l.map elt):=
  STR elt (fun x => by show PV.vs 1 (strip0L (x.map I)) none = _; rw [strip0_ints]) (fun H x => by show PV.vs 1 (strip1L H (x.map I)) none = _; rw [strip1_ints]) (fun H x => by show PV.vs 1 (strip2L H (x.map I)) none = _; rw [strip2_ints])
theorem c_cps (a b : List Int) (ha : a.length ≤ 1000) (hb : b.length ≤ 1000) : ∃ c,ap Tryz.prog pol 25 [elt a,elt b] = some (.ret (I c)):=by
  rw [ap_eq _ Tryz.func25 rfl Tryz.ntmps25 Tryz.results25 (by kernel_rfl) rfl (by exact Nat.le_of_ble_eq_true rfl)]
  simp (maxSteps:=999999) only [E0,seval,-Int.reduceNatCast',NUM,List.length_map]
  generalize hL : W _ (.loop _) _ = L
  obtain ⟨ex,s,rfl,hex,hd,hf,h0,h1⟩:=loop_at hL (α:=Nat) (fun j => a.length - j)
    (fun s0 j s => j ≤ a.length ∧ s.tmps 11 = I j ∧ s.tmps 10 = I a.length ∧ s.tmps 9 = elt a ∧ s.tmps 0 = elt a ∧ s.tmps 1 = elt b ∧ s.defers = [] ∧ s.fid = 0)
    (fun s0 ex s => (ex = .exit 0 ∨ (ex = .ret ∧ ∃ c : Int,s.tmps 4 = I c)) ∧ s.defers = [] ∧ s.fid = 0 ∧ s.tmps 0 = elt a ∧ s.tmps 1 = elt b) 0
    (by simp (maxSteps:=999999) only [E0,seval,-Int.reduceNatCast',NUM]; exact Nat.zero_le _) (by
      rintro j s r hW ⟨hj,h11,h10,h9,h0,h1,hd,hf⟩
      by_cases hp : j < a.length
      rotate_left
      · simp (maxSteps:=999999) only [E0,seval,-Int.reduceNatCast',h11,h10,hd,hf,(show ¬ (j : Int) < a.length by omega)] at hW
        subst hW
        exact rd_exit ⟨.inl rfl,by simp (maxSteps:=999999) only [E0,seval,-Int.reduceNatCast',hd,hf,h0,h1]⟩
      have e0 : a[j]? = some a[j]:=List.getElem?_eq_getElem hp
      have e1:=ints_get e0
      generalize a[j] = x at *
      by_cases hq : (b.length : Int) ≤ j
      · simp (maxSteps:=999999) only [E0,seval,-Int.reduceNatCast',NUM,h11,h10,h9,h0,h1,hd,hf,e1,hq,List.length_map,Int.toNat_natCast,(show (j : Int) < a.length by omega),(show (0 : Int) ≤ j by omega)] at hW
        subst hW
        exact rd_ret ⟨.inr ⟨rfl,1,by simp (maxSteps:=999999) only [E0,seval,-Int.reduceNatCast']⟩,by simp (maxSteps:=999999) only [E0,seval,-Int.reduceNatCast',hd,hf,h0,h1]⟩
      have f0 : b[j]? = some (b[j]'(by omega)):=List.getElem?_eq_getElem _
      have f1:=ints_get f0
      generalize b[j]'(by omega) = y at *
      by_cases hc : CMP x y = 0
      · simp (maxSteps:=999999) only [E0,seval,-Int.reduceNatCast',NUM,c_compare,h11,h10,h9,h0,h1,hd,hf,e1,f1,hq,hc,List.length_map,Int.toNat_natCast,(show (j : Int) < a.length by omega),(show (j : Int) < b.length by omega),(show (0 : Int) ≤ j by omega),(i64_in (x:=(j : Int) + 1) (by unfold I64; omega))] at hW
        subst hW
        refine rd_next (j + 1) ?_ (show a.length - (j + 1) < a.length - j by omega)
        simp (maxSteps:=999999) only [E0,seval,-Int.reduceNatCast',h10,h9,h0,h1,hd]
        exact ⟨by omega,by simp⟩
      · simp (maxSteps:=999999) only [E0,seval,-Int.reduceNatCast',NUM,c_compare,h11,h10,h9,h0,h1,hd,hf,e1,f1,hq,hc,List.length_map,Int.toNat_natCast,(show (j : Int) < a.length by omega),(show (j : Int) < b.length by omega),(show (0 : Int) ≤ j by omega)] at hW
        subst hW
        exact rd_ret ⟨.inr ⟨rfl,CMP x y,by simp (maxSteps:=999999) only [E0,seval,-Int.reduceNatCast']⟩,by simp (maxSteps:=999999) only [E0,seval,-Int.reduceNatCast',hd,hf,h0,h1]⟩)
  rcases hex with rfl | ⟨rfl,c,h4⟩
  · by_cases hl : (a.length : Int) < b.length
    · simp (maxSteps:=999999) only [E0,seval,-Int.reduceNatCast',hd,hf,h0,h1,hl,List.length_map]
      exact ⟨_,rfl⟩
    · simp (maxSteps:=999999) only [E0,seval,-Int.reduceNatCast',hd,hf,h0,h1,hl,List.length_map]
      exact ⟨_,rfl⟩
  · simp (maxSteps:=999999) only [E0,seval,-Int.reduceNatCast',hd,hf,h4]
    exact ⟨c,rfl⟩
abbrev QG (n : Nat) : PV:=.gsl 1 1 n 0 n
abbrev RW (L : List (List Int)) : Row:=.gro 1 (L.map elt) 0
abbrev CF : PV:=.fn 25 []
def LB (L : List (List Int)) : Prop:=∀ l ∈ L,l.length ≤ 1000
theorem LB.perm {L L' : List (List Int)} (h : LB L) (p : L'.Perm L) : LB L':=fun l hl => h l (p.mem_iff.1 hl)
theorem LB.cmp {L : List (List Int)} (h : LB L) {i j : Nat} {x y : List Int} (hi : L[i]? = some x) (hj : L[j]? = some y) : ∃ c,ap Tryz.prog pol 25 [elt x,elt y] = some (.ret (I c)):=
  c_cps x y (h x (List.mem_of_getElem? hi)) (h y (List.mem_of_getElem? hj))
theorem swap_perm {L : List (List Int)} {i j : Nat} {x y : List Int} (hi : L[i]? = some x) (hj : L[j]? = some y) : ((L.set i y).set j x).Perm L:=by
  obtain ⟨h1,rfl⟩:=List.getElem?_eq_some_iff.1 hi
  obtain ⟨h2,rfl⟩:=List.getElem?_eq_some_iff.1 hj
  exact List.set_set_perm h1 h2
theorem mset {L : List (List Int)} (i j : Nat) (x y : List Int) : ((L.map elt).set i (elt y)).set j (elt x) = ((L.set i y).set j x).map elt:=by simp only [List.map_set]
theorem mget2 {L : List (List Int)} {i j : Nat} {x y : List Int} (hi : L[i]? = some x) (hj : L[j]? = some y) : ((L.map elt).set i (elt y))[j]? = some (elt y):=by
  rw [← List.map_set,List.getElem?_map,List.getElem?_set]
  have:=(List.getElem?_eq_some_iff.1 hi).1
  split
  · simp [this]
  · simp [hj]
structure QS (H : Heap) (s : Heap) : Prop where
  fr : ∀ i < H.next,i ≠ 1 → s.rows i = H.rows i
  nx : H.next ≤ s.next
theorem QS.rfl' (H : Heap) : QS H H:=⟨fun _ _ _ => rfl,Nat.le_refl _⟩
theorem QS.trans {A B C : Heap} (h : QS A B) (g : QS B C) : QS A C:=⟨fun i hi h1 => (g.fr i (Nat.lt_of_lt_of_le hi h.nx) h1).trans (h.fr i hi h1),Nat.le_trans h.nx g.nx⟩
theorem QS.set {H s : Heap} (h : QS H s) (r : Row) : QS H (s.set 1 r):=⟨fun i hi h1 => by show upd s.rows 1 _ i = _; rw [upd_apply,if_neg h1]; exact h.fr i hi h1,h.nx⟩
theorem QS.mk' {H : Heap} {r : Nat → Option Row} {n : Nat} (h : QS H ⟨r,n⟩) : (∀ i < H.next,i ≠ 1 → r i = H.rows i) ∧ H.next ≤ n:=⟨h.fr,h.nx⟩
set_option maxHeartbeats 4000000 in
theorem q_insertion (L : List (List Int)) (hB : LB L) (n a b : Nat) (hn : n = L.length) (hl : n ≤ 100000) (hb : b ≤ n) (ha : a ≤ n) (H : Heap) (hr : H.rows 1 = some (RW L)) (h1 : 1 < H.next) :
    ∃ H' L',callF G Tryz.prog pol 64 [QG n,I a,I b,CF] H = some (.ret (.tup []),H') ∧ L'.Perm L ∧ H'.rows 1 = some (RW L') ∧ QS H H':=by
  rw [callF_eq _ _ Tryz.func64 rfl Tryz.ntmps64 Tryz.results64 (by kernel_rfl) rfl (by exact Nat.le_of_ble_eq_true rfl)]
  simp (maxSteps:=999999) only [E0,seval,-Int.reduceNatCast',NUM,i64_in (x:=(a : Int) + 1) (by unfold I64; omega)]
  generalize hL : W _ (.loop _) _ = L0
  obtain ⟨ex,s,rfl,rfl,L',hp,hrow,hQ,hd,hf⟩:=loop_at hL (α:=Nat) (fun i => b - i)
    (fun s0 i s => a + 1 ≤ i ∧ (∃ L',L'.Perm L ∧ s.H.rows 1 = some (RW L') ∧ QS H s.H) ∧ s.tmps 8 = I i ∧ s.tmps 0 = QG n ∧ s.tmps 1 = I a ∧ s.tmps 2 = I b ∧ s.tmps 3 = CF ∧ s.defers = [] ∧ s.fid = H.next)
    (fun s0 ex s => ex = .exit 0 ∧ ∃ L',L'.Perm L ∧ s.H.rows 1 = some (RW L') ∧ QS H s.H ∧ s.defers = [] ∧ s.fid = H.next) (a + 1)
    (by simp (maxSteps:=999999) only [E0,seval,-Int.reduceNatCast']
        exact ⟨Nat.le_refl _,⟨L,.refl _,hr,⟨fun _ _ _ => rfl,by simp⟩⟩,by simp⟩) (by
      rintro i s r hW ⟨hi,⟨L',hp,hrow,hQ⟩,h8,h0,h1',h2,h3,hd,hf⟩
      by_cases hlt : i < b
      rotate_left
      · simp (maxSteps:=999999) only [E0,seval,-Int.reduceNatCast',h8,h2,hd,hf,(show ¬ (i : Int) < b by omega)] at hW
        subst hW
        refine rd_exit ⟨rfl,L',hp,?_,hQ,?_,?_⟩ <;> simp (maxSteps:=999999) only [E0,seval,-Int.reduceNatCast',hrow,hd,hf]
      simp (maxSteps:=999999) only [E0,seval,-Int.reduceNatCast',h8,h2,hd,hf,(show (i : Int) < b by omega)] at hW
      generalize hL2 : W _ (.loop _) _ = L2 at hW
      obtain ⟨ex,s2,rfl,rfl,L2',hp2,hrow2,hQ2,z8,z0,z1,z2,z3,zd,zf⟩:=loop_at hL2 (α:=Nat) (fun j => j)
        (fun s0 j s => j ≤ i ∧ (∃ L',L'.Perm L ∧ s.H.rows 1 = some (RW L') ∧ QS H s.H) ∧ s.tmps 9 = I j ∧ s.tmps 8 = I i ∧ s.tmps 0 = QG n ∧ s.tmps 1 = I a ∧ s.tmps 2 = I b ∧ s.tmps 3 = CF ∧ s.defers = [] ∧ s.fid = H.next)
        (fun s0 ex s => ex = .exit 2 ∧ ∃ L',L'.Perm L ∧ s.H.rows 1 = some (RW L') ∧ QS H s.H ∧ s.tmps 8 = I i ∧ s.tmps 0 = QG n ∧ s.tmps 1 = I a ∧ s.tmps 2 = I b ∧ s.tmps 3 = CF ∧ s.defers = [] ∧ s.fid = H.next) i
        (by simp (maxSteps:=999999) only [E0,seval,-Int.reduceNatCast',h8,h0,h1',h2,h3]
            exact ⟨Nat.le_refl _,⟨L',hp,hrow,hQ⟩⟩) (by
          rintro j s r hW ⟨hj,⟨L',hp,hrow,hQ⟩,h9,h8,h0,h1',h2,h3,hd,hf⟩
          have ll:=hp.length_eq
          by_cases hja : a < j
          rotate_left
          · simp (maxSteps:=999999) only [E0,seval,-Int.reduceNatCast',h9,h8,h0,h1',h2,h3,hd,hf,(show ¬ (a : Int) < j by omega)] at hW
            subst hW
            refine rd_exit ⟨rfl,L',hp,?_⟩
            simp (maxSteps:=999999) only [E0,seval,-Int.reduceNatCast',hrow,h8,h0,h1',h2,h3]
            exact hQ
          obtain ⟨k,rfl⟩ : ∃ k,j = k + 1:=⟨j - 1,by omega⟩
          have e0 : L'[k]? = some (L'[k]'(by omega)):=List.getElem?_eq_getElem _
          have f0 : L'[k + 1]? = some (L'[k + 1]'(by omega)):=List.getElem?_eq_getElem _
          generalize L'[k]'(by omega) = x at *
          generalize L'[k + 1]'(by omega) = y at *
          have e1:=map_get (f:=elt) e0
          have f1:=map_get (f:=elt) f0
          obtain ⟨c,hc⟩:=(hB.perm hp).cmp f0 e0
          have h9' : s.tmps 9 = I ((k : Int) + 1):=by rw [h9]; congr 1
          by_cases hc0 : c < 0
          rotate_left
          · simp (maxSteps:=999999) only [E0,seval,-Int.reduceNatCast',NUM,SELT,INTS,h9',h8,h0,h1',h2,h3,hd,hf,hrow,e1,f1,hc,hc0,ll,hn,Nat.zero_add,Nat.zero_le,List.length_map,Int.toNat_natCast,Int.add_sub_cancel,(show ((k : Int) + 1).toNat = k + 1 by omega),(show (a : Int) < (k : Int) + 1 by omega),(show (0 : Int) ≤ k by omega),(show (0 : Int) ≤ (k : Int) + 1 by omega),(show (k : Int) < L.length by omega),(show (k : Int) + 1 < L.length by omega),(i64_in (x:=(k : Int)) (by unfold I64; omega))] at hW
            subst hW
            refine rd_exit ⟨rfl,L',hp,?_⟩
            simp (maxSteps:=999999) only [E0,seval,-Int.reduceNatCast',hrow,h8,h0,h1',h2,h3]
            exact hQ
          · simp (maxSteps:=999999) only [E0,seval,-Int.reduceNatCast',NUM,SELT,INTS,h9',h8,h0,h1',h2,h3,hd,hf,hrow,e1,f1,mget2 f0 e0,mset,hc,hc0,ll,hn,Nat.zero_add,Nat.zero_le,List.length_map,List.length_set,Int.toNat_natCast,Int.add_sub_cancel,(show ((k : Int) + 1).toNat = k + 1 by omega),(show (a : Int) < (k : Int) + 1 by omega),(show (0 : Int) ≤ k by omega),(show (0 : Int) ≤ (k : Int) + 1 by omega),(show (k : Int) < L.length by omega),(show (k : Int) + 1 < L.length by omega),(i64_in (x:=(k : Int)) (by unfold I64; omega))] at hW
            rw [if_pos (by kernel_rfl)] at hW
            subst hW
            refine rd_next k ?_ (by omega)
            simp (maxSteps:=999999) only [E0,seval,-Int.reduceNatCast',h8,h0,h1',h2,h3,hd]
            exact ⟨by omega,⟨_,(swap_perm f0 e0).trans hp,rfl,(hQ.set _).set _⟩⟩)
      simp (maxSteps:=999999) only [E0,seval,-Int.reduceNatCast',z8,z0,z1,z2,z3,zd,zf,(i64_in (x:=(i : Int) + 1) (by unfold I64; omega))] at hW
      subst hW
      refine rd_next (i + 1) ?_ (by omega)
      simp (maxSteps:=999999) only [E0,seval,-Int.reduceNatCast',z0,z1,z2,z3,zd]
      exact ⟨by omega,⟨L2',hp2,hrow2,hQ2⟩,by simp⟩)
  simp (maxSteps:=999999) only [E0,seval,-Int.reduceNatCast',hd,hf]
  exact ⟨_,L',rfl,hp,hrow,hQ⟩
theorem get_nat {L : List (List Int)} {i : Nat} (h : i < L.length) : ∃ x,L[i]? = some x ∧ (L.map elt)[i]? = some (elt x):=⟨L[i],List.getElem?_eq_getElem h,map_get (f:=elt) (List.getElem?_eq_getElem h)⟩
set_option maxHeartbeats 4000000 in
theorem q_sift (L : List (List Int)) (hB : LB L) (n lo hi fi : Nat) (hn : n = L.length) (hl : n ≤ 100000) (hh : fi + hi ≤ n) (hlo : lo ≤ n) (H : Heap) (hr : H.rows 1 = some (RW L)) (h1 : 1 < H.next) :
    ∃ H' L',callF G Tryz.prog pol 93 [QG n,I lo,I hi,I fi,CF] H = some (.ret (.tup []),H') ∧ L'.Perm L ∧ H'.rows 1 = some (RW L') ∧ QS H H':=by
  rw [callF_eq _ _ Tryz.func93 rfl Tryz.ntmps93 Tryz.results93 (by kernel_rfl) rfl (by exact Nat.le_of_ble_eq_true rfl)]
  simp (maxSteps:=999999) only [E0,seval,-Int.reduceNatCast',NUM]
  generalize hL : W _ (.loop _) _ = L0
  obtain ⟨ex,s,rfl,hex,L',hp,hrow,hQ,hd,hf⟩:=loop_at hL (α:=Nat) (fun r => n - r)
    (fun s0 r s => r ≤ n ∧ (∃ L',L'.Perm L ∧ s.H.rows 1 = some (RW L') ∧ QS H s.H) ∧ s.tmps 10 = I r ∧ s.tmps 0 = QG n ∧ s.tmps 2 = I hi ∧ s.tmps 3 = I fi ∧ s.tmps 4 = CF ∧ s.defers = [] ∧ s.fid = H.next)
    (fun s0 ex s => (ex = .exit 0 ∨ ex = .ret) ∧ ∃ L',L'.Perm L ∧ s.H.rows 1 = some (RW L') ∧ QS H s.H ∧ s.defers = [] ∧ s.fid = H.next) lo
    (by simp (maxSteps:=999999) only [E0,seval,-Int.reduceNatCast']
        exact ⟨hlo,⟨L,.refl _,hr,⟨fun _ _ _ => rfl,by simp⟩⟩⟩) (by
      rintro r s res hW ⟨hrn,⟨L',hp,hrow,hQ⟩,h10,h0,h2,h3,h4,hd,hf⟩
      have ll:=hp.length_eq
      by_cases hc : (hi : Int) ≤ 2 * (r : Int) + 1
      · simp (maxSteps:=999999) only [E0,seval,-Int.reduceNatCast',NUM,SELT,INTS,Nat.zero_add,Nat.zero_le,List.length_map,List.length_set,Int.toNat_natCast,Int.add_sub_cancel,h10,h0,h2,h3,h4,hd,hf,hc,(i64_in (x:=2 * (r : Int)) (by unfold I64; omega)),(i64_in (x:=2 * (r : Int) + 1) (by unfold I64; omega))] at hW
        subst hW
        refine rd_exit ⟨.inl rfl,L',hp,?_,hQ,?_,?_⟩ <;> simp (maxSteps:=999999) only [E0,seval,-Int.reduceNatCast',hrow,hd,hf]
      obtain ⟨c,hcc⟩ : ∃ c,2 * r + 1 = c:=⟨_,rfl⟩
      have hci : (2 * (r : Int) + 1) = (c : Int):=by omega
      obtain ⟨x,x0,x1⟩:=get_nat (L:=L') (i:=fi + r) (by omega)
      obtain ⟨y,y0,y1⟩:=get_nat (L:=L') (i:=fi + c) (by omega)
      rw [hci] at hc
      by_cases hc1 : (c : Int) + 1 < hi
      rotate_left
      · obtain ⟨e,he⟩:=(hB.perm hp).cmp x0 y0
        by_cases he0 : e < 0
        rotate_left
        · simp (maxSteps:=999999) only [E0,seval,-Int.reduceNatCast',NUM,SELT,INTS,Nat.zero_add,Nat.zero_le,List.length_map,List.length_set,Int.toNat_natCast,Int.add_sub_cancel,h10,h0,h2,h3,h4,hd,hf,hrow,hc,hci,hc1,x1,y1,he,he0,ll,hn,(i64_in (x:=2 * (r : Int)) (by unfold I64; omega)),(i64_in (x:=(c : Int)) (by unfold I64; omega)),(i64_in (x:=(c : Int) + 1) (by unfold I64; omega)),(i64_in (x:=(fi : Int) + r) (by unfold I64; omega)),(show (0 : Int) ≤ (fi : Int) + r by omega),(show ((fi : Int) + r : Int) < L.length by omega),(show Int.toNat ((fi : Int) + r) = fi + r by omega),(i64_in (x:=(fi : Int) + c) (by unfold I64; omega)),(show (0 : Int) ≤ (fi : Int) + c by omega),(show ((fi : Int) + c : Int) < L.length by omega),(show Int.toNat ((fi : Int) + c) = fi + c by omega)] at hW
          subst hW
          refine rd_ret ⟨.inr rfl,L',hp,?_,hQ,?_,?_⟩ <;> simp (maxSteps:=999999) only [E0,seval,-Int.reduceNatCast',hrow,hd,hf]
        · simp (maxSteps:=999999) only [E0,seval,-Int.reduceNatCast',NUM,SELT,INTS,Nat.zero_add,Nat.zero_le,List.length_map,List.length_set,Int.toNat_natCast,Int.add_sub_cancel,h10,h0,h2,h3,h4,hd,hf,hrow,hc,hci,hc1,x1,y1,he,he0,ll,hn,mget2 x0 y0,mset,(i64_in (x:=2 * (r : Int)) (by unfold I64; omega)),(i64_in (x:=(c : Int)) (by unfold I64; omega)),(i64_in (x:=(c : Int) + 1) (by unfold I64; omega)),(i64_in (x:=(fi : Int) + r) (by unfold I64; omega)),(show (0 : Int) ≤ (fi : Int) + r by omega),(show ((fi : Int) + r : Int) < L.length by omega),(show Int.toNat ((fi : Int) + r) = fi + r by omega),(i64_in (x:=(fi : Int) + c) (by unfold I64; omega)),(show (0 : Int) ≤ (fi : Int) + c by omega),(show ((fi : Int) + c : Int) < L.length by omega),(show Int.toNat ((fi : Int) + c) = fi + c by omega)] at hW
          rw [if_pos (by kernel_rfl)] at hW
          subst hW
          refine rd_next c ?_ (by omega)
          simp (maxSteps:=999999) only [E0,seval,-Int.reduceNatCast',h0,h2,h3,h4,hd]
          exact ⟨by omega,⟨_,(swap_perm x0 y0).trans hp,rfl,(hQ.set _).set _⟩⟩
      obtain ⟨z,z0,z1⟩:=get_nat (L:=L') (i:=fi + c + 1) (by omega)
      obtain ⟨e1,he1⟩:=(hB.perm hp).cmp y0 z0
      by_cases he10 : e1 < 0
      rotate_left
      · obtain ⟨e,he⟩:=(hB.perm hp).cmp x0 y0
        by_cases he0 : e < 0
        rotate_left
        · simp (maxSteps:=999999) only [E0,seval,-Int.reduceNatCast',NUM,SELT,INTS,Nat.zero_add,Nat.zero_le,List.length_map,List.length_set,Int.toNat_natCast,Int.add_sub_cancel,h10,h0,h2,h3,h4,hd,hf,hrow,hc,hci,hc1,x1,y1,z1,he,he0,he1,he10,ll,hn,(i64_in (x:=2 * (r : Int)) (by unfold I64; omega)),(i64_in (x:=(c : Int)) (by unfold I64; omega)),(i64_in (x:=(c : Int) + 1) (by unfold I64; omega)),(i64_in (x:=(fi : Int) + r) (by unfold I64; omega)),(show (0 : Int) ≤ (fi : Int) + r by omega),(show ((fi : Int) + r : Int) < L.length by omega),(show Int.toNat ((fi : Int) + r) = fi + r by omega),(i64_in (x:=(fi : Int) + c) (by unfold I64; omega)),(show (0 : Int) ≤ (fi : Int) + c by omega),(show ((fi : Int) + c : Int) < L.length by omega),(show Int.toNat ((fi : Int) + c) = fi + c by omega),(i64_in (x:=(fi : Int) + c + 1) (by unfold I64; omega)),(show (0 : Int) ≤ (fi : Int) + c + 1 by omega),(show ((fi : Int) + c + 1 : Int) < L.length by omega),(show Int.toNat ((fi : Int) + c + 1) = fi + c + 1 by omega)] at hW
          subst hW
          refine rd_ret ⟨.inr rfl,L',hp,?_,hQ,?_,?_⟩ <;> simp (maxSteps:=999999) only [E0,seval,-Int.reduceNatCast',hrow,hd,hf]
        · simp (maxSteps:=999999) only [E0,seval,-Int.reduceNatCast',NUM,SELT,INTS,Nat.zero_add,Nat.zero_le,List.length_map,List.length_set,Int.toNat_natCast,Int.add_sub_cancel,h10,h0,h2,h3,h4,hd,hf,hrow,hc,hci,hc1,x1,y1,z1,he,he0,he1,he10,ll,hn,mget2 x0 y0,mset,(i64_in (x:=2 * (r : Int)) (by unfold I64; omega)),(i64_in (x:=(c : Int)) (by unfold I64; omega)),(i64_in (x:=(c : Int) + 1) (by unfold I64; omega)),(i64_in (x:=(fi : Int) + r) (by unfold I64; omega)),(show (0 : Int) ≤ (fi : Int) + r by omega),(show ((fi : Int) + r : Int) < L.length by omega),(show Int.toNat ((fi : Int) + r) = fi + r by omega),(i64_in (x:=(fi : Int) + c) (by unfold I64; omega)),(show (0 : Int) ≤ (fi : Int) + c by omega),(show ((fi : Int) + c : Int) < L.length by omega),(show Int.toNat ((fi : Int) + c) = fi + c by omega),(i64_in (x:=(fi : Int) + c + 1) (by unfold I64; omega)),(show (0 : Int) ≤ (fi : Int) + c + 1 by omega),(show ((fi : Int) + c + 1 : Int) < L.length by omega),(show Int.toNat ((fi : Int) + c + 1) = fi + c + 1 by omega)] at hW
          rw [if_pos (by kernel_rfl)] at hW
          subst hW
          refine rd_next c ?_ (by omega)
          simp (maxSteps:=999999) only [E0,seval,-Int.reduceNatCast',h0,h2,h3,h4,hd]
          exact ⟨by omega,⟨_,(swap_perm x0 y0).trans hp,rfl,(hQ.set _).set _⟩⟩
      · obtain ⟨c',hc'⟩ : ∃ c',c + 1 = c':=⟨_,rfl⟩
        have hci' : ((c : Int) + 1) = (c' : Int):=by omega
        have z0' : L'[fi + c']? = some z:=by rw [← hc']; exact z0
        have z1' : (L'.map elt)[fi + c']? = some (elt z):=by rw [← hc']; exact z1
        have hc1':=hc1
        rw [hci'] at hc1'
        obtain ⟨e,he⟩:=(hB.perm hp).cmp x0 z0
        by_cases he0 : e < 0
        rotate_left
        · simp (maxSteps:=999999) only [E0,seval,-Int.reduceNatCast',NUM,SELT,INTS,Nat.zero_add,Nat.zero_le,List.length_map,List.length_set,Int.toNat_natCast,Int.add_sub_cancel,h10,h0,h2,h3,h4,hd,hf,hrow,hc,hci,hci',hc1',x1,y1,z1,z1',he,he0,he1,he10,ll,hn,(i64_in (x:=2 * (r : Int)) (by unfold I64; omega)),(i64_in (x:=(c : Int)) (by unfold I64; omega)),(i64_in (x:=(c' : Int)) (by unfold I64; omega)),(i64_in (x:=(fi : Int) + r) (by unfold I64; omega)),(show (0 : Int) ≤ (fi : Int) + r by omega),(show ((fi : Int) + r : Int) < L.length by omega),(show Int.toNat ((fi : Int) + r) = fi + r by omega),(i64_in (x:=(fi : Int) + c) (by unfold I64; omega)),(show (0 : Int) ≤ (fi : Int) + c by omega),(show ((fi : Int) + c : Int) < L.length by omega),(show Int.toNat ((fi : Int) + c) = fi + c by omega),(i64_in (x:=(fi : Int) + c') (by unfold I64; omega)),(show (0 : Int) ≤ (fi : Int) + c' by omega),(show ((fi : Int) + c' : Int) < L.length by omega),(show Int.toNat ((fi : Int) + c') = fi + c' by omega),(i64_in (x:=(fi : Int) + c + 1) (by unfold I64; omega)),(show (0 : Int) ≤ (fi : Int) + c + 1 by omega),(show ((fi : Int) + c + 1 : Int) < L.length by omega),(show Int.toNat ((fi : Int) + c + 1) = fi + c + 1 by omega)] at hW
          subst hW
          refine rd_ret ⟨.inr rfl,L',hp,?_,hQ,?_,?_⟩ <;> simp (maxSteps:=999999) only [E0,seval,-Int.reduceNatCast',hrow,hd,hf]
        · simp (maxSteps:=999999) only [E0,seval,-Int.reduceNatCast',NUM,SELT,INTS,Nat.zero_add,Nat.zero_le,List.length_map,List.length_set,Int.toNat_natCast,Int.add_sub_cancel,h10,h0,h2,h3,h4,hd,hf,hrow,hc,hci,hci',hc1',x1,y1,z1,z1',he,he0,he1,he10,ll,hn,mget2 x0 z0',mset,(i64_in (x:=2 * (r : Int)) (by unfold I64; omega)),(i64_in (x:=(c : Int)) (by unfold I64; omega)),(i64_in (x:=(c' : Int)) (by unfold I64; omega)),(i64_in (x:=(fi : Int) + r) (by unfold I64; omega)),(show (0 : Int) ≤ (fi : Int) + r by omega),(show ((fi : Int) + r : Int) < L.length by omega),(show Int.toNat ((fi : Int) + r) = fi + r by omega),(i64_in (x:=(fi : Int) + c) (by unfold I64; omega)),(show (0 : Int) ≤ (fi : Int) + c by omega),(show ((fi : Int) + c : Int) < L.length by omega),(show Int.toNat ((fi : Int) + c) = fi + c by omega),(i64_in (x:=(fi : Int) + c') (by unfold I64; omega)),(show (0 : Int) ≤ (fi : Int) + c' by omega),(show ((fi : Int) + c' : Int) < L.length by omega),(show Int.toNat ((fi : Int) + c') = fi + c' by omega),(i64_in (x:=(fi : Int) + c + 1) (by unfold I64; omega)),(show (0 : Int) ≤ (fi : Int) + c + 1 by omega),(show ((fi : Int) + c + 1 : Int) < L.length by omega),(show Int.toNat ((fi : Int) + c + 1) = fi + c + 1 by omega)] at hW
          rw [if_pos (by kernel_rfl)] at hW
          subst hW
          refine rd_next c' ?_ (by omega)
          simp (maxSteps:=999999) only [E0,seval,-Int.reduceNatCast',h0,h2,h3,h4,hd]
          exact ⟨by omega,⟨_,(swap_perm x0 z0').trans hp,rfl,(hQ.set _).set _⟩⟩)
  rcases hex with rfl | rfl
  · simp (maxSteps:=999999) only [E0,seval,-Int.reduceNatCast',hd,hf]
    exact ⟨_,L',rfl,hp,hrow,hQ⟩
  · simp (maxSteps:=999999) only [E0,seval,-Int.reduceNatCast',hd,hf]
    exact ⟨_,L',rfl,hp,hrow,hQ⟩
set_option maxHeartbeats 4000000 in
theorem q_heap (L : List (List Int)) (hB : LB L) (n a b : Nat) (hn : n = L.length) (hl : n ≤ 100000) (hb : b ≤ n) (hab : a < b) (H : Heap) (hr : H.rows 1 = some (RW L)) (h1 : 1 < H.next) :
    ∃ H' L',callF G Tryz.prog pol 65 [QG n,I a,I b,CF] H = some (.ret (.tup []),H') ∧ L'.Perm L ∧ H'.rows 1 = some (RW L') ∧ QS H H':=by
  subst hn
  rw [callF_eq _ _ Tryz.func65 rfl Tryz.ntmps65 Tryz.results65 (by kernel_rfl) rfl (by exact Nat.le_of_ble_eq_true rfl)]
  obtain ⟨m,hm⟩ : ∃ m,b - a = m:=⟨_,rfl⟩
  have hmi : (b : Int) - a = (m : Int):=by omega
  have hq : ((m : Int) - 1).tdiv 2 = (((m - 1) / 2 : Nat) : Int):=by
    rw [Int.tdiv_eq_ediv_of_nonneg (by omega)]
    omega
  obtain ⟨t,ht⟩ : ∃ t,(m - 1) / 2 = t:=⟨_,rfl⟩
  rw [ht] at hq
  have htm : t ≤ m:=by omega
  simp (maxSteps:=999999) only [E0,seval,-Int.reduceNatCast',NUM,hmi,hq,(show ¬ (2 : Int) = 0 by decide),(show ¬ (2 : Int) = -1 by decide),(i64_in (x:=(m : Int)) (by unfold I64; omega)),(i64_in (x:=(m : Int) - 1) (by unfold I64; omega)),(i64_in (x:=(t : Int)) (by unfold I64; omega))]
  generalize hL : W _ (.loop _) _ = L0
  obtain ⟨ex,s,rfl,rfl,L1,hp,hrow,hQ,h10,h8,h9,h0,h3,hd,hf⟩:=loop_at hL (α:=Nat) (fun k => k)
    (fun s0 k s => k ≤ t + 1 ∧ (∃ L',L'.Perm L ∧ s.H.rows 1 = some (RW L') ∧ QS H s.H) ∧ s.tmps 11 = I ((k : Int) - 1) ∧ s.tmps 10 = I m ∧ s.tmps 8 = I a ∧ s.tmps 9 = I 0 ∧ s.tmps 0 = QG L.length ∧ s.tmps 3 = CF ∧ s.defers = [] ∧ s.fid = H.next)
    (fun s0 ex s => ex = .exit 0 ∧ ∃ L',L'.Perm L ∧ s.H.rows 1 = some (RW L') ∧ QS H s.H ∧ s.tmps 10 = I m ∧ s.tmps 8 = I a ∧ s.tmps 9 = I 0 ∧ s.tmps 0 = QG L.length ∧ s.tmps 3 = CF ∧ s.defers = [] ∧ s.fid = H.next) (t + 1)
    (by simp (maxSteps:=999999) only [E0,seval,-Int.reduceNatCast']
        exact ⟨Nat.le_refl _,⟨L,.refl _,hr,⟨fun _ _ _ => rfl,by simp⟩⟩,by simp⟩) (by
      rintro k s res hW ⟨hk,⟨L',hp,hrow,hQ⟩,h11,h10,h8,h9,h0,h3,hd,hf⟩
      have ll:=hp.length_eq
      cases k with
      | zero =>
        simp (maxSteps:=999999) only [E0,seval,-Int.reduceNatCast',NUM,SELT,INTS,Nat.zero_add,Nat.zero_le,List.length_map,List.length_set,Int.toNat_natCast,Int.add_sub_cancel,h11,h10,h8,h9,h0,h3,hd,hf] at hW
        subst hW
        refine rd_exit ⟨rfl,L',hp,?_⟩
        simp (maxSteps:=999999) only [E0,seval,-Int.reduceNatCast',hrow,h10,h8,h9,h0,h3,hd,hf]
        exact hQ
      | succ k =>
        have h11' : s.tmps 11 = I (k : Int):=by rw [h11]; congr 1; omega
        obtain ⟨H2,L2,e2,p2,r2,Q2⟩:=q_sift L' (hB.perm hp) L.length k m a (by omega) hl (by omega) (by omega) s.H hrow (by have:=hQ.nx; omega)
        simp (maxSteps:=999999) only [E0,seval,-Int.reduceNatCast',NUM,SELT,INTS,Nat.zero_add,Nat.zero_le,List.length_map,List.length_set,Int.toNat_natCast,Int.add_sub_cancel,h11',h10,h8,h9,h0,h3,hd,hf,e2,(show (0 : Int) ≤ k by omega),(i64_in (x:=(k : Int) - 1) (by unfold I64; omega))] at hW
        subst hW
        refine rd_next k ?_ (by omega)
        simp (maxSteps:=999999) only [E0,seval,-Int.reduceNatCast',h10,h8,h9,h0,h3,hd]
        exact ⟨by omega,⟨L2,p2.trans hp,r2,hQ.trans Q2⟩⟩)
  simp (maxSteps:=999999) only [E0,seval,-Int.reduceNatCast',NUM,h10,h8,h9,h0,h3,hd,hf,(i64_in (x:=(m : Int) - 1) (by unfold I64; omega))]
  generalize hL : W _ (.loop _) _ = L0
  obtain ⟨ex,s,rfl,rfl,L2,hp,hrow,hQ,hd,hf⟩:=loop_at hL (α:=Nat) (fun k => k)
    (fun s0 k s => k ≤ m ∧ (∃ L',L'.Perm L ∧ s.H.rows 1 = some (RW L') ∧ QS H s.H) ∧ s.tmps 12 = I ((k : Int) - 1) ∧ s.tmps 8 = I a ∧ s.tmps 9 = I 0 ∧ s.tmps 0 = QG L.length ∧ s.tmps 3 = CF ∧ s.defers = [] ∧ s.fid = H.next)
    (fun s0 ex s => ex = .exit 2 ∧ ∃ L',L'.Perm L ∧ s.H.rows 1 = some (RW L') ∧ QS H s.H ∧ s.defers = [] ∧ s.fid = H.next) m
    (by simp (maxSteps:=999999) only [E0,seval,-Int.reduceNatCast',h8,h9,h0,h3]
        exact ⟨Nat.le_refl _,⟨L1,hp,hrow,hQ⟩⟩) (by
      rintro k s res hW ⟨hk,⟨L',hp,hrow,hQ⟩,h12,h8,h9,h0,h3,hd,hf⟩
      have ll:=hp.length_eq
      cases k with
      | zero =>
        simp (maxSteps:=999999) only [E0,seval,-Int.reduceNatCast',NUM,SELT,INTS,Nat.zero_add,Nat.zero_le,List.length_map,List.length_set,Int.toNat_natCast,Int.add_sub_cancel,h12,h8,h9,h0,h3,hd,hf] at hW
        subst hW
        refine rd_exit ⟨rfl,L',hp,?_⟩
        simp (maxSteps:=999999) only [E0,seval,-Int.reduceNatCast',hrow,hd,hf]
        exact hQ
      | succ k =>
        have h12' : s.tmps 12 = I (k : Int):=by rw [h12]; congr 1; omega
        obtain ⟨x,x0,x1⟩:=get_nat (L:=L') (i:=a) (by omega)
        obtain ⟨y,y0,y1⟩:=get_nat (L:=L') (i:=a + k) (by omega)
        have sp:=(swap_perm x0 y0).trans hp
        obtain ⟨H2,L2,e2,p2,r2,Q2⟩:=q_sift _ (hB.perm sp) L.length 0 k a sp.length_eq.symm hl (by omega) (by omega) ((s.H.set 1 (.gro 1 ((L'.map elt).set a (elt y)) 0)).set 1 (RW ((L'.set a y).set (a + k) x))) (by simp (maxSteps:=999999) only [E0,seval,-Int.reduceNatCast']) (by have:=hQ.nx; show 1 < s.H.next; omega)
        simp (maxSteps:=999999) only [E0,seval,-Int.reduceNatCast',NUM] at e2
        simp (maxSteps:=999999) only [E0,seval,-Int.reduceNatCast',NUM,SELT,INTS,Nat.zero_add,Nat.zero_le,List.length_map,List.length_set,Int.toNat_natCast,Int.add_sub_cancel,h12',h8,h9,h0,h3,hd,hf,hrow,x1,y1,mget2 x0 y0,mset,ll,e2,(show (0 : Int) ≤ k by omega),(show (0 : Int) ≤ a by omega),(show (a : Int) < L.length by omega),(i64_in (x:=(k : Int) - 1) (by unfold I64; omega)),(i64_in (x:=(a : Int) + k) (by unfold I64; omega)),(show (0 : Int) ≤ (a : Int) + k by omega),(show ((a : Int) + k : Int) < L.length by omega),(show Int.toNat ((a : Int) + k) = a + k by omega)] at hW
        rw [if_pos (by kernel_rfl)] at hW
        subst hW
        refine rd_next k ?_ (by omega)
        simp (maxSteps:=999999) only [E0,seval,-Int.reduceNatCast',h8,h9,h0,h3,hd]
        exact ⟨by omega,⟨L2,p2.trans sp,r2,((hQ.set _).set _).trans Q2⟩⟩)
  simp (maxSteps:=999999) only [E0,seval,-Int.reduceNatCast',hd,hf]
  exact ⟨_,L2,rfl,hp,hrow,hQ⟩
set_option maxHeartbeats 4000000 in
theorem q_reverse (L : List (List Int)) (n a b : Nat) (hn : n = L.length) (hl : n ≤ 100000) (hb : b ≤ n) (hab : a < b) (H : Heap) (hr : H.rows 1 = some (RW L)) (h1 : 1 < H.next) :
    ∃ H' L',callF G Tryz.prog pol 68 [QG n,I a,I b,CF] H = some (.ret (.tup []),H') ∧ L'.Perm L ∧ H'.rows 1 = some (RW L') ∧ QS H H':=by
  subst hn
  rw [callF_eq _ _ Tryz.func68 rfl Tryz.ntmps68 Tryz.results68 (by kernel_rfl) rfl (by exact Nat.le_of_ble_eq_true rfl)]
  simp (maxSteps:=999999) only [E0,seval,-Int.reduceNatCast',NUM,(i64_in (x:=(b : Int) - 1) (by unfold I64; omega))]
  generalize hL : W _ (.loop _) _ = L0
  obtain ⟨ex,s,rfl,rfl,L1,hp,hrow,hQ,hd,hf⟩:=loop_at hL (α:=Nat × Nat) (fun k => k.2 - k.1)
    (fun s0 k s => (k.1 ≤ L.length ∧ k.2 < L.length) ∧ (∃ L',L'.Perm L ∧ s.H.rows 1 = some (RW L') ∧ QS H s.H) ∧ s.tmps 8 = I k.1 ∧ s.tmps 9 = I k.2 ∧ s.tmps 0 = QG L.length ∧ s.defers = [] ∧ s.fid = H.next)
    (fun s0 ex s => ex = .exit 0 ∧ ∃ L',L'.Perm L ∧ s.H.rows 1 = some (RW L') ∧ QS H s.H ∧ s.defers = [] ∧ s.fid = H.next) (a,b - 1)
    (by simp (maxSteps:=999999) only [E0,seval,-Int.reduceNatCast']
        refine ⟨⟨by omega,by omega⟩,⟨L,.refl _,hr,⟨fun _ _ _ => rfl,by simp⟩⟩,?_⟩
        congr 1; omega) (by
      rintro ⟨i,j⟩ s res hW ⟨⟨hi,hj⟩,⟨L',hp,hrow,hQ⟩,h8,h9,h0,hd,hf⟩
      dsimp only at hi hj h8 h9
      have ll:=hp.length_eq
      by_cases hij : i < j
      rotate_left
      · simp (maxSteps:=999999) only [E0,seval,-Int.reduceNatCast',NUM,SELT,INTS,Nat.zero_add,Nat.zero_le,List.length_map,List.length_set,Int.toNat_natCast,Int.add_sub_cancel,h8,h9,h0,hd,hf,(show ¬ (i : Int) < j by omega)] at hW
        subst hW
        refine rd_exit ⟨rfl,L',hp,?_⟩
        simp (maxSteps:=999999) only [E0,seval,-Int.reduceNatCast',hrow,hd,hf]
        exact hQ
      obtain ⟨x,x0,x1⟩:=get_nat (L:=L') (i:=i) (by omega)
      obtain ⟨y,y0,y1⟩:=get_nat (L:=L') (i:=j) (by omega)
      simp (maxSteps:=999999) only [E0,seval,-Int.reduceNatCast',NUM,SELT,INTS,Nat.zero_add,Nat.zero_le,List.length_map,List.length_set,Int.toNat_natCast,Int.add_sub_cancel,h8,h9,h0,hd,hf,hrow,x1,y1,mget2 x0 y0,mset,ll,(show (i : Int) < j by omega),(show (0 : Int) ≤ i by omega),(show (0 : Int) ≤ j by omega),(show (i : Int) < L.length by omega),(show (j : Int) < L.length by omega),(i64_in (x:=(i : Int) + 1) (by unfold I64; omega)),(i64_in (x:=(j : Int) - 1) (by unfold I64; omega))] at hW
      rw [if_pos (by kernel_rfl)] at hW
      subst hW
      refine rd_next (i + 1,j - 1) ?_ (by simp only; omega)
      simp (maxSteps:=999999) only [E0,seval,-Int.reduceNatCast',h0,hd]
      refine ⟨⟨by omega,by omega⟩,⟨_,(swap_perm x0 y0).trans hp,rfl,(hQ.set _).set _⟩,?_⟩
      refine ⟨by simp,?_⟩
      congr 1; omega)
  simp (maxSteps:=999999) only [E0,seval,-Int.reduceNatCast',hd,hf]
  exact ⟨_,L1,rfl,hp,hrow,hQ⟩
set_option maxHeartbeats 4000000 in
theorem q_order2 (L : List (List Int)) (hB : LB L) (n a b u v : Nat) (hn : n = L.length) (hl : n ≤ 100000) (hv : v ≤ n) (ha : u ≤ a ∧ a < v) (hb : u ≤ b ∧ b < v) (g : Nat) (w : Int) (hw : 0 ≤ w ∧ w ≤ 1000000) (H : Heap) (hr : H.rows 1 = some (RW L)) (h1 : 1 < H.next) (hg : H.rows g = some (.gro 1 [I w] 0)) (hgl : g < H.next) :
    ∃ H',∃ c d : Nat,∃ w' : Int,callF G Tryz.prog pol 112 [QG n,I a,I b,.ptr g 1 0 0,CF] H = some (.ret (.tup [I c,I d]),H') ∧ (u ≤ c ∧ c < v) ∧ (u ≤ d ∧ d < v) ∧ H'.rows g = some (.gro 1 [I w'] 0) ∧ (w ≤ w' ∧ w' ≤ w + 1) ∧ (∀ i < H.next,i ≠ g → H'.rows i = H.rows i) ∧ H.next ≤ H'.next:=by
  subst hn
  obtain ⟨x,x0,x1⟩:=get_nat (L:=L) (i:=a) (by omega)
  obtain ⟨y,y0,y1⟩:=get_nat (L:=L) (i:=b) (by omega)
  obtain ⟨e,he⟩:=hB.cmp y0 x0
  rw [callF_eq _ _ Tryz.func112 rfl Tryz.ntmps112 Tryz.results112 (by kernel_rfl) rfl (by exact Nat.le_of_ble_eq_true rfl)]
  by_cases he0 : e < 0
  · simp (maxSteps:=999999) only [E0,seval,-Int.reduceNatCast',NUM,SELT,INTS,Nat.zero_add,Nat.zero_le,List.length_map,List.length_set,Int.toNat_natCast,Int.add_sub_cancel,hr,hg,x1,y1,he,he0,(show (0 : Int) ≤ a by omega),(show (0 : Int) ≤ b by omega),(show (a : Int) < L.length by omega),(show (b : Int) < L.length by omega),(i64_in (x:=w + 1) (by unfold I64; omega))]
    refine ⟨_,b,a,w + 1,rfl,hb,ha,by simp (maxSteps:=999999) only [E0,seval,-Int.reduceNatCast'],by omega,fun i hi hne => ?_,by simp (maxSteps:=999999) only [E0,seval,-Int.reduceNatCast']; omega⟩
    simp (maxSteps:=999999) only [E0,seval,-Int.reduceNatCast',hne]
  · simp (maxSteps:=999999) only [E0,seval,-Int.reduceNatCast',NUM,SELT,INTS,Nat.zero_add,Nat.zero_le,List.length_map,List.length_set,Int.toNat_natCast,Int.add_sub_cancel,hr,hg,x1,y1,he,he0,(show (0 : Int) ≤ a by omega),(show (0 : Int) ≤ b by omega),(show (a : Int) < L.length by omega),(show (b : Int) < L.length by omega)]
    exact ⟨_,a,b,w,rfl,ha,hb,hg,by omega,fun i hi hne => rfl,by simp only; omega⟩
set_option maxHeartbeats 4000000 in
theorem q_median (L : List (List Int)) (hB : LB L) (n a b c u v : Nat) (hn : n = L.length) (hl : n ≤ 100000) (hv : v ≤ n) (ha : u ≤ a ∧ a < v) (hb : u ≤ b ∧ b < v) (hc : u ≤ c ∧ c < v) (g : Nat) (H : Heap) (hr : H.rows 1 = some (RW L)) (h1 : 1 < H.next) (hg : H.rows g = some (.gro 1 [I 0] 0)) (hg1 : g ≠ 1) (hgl : g < H.next) :
    ∃ H',∃ d : Nat,∃ w' : Int,callF G Tryz.prog pol 97 [QG n,I a,I b,I c,.ptr g 1 0 0,CF] H = some (.ret (I d),H') ∧ (u ≤ d ∧ d < v) ∧ H'.rows g = some (.gro 1 [I w'] 0) ∧ (∀ i < H.next,i ≠ g → H'.rows i = H.rows i) ∧ H.next ≤ H'.next:=by
  rw [callF_eq _ _ Tryz.func97 rfl Tryz.ntmps97 Tryz.results97 (by kernel_rfl) rfl (by exact Nat.le_of_ble_eq_true rfl)]
  obtain ⟨H1,c1,d1,w1,e1,c1n,d1n,g1,b1,f1,n1⟩:=q_order2 L hB n a b u v hn hl hv ha hb g 0 (by omega) ⟨H.rows,H.next + 1⟩ hr (by simp only; omega) hg (by simp only; omega)
  simp only at f1 n1
  obtain ⟨H2,c2,d2,w2,e2,c2n,d2n,g2,b2,f2,n2⟩:=q_order2 L hB n d1 c u v hn hl hv d1n hc g w1 (by omega) H1 (by rw [f1 1 (by omega) (by omega)]; exact hr) (by omega) g1 (by omega)
  obtain ⟨H3,c3,d3,w3,e3,c3n,d3n,g3,b3,f3,n3⟩:=q_order2 L hB n c1 c2 u v hn hl hv c1n c2n g w2 (by omega) H2 (by rw [f2 1 (by omega) (by omega),f1 1 (by omega) (by omega)]; exact hr) (by omega) g2 (by omega)
  simp (maxSteps:=999999) only [E0,seval,-Int.reduceNatCast',NUM,e1,e2,e3]
  exact ⟨_,d3,w3,rfl,d3n,g3,fun i hi hne => by rw [f3 i (by omega) hne,f2 i (by omega) hne,f1 i (by omega) hne],by omega⟩
set_option maxHeartbeats 4000000 in
theorem q_choose (L : List (List Int)) (hB : LB L) (n a b : Nat) (hn : n = L.length) (hl : n ≤ 100000) (hb : b ≤ n) (hab : a + 8 ≤ b) (hab' : b < a + 50) (H : Heap) (hr : H.rows 1 = some (RW L)) (h1 : 1 < H.next) :
    ∃ H',∃ d : Nat,∃ h : Int,callF G Tryz.prog pol 67 [QG n,I a,I b,CF] H = some (.ret (.tup [I d,I h]),H') ∧ (a ≤ d ∧ d < b) ∧ (∀ i < H.next,H'.rows i = H.rows i) ∧ H.next ≤ H'.next:=by
  obtain ⟨m,hm⟩ : ∃ m,b - a = m:=⟨_,rfl⟩
  have hmi : (b : Int) - a = (m : Int):=by omega
  obtain ⟨t,ht⟩ : ∃ t,m / 4 = t:=⟨_,rfl⟩
  have hq : (m : Int).tdiv 4 = (t : Int):=by
    rw [Int.tdiv_eq_ediv_of_nonneg (by omega)]
    omega
  rw [callF_eq _ _ Tryz.func67 rfl Tryz.ntmps67 Tryz.results67 (by kernel_rfl) rfl (by exact Nat.le_of_ble_eq_true rfl)]
  simp (maxSteps:=999999) only [E0,seval,-Int.reduceNatCast',NUM,hmi,hq,(show ¬ (4 : Int) = 0 by decide),(show ¬ (4 : Int) = -1 by decide),(show (8 : Int) ≤ m by omega),(show ¬ (50 : Int) ≤ m by omega),(i64_in (x:=(m : Int)) (by unfold I64; omega)),(i64_in (x:=(t : Int)) (by unfold I64; omega)),(i64_in (x:=(t : Int) * 1) (by unfold I64; omega)),(i64_in (x:=(t : Int) * 2) (by unfold I64; omega)),(i64_in (x:=(t : Int) * 3) (by unfold I64; omega)),(i64_in (x:=(a : Int) + (t : Int) * 1) (by unfold I64; omega)),(i64_in (x:=(a : Int) + (t : Int) * 2) (by unfold I64; omega)),(i64_in (x:=(a : Int) + (t : Int) * 3) (by unfold I64; omega))]
  generalize hE : callF _ _ _ _ _ _ = E
  obtain ⟨H1,d,w',e1,hd,hg,hf,hnx⟩:=q_median L hB n (a + t * 1) (a + t * 2) (a + t * 3) a b hn hl hb (by omega) (by omega) (by omega) (H.next + 1) (Heap.add ⟨H.rows,H.next + 1⟩ (.gro 1 [I 0] 0)) (by simp (maxSteps:=999999) only [E0,seval,-Int.reduceNatCast',(show ¬ (1 : Nat) = H.next + 1 by omega),hr]) (by simp (maxSteps:=999999) only [E0,seval,-Int.reduceNatCast']; omega) (by simp (maxSteps:=999999) only [E0,seval,-Int.reduceNatCast']) (by omega) (by simp (maxSteps:=999999) only [E0,seval,-Int.reduceNatCast']; omega)
  have c1 : ((a + t * 1 : Nat) : Int) = (a : Int) + (t : Int) * 1:=by omega
  have c2 : ((a + t * 2 : Nat) : Int) = (a : Int) + (t : Int) * 2:=by omega
  have c3 : ((a + t * 3 : Nat) : Int) = (a : Int) + (t : Int) * 3:=by omega
  rw [c1,c2,c3] at e1
  have hE':=e1.symm.trans hE
  subst hE'
  simp (maxSteps:=999999) only [E0,seval,-Int.reduceNatCast'] at hnx
  have hf' : ∀ i < H.next,H1.rows i = H.rows i:=fun i hi => by
    rw [hf i (by simp (maxSteps:=999999) only [E0,seval,-Int.reduceNatCast']; omega) (by omega)]
    simp (maxSteps:=999999) only [E0,seval,-Int.reduceNatCast',(show ¬ i = H.next + 1 by omega)]
  by_cases hw0 : w' = 0
  · simp (maxSteps:=999999) only [E0,seval,-Int.reduceNatCast',NUM,hg,hw0]
    exact ⟨_,d,1,rfl,hd,hf',by omega⟩
  by_cases hw1 : w' = 12
  · simp (maxSteps:=999999) only [E0,seval,-Int.reduceNatCast',NUM,hg,hw0,hw1]
    exact ⟨_,d,2,rfl,hd,hf',by omega⟩
  · simp (maxSteps:=999999) only [E0,seval,-Int.reduceNatCast',NUM,hg,hw0,hw1]
    exact ⟨_,d,0,rfl,hd,hf',by omega⟩
set_option maxHeartbeats 4000000 in
theorem q_partial (L : List (List Int)) (hB : LB L) (n a b : Nat) (hn : n = L.length) (hl : n ≤ 100000) (hb : b ≤ n) (hab : a < b) (hab' : b < a + 50) (H : Heap) (hr : H.rows 1 = some (RW L)) (h1 : 1 < H.next) :
    ∃ H',∃ d : Bool,callF G Tryz.prog pol 69 [QG n,I a,I b,CF] H = some (.ret (.bool d),H') ∧ (∀ i < H.next,H'.rows i = H.rows i) ∧ H.next ≤ H'.next:=by
  subst hn
  rw [callF_eq _ _ Tryz.func69 rfl Tryz.ntmps69 Tryz.results69 (by kernel_rfl) rfl (by exact Nat.le_of_ble_eq_true rfl)]
  simp (maxSteps:=999999) only [E0,seval,-Int.reduceNatCast',NUM,(i64_in (x:=(a : Int) + 1) (by unfold I64; omega))]
  rw [WW_loop]
  simp (maxSteps:=999999) only [E0,seval,-Int.reduceNatCast',NUM]
  generalize hL : W _ (.loop _) _ = L0
  obtain ⟨ex,s,rfl,rfl,i,h9,h1',h2,hrow,hd,hf⟩:=loop_at hL (α:=Nat) (fun i => b - i)
    (fun s0 i s => (a < i ∧ i ≤ b) ∧ s.tmps 9 = I i ∧ s.tmps 0 = QG L.length ∧ s.tmps 1 = I a ∧ s.tmps 2 = I b ∧ s.tmps 3 = CF ∧ (s.H.rows = H.rows ∧ H.next ≤ s.H.next) ∧ s.defers = [] ∧ s.fid = H.next)
    (fun s0 ex s => ex = .exit 2 ∧ ∃ i : Nat,s.tmps 9 = I i ∧ s.tmps 1 = I a ∧ s.tmps 2 = I b ∧ (s.H.rows = H.rows ∧ H.next ≤ s.H.next) ∧ s.defers = [] ∧ s.fid = H.next) (a + 1)
    (by simp (maxSteps:=999999) only [E0,seval,-Int.reduceNatCast']
        exact ⟨⟨by omega,by omega⟩,by simp,by omega⟩) (by
      rintro i s res hW ⟨⟨hi,hib⟩,h9,h0,h1',h2,h3,⟨hrow,hnx⟩,hd,hf⟩
      have hr' : s.H.rows 1 = some (RW L):=by rw [hrow]; exact hr
      by_cases hlt : i < b
      rotate_left
      · simp (maxSteps:=999999) only [E0,seval,-Int.reduceNatCast',NUM,SELT,INTS,Nat.zero_add,Nat.zero_le,List.length_map,List.length_set,Int.toNat_natCast,Int.add_sub_cancel,h9,h0,h1',h2,h3,hd,hf,(show ¬ (i : Int) < b by omega)] at hW
        subst hW
        refine rd_exit ⟨rfl,i,?_⟩
        simp (maxSteps:=999999) only [E0,seval,-Int.reduceNatCast',h9,h1',h2,hd,hf,hrow]
        exact hnx
      obtain ⟨k,rfl⟩ : ∃ k,i = k + 1:=⟨i - 1,by omega⟩
      obtain ⟨x,x0,x1⟩:=get_nat (L:=L) (i:=k) (by omega)
      obtain ⟨y,y0,y1⟩:=get_nat (L:=L) (i:=k + 1) (by omega)
      obtain ⟨e,he⟩:=hB.cmp y0 x0
      have h9' : s.tmps 9 = I ((k : Int) + 1):=by rw [h9]; congr 1
      by_cases he0 : e < 0
      · simp (maxSteps:=999999) only [E0,seval,-Int.reduceNatCast',NUM,SELT,INTS,Nat.zero_add,Nat.zero_le,List.length_map,List.length_set,Int.toNat_natCast,Int.add_sub_cancel,h9',h0,h1',h2,h3,hd,hf,hr',x1,y1,he,he0,(show (k : Int) + 1 < b by omega),(show (0 : Int) ≤ k by omega),(show (0 : Int) ≤ (k : Int) + 1 by omega),(show (k : Int) < L.length by omega),(show (k : Int) + 1 < L.length by omega),(show ((k : Int) + 1).toNat = k + 1 by omega),(i64_in (x:=(k : Int)) (by unfold I64; omega))] at hW
        subst hW
        refine rd_exit ⟨rfl,k + 1,?_⟩
        simp (maxSteps:=999999) only [E0,seval,-Int.reduceNatCast',h9,h1',h2,hd,hf,hrow]
        exact hnx
      · simp (maxSteps:=999999) only [E0,seval,-Int.reduceNatCast',NUM,SELT,INTS,Nat.zero_add,Nat.zero_le,List.length_map,List.length_set,Int.toNat_natCast,Int.add_sub_cancel,h9',h0,h1',h2,h3,hd,hf,hr',x1,y1,he,he0,(show (k : Int) + 1 < b by omega),(show (0 : Int) ≤ k by omega),(show (0 : Int) ≤ (k : Int) + 1 by omega),(show (k : Int) < L.length by omega),(show (k : Int) + 1 < L.length by omega),(show ((k : Int) + 1).toNat = k + 1 by omega),(i64_in (x:=(k : Int)) (by unfold I64; omega)),(i64_in (x:=(k : Int) + 1 + 1) (by unfold I64; omega))] at hW
        subst hW
        refine rd_next (k + 1 + 1) ?_ (by omega)
        simp (maxSteps:=999999) only [E0,seval,-Int.reduceNatCast',h0,h1',h2,h3,hd,hrow]
        exact ⟨⟨by omega,by omega⟩,by simp,hnx⟩)
  obtain ⟨hrow,hnx⟩:=hrow
  by_cases hib : (i : Int) = b
  · simp (maxSteps:=999999) only [E0,seval,-Int.reduceNatCast',NUM,h9,h1',h2,hd,hf,hib]
    exact ⟨_,true,rfl,fun i _ => by rw [hrow],hnx⟩
  · simp (maxSteps:=999999) only [E0,seval,-Int.reduceNatCast',NUM,h9,h1',h2,hd,hf,hib,(show (b : Int) - a < 50 by omega),(i64_in (x:=(b : Int) - a) (by unfold I64; omega))]
    exact ⟨_,false,rfl,fun i _ => by rw [hrow],hnx⟩
set_option maxHeartbeats 8000000 in
theorem q_parteq (L : List (List Int)) (hB : LB L) (n a b p : Nat) (hn : n = L.length) (hl : n ≤ 100000) (hb : b ≤ n) (hap : a ≤ p) (hpb : p < b) (H : Heap) (hr : H.rows 1 = some (RW L)) (h1 : 1 < H.next) :
    ∃ H' L',∃ d : Nat,callF G Tryz.prog pol 70 [QG n,I a,I b,I p,CF] H = some (.ret (I d),H') ∧ (a < d ∧ d ≤ b) ∧ L'.Perm L ∧ H'.rows 1 = some (RW L') ∧ QS H H':=by
  subst hn
  obtain ⟨x,x0,x1⟩:=get_nat (L:=L) (i:=a) (by omega)
  obtain ⟨y,y0,y1⟩:=get_nat (L:=L) (i:=p) (by omega)
  rw [callF_eq _ _ Tryz.func70 rfl Tryz.ntmps70 Tryz.results70 (by kernel_rfl) rfl (by exact Nat.le_of_ble_eq_true rfl)]
  simp (maxSteps:=999999) only [E0,seval,-Int.reduceNatCast',NUM,SELT,INTS,Nat.zero_add,Nat.zero_le,List.length_map,List.length_set,Int.toNat_natCast,Int.add_sub_cancel,hr,x1,y1,mget2 x0 y0,mset,(show (0 : Int) ≤ a by omega),(show (0 : Int) ≤ p by omega),(show (a : Int) < L.length by omega),(show (p : Int) < L.length by omega),(i64_in (x:=(a : Int) + 1) (by unfold I64; omega)),(i64_in (x:=(b : Int) - 1) (by unfold I64; omega))]
  rw [if_pos (by kernel_rfl)]
  have sp0:=swap_perm x0 y0
  generalize hS : (L.set a y).set p x = S at sp0
  generalize hL : W _ (.loop _) _ = L9
  obtain ⟨ex,s,rfl,rfl,d,hdb,L9',hp,hrow,hQ,h11,hd,hf⟩:=loop_at hL (α:=Nat × Nat) (fun k => b - k.1)
    (fun s0 k s => (a < k.1 ∧ k.1 ≤ b) ∧ (a ≤ k.2 ∧ k.2 < b) ∧ (∃ L',L'.Perm L ∧ s.H.rows 1 = some (RW L') ∧ QS H s.H) ∧ s.tmps 11 = I k.1 ∧ s.tmps 12 = I k.2 ∧ s.tmps 0 = QG L.length ∧ s.tmps 1 = I a ∧ s.tmps 4 = CF ∧ s.defers = [] ∧ s.fid = H.next)
    (fun s0 ex s => ex = .exit 0 ∧ ∃ d : Nat,(a < d ∧ d ≤ b) ∧ ∃ L',L'.Perm L ∧ s.H.rows 1 = some (RW L') ∧ QS H s.H ∧ s.tmps 11 = I d ∧ s.defers = [] ∧ s.fid = H.next) (a + 1,b - 1)
    (by simp (maxSteps:=999999) only [E0,seval,-Int.reduceNatCast']
        refine ⟨⟨by omega,by omega⟩,⟨by omega,by omega⟩,⟨S,sp0,rfl,((QS.mk ?_ ?_).set _).set _⟩,?_⟩
        · exact fun _ _ _ => rfl
        · simp
        · refine ⟨by simp,?_⟩
          congr 1; omega) (by
      clear hL
      rintro ⟨i1,j1⟩ s0 r0 hX ⟨ha1,ha2,⟨L1',hp,hrow,hQ⟩,hI,hJ,h0,h1',h4,hd,hf⟩
      dsimp only at ha1 ha2 hI hJ
      rw [WW_block] at hX
      simp (maxSteps:=999999) only [E0,seval,-Int.reduceNatCast',NUM] at hX
      generalize hL : W _ (.loop _) _ = L0 at hX
      obtain ⟨ex,s,rfl,rfl,i2,j2,hb1,hb2,L2,hp,hrow,hQ,hI,hJ,h0,h1',h4,hd,hf⟩:=loop_at hL (α:=Nat × Nat) (fun k => (k.2 + 1) - k.1)
        (fun s0 k s => (i1 ≤ k.1 ∧ a < k.1 ∧ k.1 ≤ b) ∧ (a ≤ k.2 ∧ k.2 < b) ∧ (∃ L',L'.Perm L ∧ s.H.rows 1 = some (RW L') ∧ QS H s.H) ∧ s.tmps 11 = I k.1 ∧ s.tmps 12 = I k.2 ∧ s.tmps 0 = QG L.length ∧ s.tmps 1 = I a ∧ s.tmps 4 = CF ∧ s.defers = [] ∧ s.fid = H.next)
        (fun s0 ex s => ex = .exit 2 ∧ ∃ i j : Nat,(i1 ≤ i ∧ a < i ∧ i ≤ b) ∧ (a ≤ j ∧ j < b) ∧ ∃ L',L'.Perm L ∧ s.H.rows 1 = some (RW L') ∧ QS H s.H ∧ s.tmps 11 = I i ∧ s.tmps 12 = I j ∧ s.tmps 0 = QG L.length ∧ s.tmps 1 = I a ∧ s.tmps 4 = CF ∧ s.defers = [] ∧ s.fid = H.next) (i1,j1)
        (by simp (maxSteps:=999999) only [E0,seval,-Int.reduceNatCast',hI,hJ,h0,h1',h4,hd,hf]
            exact ⟨⟨Nat.le_refl _,ha1⟩,ha2,L1',hp,hrow,hQ⟩) (by
          rintro ⟨i,j⟩ s res hW ⟨hb1,hb2,⟨L',hp,hrow,hQ⟩,hI,hJ,h0,h1',h4,hd,hf⟩
          dsimp only at hb1 hb2 hI hJ
          have ll:=hp.length_eq
          by_cases hij : i ≤ j
          rotate_left
          · simp (maxSteps:=999999) only [E0,seval,-Int.reduceNatCast',NUM,SELT,INTS,Nat.zero_add,Nat.zero_le,List.length_map,List.length_set,Int.toNat_natCast,Int.add_sub_cancel,hI,hJ,h0,h1',h4,hd,hf,(show ¬ (i : Int) ≤ j by omega)] at hW
            subst hW
            refine rd_exit ⟨rfl,i,j,hb1,hb2,L',hp,?_⟩
            simp (maxSteps:=999999) only [E0,seval,-Int.reduceNatCast',hrow,hI,hJ,h0,h1',h4,hd,hf]
            exact hQ
          obtain ⟨x,x0,x1⟩:=get_nat (L:=L') (i:=a) (by omega)
          obtain ⟨y,y0,y1⟩:=get_nat (L:=L') (i:=i) (by omega)
          obtain ⟨e,he⟩:=(hB.perm hp).cmp x0 y0
          by_cases he0 : e < 0
          · simp (maxSteps:=999999) only [E0,seval,-Int.reduceNatCast',NUM,SELT,INTS,Nat.zero_add,Nat.zero_le,List.length_map,List.length_set,Int.toNat_natCast,Int.add_sub_cancel,hI,hJ,h0,h1',h4,hd,hf,hrow,x1,y1,he,he0,ll,(show (i : Int) ≤ j by omega),(show (0 : Int) ≤ i by omega),(show (0 : Int) ≤ j by omega),(show (0 : Int) ≤ a by omega),(show (a : Int) < L.length by omega),(show (i : Int) < L.length by omega),(show (j : Int) < L.length by omega),(i64_in (x:=(i : Int) + 1) (by unfold I64; omega))] at hW
            subst hW
            refine rd_exit ⟨rfl,i,j,hb1,hb2,L',hp,?_⟩
            simp (maxSteps:=999999) only [E0,seval,-Int.reduceNatCast',hrow,hI,hJ,h0,h1',h4,hd,hf]
            exact hQ
          · simp (maxSteps:=999999) only [E0,seval,-Int.reduceNatCast',NUM,SELT,INTS,Nat.zero_add,Nat.zero_le,List.length_map,List.length_set,Int.toNat_natCast,Int.add_sub_cancel,hI,hJ,h0,h1',h4,hd,hf,hrow,x1,y1,he,he0,ll,(show (i : Int) ≤ j by omega),(show (0 : Int) ≤ i by omega),(show (0 : Int) ≤ j by omega),(show (0 : Int) ≤ a by omega),(show (a : Int) < L.length by omega),(show (i : Int) < L.length by omega),(show (j : Int) < L.length by omega),(i64_in (x:=(i : Int) + 1) (by unfold I64; omega))] at hW
            subst hW
            refine rd_next (i + 1,j) ?_ (by simp only; omega)
            simp (maxSteps:=999999) only [E0,seval,-Int.reduceNatCast',hI,hJ,h0,h1',h4,hd]
            refine ⟨⟨by omega,by omega,by omega⟩,⟨by omega,by omega⟩,⟨L',hp,hrow,hQ⟩,?_⟩
            first | (simp; done) | (congr 1; omega) | (refine ⟨?_,?_⟩ <;> (congr 1; omega)))
      simp (maxSteps:=999999) only [E0,seval,-Int.reduceNatCast',NUM,hd,hf] at hX
      generalize hL : W _ (.loop _) _ = L0 at hX
      obtain ⟨ex,s,rfl,rfl,i3,j3,hb1,hb2,L2,hp,hrow,hQ,hI,hJ,h0,h1',h4,hd,hf⟩:=loop_at hL (α:=Nat × Nat) (fun k => (k.2 + 1) - k.1)
        (fun s0 k s => (i2 ≤ k.1 ∧ a < k.1 ∧ k.1 ≤ b) ∧ (a ≤ k.2 ∧ k.2 < b) ∧ (∃ L',L'.Perm L ∧ s.H.rows 1 = some (RW L') ∧ QS H s.H) ∧ s.tmps 11 = I k.1 ∧ s.tmps 12 = I k.2 ∧ s.tmps 0 = QG L.length ∧ s.tmps 1 = I a ∧ s.tmps 4 = CF ∧ s.defers = [] ∧ s.fid = H.next)
        (fun s0 ex s => ex = .exit 4 ∧ ∃ i j : Nat,(i2 ≤ i ∧ a < i ∧ i ≤ b) ∧ (a ≤ j ∧ j < b) ∧ ∃ L',L'.Perm L ∧ s.H.rows 1 = some (RW L') ∧ QS H s.H ∧ s.tmps 11 = I i ∧ s.tmps 12 = I j ∧ s.tmps 0 = QG L.length ∧ s.tmps 1 = I a ∧ s.tmps 4 = CF ∧ s.defers = [] ∧ s.fid = H.next) (i2,j2)
        (by simp (maxSteps:=999999) only [E0,seval,-Int.reduceNatCast',hI,hJ,h0,h1',h4,hd,hf]
            exact ⟨⟨Nat.le_refl _,hb1.2⟩,hb2,L2,hp,hrow,hQ⟩) (by
          rintro ⟨i,j⟩ s res hW ⟨hb1,hb2,⟨L',hp,hrow,hQ⟩,hI,hJ,h0,h1',h4,hd,hf⟩
          dsimp only at hb1 hb2 hI hJ
          have ll:=hp.length_eq
          by_cases hij : i ≤ j
          rotate_left
          · simp (maxSteps:=999999) only [E0,seval,-Int.reduceNatCast',NUM,SELT,INTS,Nat.zero_add,Nat.zero_le,List.length_map,List.length_set,Int.toNat_natCast,Int.add_sub_cancel,hI,hJ,h0,h1',h4,hd,hf,(show ¬ (i : Int) ≤ j by omega)] at hW
            subst hW
            refine rd_exit ⟨rfl,i,j,hb1,hb2,L',hp,?_⟩
            simp (maxSteps:=999999) only [E0,seval,-Int.reduceNatCast',hrow,hI,hJ,h0,h1',h4,hd,hf]
            exact hQ
          obtain ⟨x,x0,x1⟩:=get_nat (L:=L') (i:=a) (by omega)
          obtain ⟨y,y0,y1⟩:=get_nat (L:=L') (i:=j) (by omega)
          obtain ⟨e,he⟩:=(hB.perm hp).cmp x0 y0
          by_cases he0 : e < 0
          · simp (maxSteps:=999999) only [E0,seval,-Int.reduceNatCast',NUM,SELT,INTS,Nat.zero_add,Nat.zero_le,List.length_map,List.length_set,Int.toNat_natCast,Int.add_sub_cancel,hI,hJ,h0,h1',h4,hd,hf,hrow,x1,y1,he,he0,ll,(show (i : Int) ≤ j by omega),(show (0 : Int) ≤ i by omega),(show (0 : Int) ≤ j by omega),(show (0 : Int) ≤ a by omega),(show (a : Int) < L.length by omega),(show (i : Int) < L.length by omega),(show (j : Int) < L.length by omega),(i64_in (x:=(j : Int) - 1) (by unfold I64; omega))] at hW
            subst hW
            refine rd_next (i,j - 1) ?_ (by simp only; omega)
            simp (maxSteps:=999999) only [E0,seval,-Int.reduceNatCast',hI,hJ,h0,h1',h4,hd]
            refine ⟨⟨by omega,by omega,by omega⟩,⟨by omega,by omega⟩,⟨L',hp,hrow,hQ⟩,?_⟩
            first | (simp; done) | (congr 1; omega) | (refine ⟨?_,?_⟩ <;> (congr 1; omega))
          · simp (maxSteps:=999999) only [E0,seval,-Int.reduceNatCast',NUM,SELT,INTS,Nat.zero_add,Nat.zero_le,List.length_map,List.length_set,Int.toNat_natCast,Int.add_sub_cancel,hI,hJ,h0,h1',h4,hd,hf,hrow,x1,y1,he,he0,ll,(show (i : Int) ≤ j by omega),(show (0 : Int) ≤ i by omega),(show (0 : Int) ≤ j by omega),(show (0 : Int) ≤ a by omega),(show (a : Int) < L.length by omega),(show (i : Int) < L.length by omega),(show (j : Int) < L.length by omega),(i64_in (x:=(j : Int) - 1) (by unfold I64; omega))] at hW
            subst hW
            refine rd_exit ⟨rfl,i,j,hb1,hb2,L',hp,?_⟩
            simp (maxSteps:=999999) only [E0,seval,-Int.reduceNatCast',hrow,hI,hJ,h0,h1',h4,hd,hf]
            exact hQ)
      have ll:=hp.length_eq
      by_cases hij : j3 < i3
      · simp (maxSteps:=999999) only [E0,seval,-Int.reduceNatCast',NUM,SELT,INTS,Nat.zero_add,Nat.zero_le,List.length_map,List.length_set,Int.toNat_natCast,Int.add_sub_cancel,hd,hf,hI,hJ,(show (j3 : Int) < i3 by omega)] at hX
        subst hX
        refine rd_exit ⟨rfl,i3,hb1.2,L2,hp,?_⟩
        simp (maxSteps:=999999) only [E0,seval,-Int.reduceNatCast',hrow,hI,hd,hf]
        exact hQ
      obtain ⟨x,x0,x1⟩:=get_nat (L:=L2) (i:=i3) (by omega)
      obtain ⟨y,y0,y1⟩:=get_nat (L:=L2) (i:=j3) (by omega)
      simp (maxSteps:=999999) only [E0,seval,-Int.reduceNatCast',NUM,SELT,INTS,Nat.zero_add,Nat.zero_le,List.length_map,List.length_set,Int.toNat_natCast,Int.add_sub_cancel,hI,hJ,h0,h1',h4,hd,hf,hrow,x1,y1,mget2 x0 y0,mset,ll,(show ¬ (j3 : Int) < i3 by omega),(show (0 : Int) ≤ i3 by omega),(show (0 : Int) ≤ j3 by omega),(show (i3 : Int) < L.length by omega),(show (j3 : Int) < L.length by omega),(i64_in (x:=(i3 : Int) + 1) (by unfold I64; omega)),(i64_in (x:=(j3 : Int) - 1) (by unfold I64; omega))] at hX
      rw [if_pos (by kernel_rfl)] at hX
      subst hX
      refine rd_next (i3 + 1,j3 - 1) ?_ (show b - (i3 + 1) < b - i1 by omega)
      simp (maxSteps:=999999) only [E0,seval,-Int.reduceNatCast',h0,h1',h4,hd]
      refine ⟨⟨by omega,by omega⟩,⟨by omega,by omega⟩,⟨_,(swap_perm x0 y0).trans hp,rfl,(hQ.set _).set _⟩,?_⟩
      refine ⟨by simp,?_⟩
      congr 1; omega)
  simp (maxSteps:=999999) only [E0,seval,-Int.reduceNatCast',hd,hf,h11]
  exact ⟨_,L9',d,rfl,hdb,hp,hrow,hQ⟩
set_option maxHeartbeats 16000000 in
theorem q_part (L : List (List Int)) (hB : LB L) (n a b p : Nat) (hn : n = L.length) (hl : n ≤ 100000) (hb : b ≤ n) (hap : a ≤ p) (hpb : p < b) (H : Heap) (hr : H.rows 1 = some (RW L)) (h1 : 1 < H.next) :
    ∃ H' L',∃ d : Nat,∃ o : Bool,callF G Tryz.prog pol 71 [QG n,I a,I b,I p,CF] H = some (.ret (.tup [I d,.bool o]),H') ∧ (a ≤ d ∧ d < b) ∧ L'.Perm L ∧ H'.rows 1 = some (RW L') ∧ QS H H':=by
  subst hn
  obtain ⟨x,x0,x1⟩:=get_nat (L:=L) (i:=a) (by omega)
  obtain ⟨y,y0,y1⟩:=get_nat (L:=L) (i:=p) (by omega)
  rw [callF_eq _ _ Tryz.func71 rfl Tryz.ntmps71 Tryz.results71 (by kernel_rfl) rfl (by exact Nat.le_of_ble_eq_true rfl)]
  simp (maxSteps:=999999) only [E0,seval,-Int.reduceNatCast',NUM,SELT,INTS,Nat.zero_add,Nat.zero_le,List.length_map,List.length_set,Int.toNat_natCast,Int.add_sub_cancel,hr,x1,y1,mget2 x0 y0,mset,(show (0 : Int) ≤ a by omega),(show (0 : Int) ≤ p by omega),(show (a : Int) < L.length by omega),(show (p : Int) < L.length by omega),(i64_in (x:=(a : Int) + 1) (by unfold I64; omega)),(i64_in (x:=(b : Int) - 1) (by unfold I64; omega))]
  rw [if_pos (by kernel_rfl)]
  have sp0:=swap_perm x0 y0
  generalize hS : (L.set a y).set p x = S at sp0
  clear x0 x1 y0 y1 hS
  generalize hL : W _ (.loop _) _ = L0
  obtain ⟨ex,s,rfl,rfl,i2,j2,hb1,hb2,L2,hp,hrow,hQ,hI,hJ,h0,h1',h4,hd,hf⟩:=loop_at hL (α:=Nat × Nat) (fun k => (k.2 + 1) - k.1)
    (fun s0 k s => ((a + 1) ≤ k.1 ∧ a < k.1 ∧ k.1 ≤ b) ∧ (a ≤ k.2 ∧ k.2 < b) ∧ (∃ L',L'.Perm L ∧ s.H.rows 1 = some (RW L') ∧ QS H s.H) ∧ s.tmps 12 = I k.1 ∧ s.tmps 13 = I k.2 ∧ s.tmps 0 = QG L.length ∧ s.tmps 1 = I a ∧ s.tmps 4 = CF ∧ s.defers = [] ∧ s.fid = H.next)
    (fun s0 ex s => ex = .exit 0 ∧ ∃ i j : Nat,((a + 1) ≤ i ∧ a < i ∧ i ≤ b) ∧ (a ≤ j ∧ j < b) ∧ ∃ L',L'.Perm L ∧ s.H.rows 1 = some (RW L') ∧ QS H s.H ∧ s.tmps 12 = I i ∧ s.tmps 13 = I j ∧ s.tmps 0 = QG L.length ∧ s.tmps 1 = I a ∧ s.tmps 4 = CF ∧ s.defers = [] ∧ s.fid = H.next) ((a + 1),(b - 1))
    (by simp (maxSteps:=999999) only [E0,seval,-Int.reduceNatCast']
        refine ⟨⟨by omega,by omega⟩,⟨by omega,by omega⟩,⟨S,sp0,rfl,((QS.mk ?_ ?_).set _).set _⟩,?_⟩
        · exact fun _ _ _ => rfl
        · simp
        · refine ⟨by simp,?_⟩
          congr 1; omega) (by
      rintro ⟨i,j⟩ s res hW ⟨hb1,hb2,⟨L',hp,hrow,hQ⟩,hI,hJ,h0,h1',h4,hd,hf⟩
      dsimp only at hb1 hb2 hI hJ
      have ll:=hp.length_eq
      by_cases hij : i ≤ j
      rotate_left
      · simp (maxSteps:=999999) only [E0,seval,-Int.reduceNatCast',NUM,SELT,INTS,Nat.zero_add,Nat.zero_le,List.length_map,List.length_set,Int.toNat_natCast,Int.add_sub_cancel,hI,hJ,h0,h1',h4,hd,hf,(show ¬ (i : Int) ≤ j by omega)] at hW
        subst hW
        refine rd_exit ⟨rfl,i,j,hb1,hb2,L',hp,?_⟩
        simp (maxSteps:=999999) only [E0,seval,-Int.reduceNatCast',hrow,hI,hJ,h0,h1',h4,hd,hf]
        exact hQ
      obtain ⟨x,x0,x1⟩:=get_nat (L:=L') (i:=a) (by omega)
      obtain ⟨y,y0,y1⟩:=get_nat (L:=L') (i:=i) (by omega)
      obtain ⟨e,he⟩:=(hB.perm hp).cmp y0 x0
      by_cases he0 : e < 0
      · simp (maxSteps:=999999) only [E0,seval,-Int.reduceNatCast',NUM,SELT,INTS,Nat.zero_add,Nat.zero_le,List.length_map,List.length_set,Int.toNat_natCast,Int.add_sub_cancel,hI,hJ,h0,h1',h4,hd,hf,hrow,x1,y1,he,he0,ll,(show (i : Int) ≤ j by omega),(show (0 : Int) ≤ i by omega),(show (0 : Int) ≤ j by omega),(show (0 : Int) ≤ a by omega),(show (a : Int) < L.length by omega),(show (i : Int) < L.length by omega),(show (j : Int) < L.length by omega),(i64_in (x:=(i : Int) + 1) (by unfold I64; omega))] at hW
        subst hW
        refine rd_next (i + 1,j) ?_ (by simp only; omega)
        simp (maxSteps:=999999) only [E0,seval,-Int.reduceNatCast',hI,hJ,h0,h1',h4,hd]
        refine ⟨⟨by omega,by omega,by omega⟩,⟨by omega,by omega⟩,⟨L',hp,hrow,hQ⟩,?_⟩
        first | (simp; done) | (congr 1; omega) | (refine ⟨?_,?_⟩ <;> (congr 1; omega))
      · simp (maxSteps:=999999) only [E0,seval,-Int.reduceNatCast',NUM,SELT,INTS,Nat.zero_add,Nat.zero_le,List.length_map,List.length_set,Int.toNat_natCast,Int.add_sub_cancel,hI,hJ,h0,h1',h4,hd,hf,hrow,x1,y1,he,he0,ll,(show (i : Int) ≤ j by omega),(show (0 : Int) ≤ i by omega),(show (0 : Int) ≤ j by omega),(show (0 : Int) ≤ a by omega),(show (a : Int) < L.length by omega),(show (i : Int) < L.length by omega),(show (j : Int) < L.length by omega),(i64_in (x:=(i : Int) + 1) (by unfold I64; omega))] at hW
        subst hW
        refine rd_exit ⟨rfl,i,j,hb1,hb2,L',hp,?_⟩
        simp (maxSteps:=999999) only [E0,seval,-Int.reduceNatCast',hrow,hI,hJ,h0,h1',h4,hd,hf]
        exact hQ)
  simp (maxSteps:=999999) only [E0,seval,-Int.reduceNatCast',NUM,hd,hf]
  generalize hL : W _ (.loop _) _ = L0
  obtain ⟨ex,s,rfl,rfl,i3,j3,hb1,hb2,L2,hp,hrow,hQ,hI,hJ,h0,h1',h4,hd,hf⟩:=loop_at hL (α:=Nat × Nat) (fun k => (k.2 + 1) - k.1)
    (fun s0 k s => (i2 ≤ k.1 ∧ a < k.1 ∧ k.1 ≤ b) ∧ (a ≤ k.2 ∧ k.2 < b) ∧ (∃ L',L'.Perm L ∧ s.H.rows 1 = some (RW L') ∧ QS H s.H) ∧ s.tmps 12 = I k.1 ∧ s.tmps 13 = I k.2 ∧ s.tmps 0 = QG L.length ∧ s.tmps 1 = I a ∧ s.tmps 4 = CF ∧ s.defers = [] ∧ s.fid = H.next)
    (fun s0 ex s => ex = .exit 2 ∧ ∃ i j : Nat,(i2 ≤ i ∧ a < i ∧ i ≤ b) ∧ (a ≤ j ∧ j < b) ∧ ∃ L',L'.Perm L ∧ s.H.rows 1 = some (RW L') ∧ QS H s.H ∧ s.tmps 12 = I i ∧ s.tmps 13 = I j ∧ s.tmps 0 = QG L.length ∧ s.tmps 1 = I a ∧ s.tmps 4 = CF ∧ s.defers = [] ∧ s.fid = H.next) (i2,j2)
    (by simp (maxSteps:=999999) only [E0,seval,-Int.reduceNatCast',hI,hJ,h0,h1',h4,hd,hf]
        exact ⟨⟨Nat.le_refl _,hb1.2⟩,hb2,L2,hp,hrow,hQ⟩) (by
      rintro ⟨i,j⟩ s res hW ⟨hb1,hb2,⟨L',hp,hrow,hQ⟩,hI,hJ,h0,h1',h4,hd,hf⟩
      dsimp only at hb1 hb2 hI hJ
      have ll:=hp.length_eq
      by_cases hij : i ≤ j
      rotate_left
      · simp (maxSteps:=999999) only [E0,seval,-Int.reduceNatCast',NUM,SELT,INTS,Nat.zero_add,Nat.zero_le,List.length_map,List.length_set,Int.toNat_natCast,Int.add_sub_cancel,hI,hJ,h0,h1',h4,hd,hf,(show ¬ (i : Int) ≤ j by omega)] at hW
        subst hW
        refine rd_exit ⟨rfl,i,j,hb1,hb2,L',hp,?_⟩
        simp (maxSteps:=999999) only [E0,seval,-Int.reduceNatCast',hrow,hI,hJ,h0,h1',h4,hd,hf]
        exact hQ
      obtain ⟨x,x0,x1⟩:=get_nat (L:=L') (i:=a) (by omega)
      obtain ⟨y,y0,y1⟩:=get_nat (L:=L') (i:=j) (by omega)
      obtain ⟨e,he⟩:=(hB.perm hp).cmp y0 x0
      by_cases he0 : e < 0
      · simp (maxSteps:=999999) only [E0,seval,-Int.reduceNatCast',NUM,SELT,INTS,Nat.zero_add,Nat.zero_le,List.length_map,List.length_set,Int.toNat_natCast,Int.add_sub_cancel,hI,hJ,h0,h1',h4,hd,hf,hrow,x1,y1,he,he0,ll,(show (i : Int) ≤ j by omega),(show (0 : Int) ≤ i by omega),(show (0 : Int) ≤ j by omega),(show (0 : Int) ≤ a by omega),(show (a : Int) < L.length by omega),(show (i : Int) < L.length by omega),(show (j : Int) < L.length by omega),(i64_in (x:=(j : Int) - 1) (by unfold I64; omega))] at hW
        subst hW
        refine rd_exit ⟨rfl,i,j,hb1,hb2,L',hp,?_⟩
        simp (maxSteps:=999999) only [E0,seval,-Int.reduceNatCast',hrow,hI,hJ,h0,h1',h4,hd,hf]
        exact hQ
      · simp (maxSteps:=999999) only [E0,seval,-Int.reduceNatCast',NUM,SELT,INTS,Nat.zero_add,Nat.zero_le,List.length_map,List.length_set,Int.toNat_natCast,Int.add_sub_cancel,hI,hJ,h0,h1',h4,hd,hf,hrow,x1,y1,he,he0,ll,(show (i : Int) ≤ j by omega),(show (0 : Int) ≤ i by omega),(show (0 : Int) ≤ j by omega),(show (0 : Int) ≤ a by omega),(show (a : Int) < L.length by omega),(show (i : Int) < L.length by omega),(show (j : Int) < L.length by omega),(i64_in (x:=(j : Int) - 1) (by unfold I64; omega))] at hW
        subst hW
        refine rd_next (i,j - 1) ?_ (by simp only; omega)
        simp (maxSteps:=999999) only [E0,seval,-Int.reduceNatCast',hI,hJ,h0,h1',h4,hd]
        refine ⟨⟨by omega,by omega,by omega⟩,⟨by omega,by omega⟩,⟨L',hp,hrow,hQ⟩,?_⟩
        first | (simp; done) | (congr 1; omega) | (refine ⟨?_,?_⟩ <;> (congr 1; omega)))
  have ll:=hp.length_eq
  by_cases hij : j3 < i3
  · obtain ⟨x,x0,x1⟩:=get_nat (L:=L2) (i:=j3) (by omega)
    obtain ⟨y,y0,y1⟩:=get_nat (L:=L2) (i:=a) (by omega)
    simp (maxSteps:=999999) only [E0,seval,-Int.reduceNatCast',NUM,SELT,INTS,Nat.zero_add,Nat.zero_le,List.length_map,List.length_set,Int.toNat_natCast,Int.add_sub_cancel,hI,hJ,h0,h1',h4,hd,hf,hrow,x1,y1,mget2 x0 y0,mset,ll,(show (j3 : Int) < i3 by omega),(show (0 : Int) ≤ a by omega),(show (0 : Int) ≤ j3 by omega),(show (a : Int) < L.length by omega),(show (j3 : Int) < L.length by omega)]
    rw [if_pos (by kernel_rfl)]
    exact ⟨_,_,j3,true,rfl,hb2,(swap_perm x0 y0).trans hp,by simp (maxSteps:=999999) only [E0,seval,-Int.reduceNatCast'],(hQ.set _).set _⟩
  obtain ⟨x,x0,x1⟩:=get_nat (L:=L2) (i:=i3) (by omega)
  obtain ⟨y,y0,y1⟩:=get_nat (L:=L2) (i:=j3) (by omega)
  simp (maxSteps:=999999) only [E0,seval,-Int.reduceNatCast',NUM,SELT,INTS,Nat.zero_add,Nat.zero_le,List.length_map,List.length_set,Int.toNat_natCast,Int.add_sub_cancel,hI,hJ,h0,h1',h4,hd,hf,hrow,x1,y1,mget2 x0 y0,mset,ll,(show ¬ (j3 : Int) < i3 by omega),(show (0 : Int) ≤ i3 by omega),(show (0 : Int) ≤ j3 by omega),(show (i3 : Int) < L.length by omega),(show (j3 : Int) < L.length by omega),(i64_in (x:=(i3 : Int) + 1) (by unfold I64; omega)),(i64_in (x:=(j3 : Int) - 1) (by unfold I64; omega))]
  rw [if_pos (by kernel_rfl)]
  have sp1:=(swap_perm x0 y0).trans hp
  generalize hS : (L2.set i3 y).set j3 x = S1 at sp1
  clear x0 x1 y0 y1 hS
  generalize hL : W _ (.loop _) _ = L9
  obtain ⟨ex,s,rfl,rfl,d,hdb,L9',hp,hrow,hQ,h13,h0,h1',hd,hf⟩:=loop_at hL (α:=Nat × Nat) (fun k => b - k.1)
    (fun s0 k s => (a < k.1 ∧ k.1 ≤ b) ∧ (a ≤ k.2 ∧ k.2 < b) ∧ (∃ L',L'.Perm L ∧ s.H.rows 1 = some (RW L') ∧ QS H s.H) ∧ s.tmps 12 = I k.1 ∧ s.tmps 13 = I k.2 ∧ s.tmps 0 = QG L.length ∧ s.tmps 1 = I a ∧ s.tmps 4 = CF ∧ s.defers = [] ∧ s.fid = H.next)
    (fun s0 ex s => ex = .exit 4 ∧ ∃ d : Nat,(a ≤ d ∧ d < b) ∧ ∃ L',L'.Perm L ∧ s.H.rows 1 = some (RW L') ∧ QS H s.H ∧ s.tmps 13 = I d ∧ s.tmps 0 = QG L.length ∧ s.tmps 1 = I a ∧ s.defers = [] ∧ s.fid = H.next) (i3 + 1,j3 - 1)
    (by simp (maxSteps:=999999) only [E0,seval,-Int.reduceNatCast',h0,h1',h4,hd,hf]
        refine ⟨⟨by omega,by omega⟩,⟨by omega,by omega⟩,⟨S1,sp1,rfl,(hQ.set _).set _⟩,?_⟩
        refine ⟨by simp,?_⟩
        congr 1; omega) (by
      clear hL
      rintro ⟨i1,j1⟩ s0 r0 hX ⟨ha1,ha2,⟨L1',hp,hrow,hQ⟩,hI,hJ,h0,h1',h4,hd,hf⟩
      dsimp only at ha1 ha2 hI hJ
      rw [WW_block] at hX
      simp (maxSteps:=999999) only [E0,seval,-Int.reduceNatCast',NUM] at hX
      generalize hL : W _ (.loop _) _ = L0 at hX
      obtain ⟨ex,s,rfl,rfl,i4,j4,hb1,hb2,L2,hp,hrow,hQ,hI,hJ,h0,h1',h4,hd,hf⟩:=loop_at hL (α:=Nat × Nat) (fun k => (k.2 + 1) - k.1)
        (fun s0 k s => (i1 ≤ k.1 ∧ a < k.1 ∧ k.1 ≤ b) ∧ (a ≤ k.2 ∧ k.2 < b) ∧ (∃ L',L'.Perm L ∧ s.H.rows 1 = some (RW L') ∧ QS H s.H) ∧ s.tmps 12 = I k.1 ∧ s.tmps 13 = I k.2 ∧ s.tmps 0 = QG L.length ∧ s.tmps 1 = I a ∧ s.tmps 4 = CF ∧ s.defers = [] ∧ s.fid = H.next)
        (fun s0 ex s => ex = .exit 6 ∧ ∃ i j : Nat,(i1 ≤ i ∧ a < i ∧ i ≤ b) ∧ (a ≤ j ∧ j < b) ∧ ∃ L',L'.Perm L ∧ s.H.rows 1 = some (RW L') ∧ QS H s.H ∧ s.tmps 12 = I i ∧ s.tmps 13 = I j ∧ s.tmps 0 = QG L.length ∧ s.tmps 1 = I a ∧ s.tmps 4 = CF ∧ s.defers = [] ∧ s.fid = H.next) (i1,j1)
        (by simp (maxSteps:=999999) only [E0,seval,-Int.reduceNatCast',hI,hJ,h0,h1',h4,hd,hf]
            exact ⟨⟨Nat.le_refl _,ha1⟩,ha2,L1',hp,hrow,hQ⟩) (by
          rintro ⟨i,j⟩ s res hW ⟨hb1,hb2,⟨L',hp,hrow,hQ⟩,hI,hJ,h0,h1',h4,hd,hf⟩
          dsimp only at hb1 hb2 hI hJ
          have ll:=hp.length_eq
          by_cases hij : i ≤ j
          rotate_left
          · simp (maxSteps:=999999) only [E0,seval,-Int.reduceNatCast',NUM,SELT,INTS,Nat.zero_add,Nat.zero_le,List.length_map,List.length_set,Int.toNat_natCast,Int.add_sub_cancel,hI,hJ,h0,h1',h4,hd,hf,(show ¬ (i : Int) ≤ j by omega)] at hW
            subst hW
            refine rd_exit ⟨rfl,i,j,hb1,hb2,L',hp,?_⟩
            simp (maxSteps:=999999) only [E0,seval,-Int.reduceNatCast',hrow,hI,hJ,h0,h1',h4,hd,hf]
            exact hQ
          obtain ⟨x,x0,x1⟩:=get_nat (L:=L') (i:=a) (by omega)
          obtain ⟨y,y0,y1⟩:=get_nat (L:=L') (i:=i) (by omega)
          obtain ⟨e,he⟩:=(hB.perm hp).cmp y0 x0
          by_cases he0 : e < 0
          · simp (maxSteps:=999999) only [E0,seval,-Int.reduceNatCast',NUM,SELT,INTS,Nat.zero_add,Nat.zero_le,List.length_map,List.length_set,Int.toNat_natCast,Int.add_sub_cancel,hI,hJ,h0,h1',h4,hd,hf,hrow,x1,y1,he,he0,ll,(show (i : Int) ≤ j by omega),(show (0 : Int) ≤ i by omega),(show (0 : Int) ≤ j by omega),(show (0 : Int) ≤ a by omega),(show (a : Int) < L.length by omega),(show (i : Int) < L.length by omega),(show (j : Int) < L.length by omega),(i64_in (x:=(i : Int) + 1) (by unfold I64; omega))] at hW
            subst hW
            refine rd_next (i + 1,j) ?_ (by simp only; omega)
            simp (maxSteps:=999999) only [E0,seval,-Int.reduceNatCast',hI,hJ,h0,h1',h4,hd]
            refine ⟨⟨by omega,by omega,by omega⟩,⟨by omega,by omega⟩,⟨L',hp,hrow,hQ⟩,?_⟩
            first | (simp; done) | (congr 1; omega) | (refine ⟨?_,?_⟩ <;> (congr 1; omega))
          · simp (maxSteps:=999999) only [E0,seval,-Int.reduceNatCast',NUM,SELT,INTS,Nat.zero_add,Nat.zero_le,List.length_map,List.length_set,Int.toNat_natCast,Int.add_sub_cancel,hI,hJ,h0,h1',h4,hd,hf,hrow,x1,y1,he,he0,ll,(show (i : Int) ≤ j by omega),(show (0 : Int) ≤ i by omega),(show (0 : Int) ≤ j by omega),(show (0 : Int) ≤ a by omega),(show (a : Int) < L.length by omega),(show (i : Int) < L.length by omega),(show (j : Int) < L.length by omega),(i64_in (x:=(i : Int) + 1) (by unfold I64; omega))] at hW
            subst hW
            refine rd_exit ⟨rfl,i,j,hb1,hb2,L',hp,?_⟩
            simp (maxSteps:=999999) only [E0,seval,-Int.reduceNatCast',hrow,hI,hJ,h0,h1',h4,hd,hf]
            exact hQ)
      simp (maxSteps:=999999) only [E0,seval,-Int.reduceNatCast',NUM,hd,hf] at hX
      generalize hL : W _ (.loop _) _ = L0 at hX
      obtain ⟨ex,s,rfl,rfl,i5,j5,hb1,hb2,L2,hp,hrow,hQ,hI,hJ,h0,h1',h4,hd,hf⟩:=loop_at hL (α:=Nat × Nat) (fun k => (k.2 + 1) - k.1)
        (fun s0 k s => (i4 ≤ k.1 ∧ a < k.1 ∧ k.1 ≤ b) ∧ (a ≤ k.2 ∧ k.2 < b) ∧ (∃ L',L'.Perm L ∧ s.H.rows 1 = some (RW L') ∧ QS H s.H) ∧ s.tmps 12 = I k.1 ∧ s.tmps 13 = I k.2 ∧ s.tmps 0 = QG L.length ∧ s.tmps 1 = I a ∧ s.tmps 4 = CF ∧ s.defers = [] ∧ s.fid = H.next)
        (fun s0 ex s => ex = .exit 8 ∧ ∃ i j : Nat,(i4 ≤ i ∧ a < i ∧ i ≤ b) ∧ (a ≤ j ∧ j < b) ∧ ∃ L',L'.Perm L ∧ s.H.rows 1 = some (RW L') ∧ QS H s.H ∧ s.tmps 12 = I i ∧ s.tmps 13 = I j ∧ s.tmps 0 = QG L.length ∧ s.tmps 1 = I a ∧ s.tmps 4 = CF ∧ s.defers = [] ∧ s.fid = H.next) (i4,j4)
        (by simp (maxSteps:=999999) only [E0,seval,-Int.reduceNatCast',hI,hJ,h0,h1',h4,hd,hf]
            exact ⟨⟨Nat.le_refl _,hb1.2⟩,hb2,L2,hp,hrow,hQ⟩) (by
          rintro ⟨i,j⟩ s res hW ⟨hb1,hb2,⟨L',hp,hrow,hQ⟩,hI,hJ,h0,h1',h4,hd,hf⟩
          dsimp only at hb1 hb2 hI hJ
          have ll:=hp.length_eq
          by_cases hij : i ≤ j
          rotate_left
          · simp (maxSteps:=999999) only [E0,seval,-Int.reduceNatCast',NUM,SELT,INTS,Nat.zero_add,Nat.zero_le,List.length_map,List.length_set,Int.toNat_natCast,Int.add_sub_cancel,hI,hJ,h0,h1',h4,hd,hf,(show ¬ (i : Int) ≤ j by omega)] at hW
            subst hW
            refine rd_exit ⟨rfl,i,j,hb1,hb2,L',hp,?_⟩
            simp (maxSteps:=999999) only [E0,seval,-Int.reduceNatCast',hrow,hI,hJ,h0,h1',h4,hd,hf]
            exact hQ
          obtain ⟨x,x0,x1⟩:=get_nat (L:=L') (i:=a) (by omega)
          obtain ⟨y,y0,y1⟩:=get_nat (L:=L') (i:=j) (by omega)
          obtain ⟨e,he⟩:=(hB.perm hp).cmp y0 x0
          by_cases he0 : e < 0
          · simp (maxSteps:=999999) only [E0,seval,-Int.reduceNatCast',NUM,SELT,INTS,Nat.zero_add,Nat.zero_le,List.length_map,List.length_set,Int.toNat_natCast,Int.add_sub_cancel,hI,hJ,h0,h1',h4,hd,hf,hrow,x1,y1,he,he0,ll,(show (i : Int) ≤ j by omega),(show (0 : Int) ≤ i by omega),(show (0 : Int) ≤ j by omega),(show (0 : Int) ≤ a by omega),(show (a : Int) < L.length by omega),(show (i : Int) < L.length by omega),(show (j : Int) < L.length by omega),(i64_in (x:=(j : Int) - 1) (by unfold I64; omega))] at hW
            subst hW
            refine rd_exit ⟨rfl,i,j,hb1,hb2,L',hp,?_⟩
            simp (maxSteps:=999999) only [E0,seval,-Int.reduceNatCast',hrow,hI,hJ,h0,h1',h4,hd,hf]
            exact hQ
          · simp (maxSteps:=999999) only [E0,seval,-Int.reduceNatCast',NUM,SELT,INTS,Nat.zero_add,Nat.zero_le,List.length_map,List.length_set,Int.toNat_natCast,Int.add_sub_cancel,hI,hJ,h0,h1',h4,hd,hf,hrow,x1,y1,he,he0,ll,(show (i : Int) ≤ j by omega),(show (0 : Int) ≤ i by omega),(show (0 : Int) ≤ j by omega),(show (0 : Int) ≤ a by omega),(show (a : Int) < L.length by omega),(show (i : Int) < L.length by omega),(show (j : Int) < L.length by omega),(i64_in (x:=(j : Int) - 1) (by unfold I64; omega))] at hW
            subst hW
            refine rd_next (i,j - 1) ?_ (by simp only; omega)
            simp (maxSteps:=999999) only [E0,seval,-Int.reduceNatCast',hI,hJ,h0,h1',h4,hd]
            refine ⟨⟨by omega,by omega,by omega⟩,⟨by omega,by omega⟩,⟨L',hp,hrow,hQ⟩,?_⟩
            first | (simp; done) | (congr 1; omega) | (refine ⟨?_,?_⟩ <;> (congr 1; omega)))
      simp (maxSteps:=999999) only [E0,seval,-Int.reduceNatCast',NUM,hd,hf,hI,hJ] at hX
      have ll:=hp.length_eq
      by_cases hij : j5 < i5
      · simp (maxSteps:=999999) only [E0,seval,-Int.reduceNatCast',NUM,SELT,INTS,Nat.zero_add,Nat.zero_le,List.length_map,List.length_set,Int.toNat_natCast,Int.add_sub_cancel,hd,hf,hI,hJ,(show (j5 : Int) < i5 by omega)] at hX
        subst hX
        refine rd_exit ⟨rfl,j5,hb2,L2,hp,?_⟩
        simp (maxSteps:=999999) only [E0,seval,-Int.reduceNatCast',hrow,hJ,h0,h1',hd,hf]
        exact hQ
      obtain ⟨x,x0,x1⟩:=get_nat (L:=L2) (i:=i5) (by omega)
      obtain ⟨y,y0,y1⟩:=get_nat (L:=L2) (i:=j5) (by omega)
      simp (maxSteps:=999999) only [E0,seval,-Int.reduceNatCast',NUM,SELT,INTS,Nat.zero_add,Nat.zero_le,List.length_map,List.length_set,Int.toNat_natCast,Int.add_sub_cancel,hI,hJ,h0,h1',h4,hd,hf,hrow,x1,y1,mget2 x0 y0,mset,ll,(show ¬ (j5 : Int) < i5 by omega),(show (0 : Int) ≤ i5 by omega),(show (0 : Int) ≤ j5 by omega),(show (i5 : Int) < L.length by omega),(show (j5 : Int) < L.length by omega),(i64_in (x:=(i5 : Int) + 1) (by unfold I64; omega)),(i64_in (x:=(j5 : Int) - 1) (by unfold I64; omega))] at hX
      rw [if_pos (by kernel_rfl)] at hX
      subst hX
      refine rd_next (i5 + 1,j5 - 1) ?_ (show b - (i5 + 1) < b - i1 by omega)
      simp (maxSteps:=999999) only [E0,seval,-Int.reduceNatCast',h0,h1',h4,hd]
      refine ⟨⟨by omega,by omega⟩,⟨by omega,by omega⟩,⟨_,(swap_perm x0 y0).trans hp,rfl,(hQ.set _).set _⟩,?_⟩
      refine ⟨by simp,?_⟩
      congr 1; omega)
  have ll:=hp.length_eq
  obtain ⟨x,x0,x1⟩:=get_nat (L:=L9') (i:=d) (by omega)
  obtain ⟨y,y0,y1⟩:=get_nat (L:=L9') (i:=a) (by omega)
  simp (maxSteps:=999999) only [E0,seval,-Int.reduceNatCast',NUM,SELT,INTS,Nat.zero_add,Nat.zero_le,List.length_map,List.length_set,Int.toNat_natCast,Int.add_sub_cancel,h13,h0,h1',hd,hf,hrow,x1,y1,mget2 x0 y0,mset,ll,(show (0 : Int) ≤ a by omega),(show (0 : Int) ≤ d by omega),(show (a : Int) < L.length by omega),(show (d : Int) < L.length by omega)]
  rw [if_pos (by kernel_rfl)]
  exact ⟨_,_,d,false,rfl,hdb,(swap_perm x0 y0).trans hp,by simp (maxSteps:=999999) only [E0,seval,-Int.reduceNatCast'],(hQ.set _).set _⟩
def LN (k : Nat) : Nat:=if k = 0 then 0 else if k < 2 then 1 else if k < 4 then 2 else if k < 8 then 3 else if k < 16 then 4 else if k < 32 then 5 else 6
theorem c_len64 (m : Nat) (h : m < 50) : ap Tryz.prog pol 73 [U m] = some (.ret (I (LN m))):=by
  have hl : LN m ≤ 6:=by
    unfold LN
    repeat' split
    all_goals omega
  rw [ap_eq _ Tryz.func73 rfl Tryz.ntmps73 Tryz.results73 (by kernel_rfl) rfl (by exact Nat.le_of_ble_eq_true rfl)]
  simp (maxSteps:=999999) only [E0,seval,-Int.reduceNatCast',NUM,(show ¬ (4294967296 : Int) ≤ m by omega),(show ¬ (65536 : Int) ≤ m by omega),(show ¬ (256 : Int) ≤ m by omega),(show (0 : Int) ≤ m by omega),Int.toNat_natCast,IntWalk.u8_in (m : Int) (by omega)]
  generalize hS : ByteArray.mk _ = S
  have key : ∃ b : UInt8,S[m]? = some b ∧ b.toNat = LN m:=by
    have k2 : (List.range 50).all (fun i => (S[i]?).any fun b => b.toNat == LN i) = true:=by subst hS; kernel_rfl
    have:=List.all_eq_true.1 k2 m (List.mem_range.2 h)
    cases e : S[m]? with
    | none => rw [e] at this; cases this
    | some b => rw [e] at this; exact ⟨b,rfl,by simpa using this⟩
  obtain ⟨b,e1,e2⟩:=key
  simp (maxSteps:=999999) only [E0,seval,-Int.reduceNatCast',e1,e2,Int.zero_add,IntWalk.i64_in (LN m : Int) (by omega),NUM]
theorem c_len (m : Nat) (h : m < 50) : ap Tryz.prog pol 45 [U m] = some (.ret (I (LN m))):=by
  rw [ap_eq _ Tryz.func45 rfl Tryz.ntmps45 Tryz.results45 (by kernel_rfl) rfl (by exact Nat.le_of_ble_eq_true rfl)]
  simp (maxSteps:=999999) only [E0,seval,-Int.reduceNatCast',NUM,c_len64 m h]
theorem c_np2 (m : Nat) (h : 8 ≤ m ∧ m < 50) : ∃ k : Nat,ap Tryz.prog pol 94 [I m] = some (.ret (U k)) ∧ 1 ≤ k ∧ k ≤ 2 * m:=by
  have hl : LN m = 4 ∨ LN m = 5 ∨ LN m = 6:=by
    unfold LN; repeat' split
    all_goals omega
  have hp : 2 ^ LN m ≤ 2 * m ∧ 1 ≤ 2 ^ LN m:=by
    unfold LN; repeat' split
    all_goals omega
  refine ⟨2 ^ LN m,?_,hp.2,hp.1⟩
  rw [ap_eq _ Tryz.func94 rfl Tryz.ntmps94 Tryz.results94 (by kernel_rfl) rfl (by exact Nat.le_of_ble_eq_true rfl)]
  simp (maxSteps:=999999) only [E0,seval,-Int.reduceNatCast',NUM,IntWalk.u64_in (m : Int) (by omega),c_len m h.2]
  rcases hl with hl | hl | hl <;> rw [hl] <;> kernel_rfl
set_option maxHeartbeats 4000000 in
theorem c_next (x : Int) (H : Heap) (g : Nat) (hg : H.rows g = some (.gro 1 [U x] 0)) (hgl : g < H.next) : ∃ H',∃ v : Int,callF G Tryz.prog pol 95 [.ptr g 1 0 0] H = some (.ret (U v),H') ∧ H'.rows g = some (.gro 1 [U v] 0) ∧ (∀ i,i ≠ g → H'.rows i = H.rows i) ∧ H.next ≤ H'.next:=by
  have ck : ∀ (ops : Array Oper),chkL ops [(9,[Vr.row 1],[Vr.row 1]),(5,[Vr.row 1],[]),(2,[Vr.row 1],[])] [(9,[Vr.row 1],[Vr.row 1]),(5,[Vr.row 1],[]),(2,[Vr.row 1],[])] = true →
      chkL ops [(9,[Vr.row g],[Vr.row g]),(5,[Vr.row g],[]),(2,[Vr.row g],[])] [(9,[Vr.row g],[Vr.row g]),(5,[Vr.row g],[]),(2,[Vr.row g],[])] = true:=fun ops h =>
    chkL_at ops (fun a => [(9,[Vr.row a],[Vr.row a]),(5,[Vr.row a],[]),(2,[Vr.row a],[])]) 1 g (by simp [renL,renM,renV,swp]) h
  rw [callF_eq _ _ Tryz.func95 rfl Tryz.ntmps95 Tryz.results95 (by kernel_rfl) rfl (by exact Nat.le_of_ble_eq_true rfl)]
  simp (maxSteps:=999999) only [E0,seval,-Int.reduceNatCast',NUM,hg]
  rw [if_pos (ck _ (by kernel_rfl)),if_pos (ck _ (by kernel_rfl)),if_pos (ck _ (by kernel_rfl))]
  refine ⟨_,_,rfl,by simp (maxSteps:=999999) only [E0,seval,-Int.reduceNatCast'],fun i hi => by simp (maxSteps:=999999) only [E0,seval,-Int.reduceNatCast',hi],by simp (maxSteps:=999999) only [E0,seval,-Int.reduceNatCast']; omega⟩
theorem and_le (v : Int) (k : Nat) (hk : 1 ≤ k) (hk2 : k ≤ 1000) : ∃ x : Nat,IntKind.u64.wrap ((BitVec.ofInt IntKind.u64.bits v &&& BitVec.ofInt IntKind.u64.bits ((k : Int) - 1)).toNat : Nat) = (x : Int) ∧ x < k:=by
  obtain ⟨j,rfl⟩ : ∃ j,k = j + 1:=⟨k - 1,by omega⟩
  have e : (((j + 1 : Nat) : Int) - 1) = (j : Int):=by omega
  rw [e]
  have h1 : (BitVec.ofInt IntKind.u64.bits v &&& BitVec.ofInt IntKind.u64.bits (j : Int)).toNat ≤ j:=by
    rw [BitVec.toNat_and]
    refine Nat.le_trans Nat.and_le_right ?_
    rw [BitVec.ofInt_natCast,BitVec.toNat_ofNat]
    exact Nat.mod_le _ _
  generalize (BitVec.ofInt IntKind.u64.bits v &&& BitVec.ofInt IntKind.u64.bits (j : Int)).toNat = z at *
  exact ⟨z,IntWalk.u64_in _ (by omega),by omega⟩
set_option maxHeartbeats 8000000 in
theorem q_break (L : List (List Int)) (n a b : Nat) (hn : n = L.length) (hl : n ≤ 100000) (hb : b ≤ n) (hab : a + 8 ≤ b) (hab' : b < a + 50) (H : Heap) (hr : H.rows 1 = some (RW L)) (h1 : 1 < H.next) :
    ∃ H' L',callF G Tryz.prog pol 66 [QG n,I a,I b,CF] H = some (.ret (.tup []),H') ∧ L'.Perm L ∧ H'.rows 1 = some (RW L') ∧ QS H H':=by
  subst hn
  obtain ⟨m,hm⟩ : ∃ m,b - a = m:=⟨_,rfl⟩
  have hmi : (b : Int) - a = (m : Int):=by omega
  obtain ⟨t,ht⟩ : ∃ t,m / 4 = t:=⟨_,rfl⟩
  have hq : (m : Int).tdiv 4 = (t : Int):=by
    rw [Int.tdiv_eq_ediv_of_nonneg (by omega)]
    omega
  obtain ⟨k,ek,hk1,hk2⟩:=c_np2 m (by omega)
  rw [callF_eq _ _ Tryz.func66 rfl Tryz.ntmps66 Tryz.results66 (by kernel_rfl) rfl (by exact Nat.le_of_ble_eq_true rfl)]
  simp (maxSteps:=999999) only [E0,seval,-Int.reduceNatCast',NUM,hmi,hq,ek,(show ¬ (4 : Int) = 0 by decide),(show ¬ (4 : Int) = -1 by decide),(show (8 : Int) ≤ m by omega),IntWalk.u64_in (m : Int) (by omega),(i64_in (x:=(m : Int)) (by unfold I64; omega)),(i64_in (x:=(t : Int)) (by unfold I64; omega)),(i64_in (x:=(t : Int) * 2) (by unfold I64; omega)),(i64_in (x:=(a : Int) + (t : Int) * 2) (by unfold I64; omega)),(i64_in (x:=(a : Int) + (t : Int) * 2 - 1) (by unfold I64; omega))]
  generalize hL : W _ (.loop _) _ = L0
  obtain ⟨ex,s,rfl,rfl,L1,hp,hrow,hQ,hd,hf⟩:=loop_at hL (α:=Nat) (fun i => a + t * 2 + 2 - i)
    (fun s0 i s => (a ≤ i ∧ i ≤ a + t * 2 + 2) ∧ (∃ L',L'.Perm L ∧ s.H.rows 1 = some (RW L') ∧ QS H s.H) ∧ (∃ v : Int,s.H.rows (H.next + 1) = some (.gro 1 [U v] 0)) ∧ H.next + 1 < s.H.next ∧ s.tmps 11 = I i ∧ s.tmps 10 = U k ∧ s.tmps 9 = .ptr (H.next + 1) 1 0 0 ∧ s.tmps 8 = I m ∧ s.tmps 0 = QG L.length ∧ s.tmps 1 = I a ∧ s.defers = [] ∧ s.fid = H.next)
    (fun s0 ex s => ex = .exit 0 ∧ ∃ L',L'.Perm L ∧ s.H.rows 1 = some (RW L') ∧ QS H s.H ∧ s.defers = [] ∧ s.fid = H.next) (a + t * 2 - 1)
    (by simp (maxSteps:=999999) only [E0,seval,-Int.reduceNatCast']
        refine ⟨⟨by omega,by omega⟩,⟨L,.refl _,by simp (maxSteps:=999999) only [E0,seval,-Int.reduceNatCast',(show ¬ (1 : Nat) = H.next + 1 by omega),(show ¬ H.next = 0 by omega),hr],⟨fun i hi _ => by simp (maxSteps:=999999) only [E0,seval,-Int.reduceNatCast',(show ¬ i = H.next + 1 by omega)],by simp (maxSteps:=999999) only [E0,seval,-Int.reduceNatCast']; omega⟩⟩,⟨_,rfl⟩,by omega,?_⟩
        congr 1; omega) (by
      rintro i s r hW ⟨⟨hi1,hi2⟩,⟨L',hp,hrow,hQ⟩,⟨v,hv⟩,hvl,h11,h10,h9,h8,h0,h1',hd,hf⟩
      have ll:=hp.length_eq
      by_cases hlt : (i : Int) ≤ (a : Int) + (t : Int) * 2 + 1
      rotate_left
      · simp (maxSteps:=999999) only [E0,seval,-Int.reduceNatCast',NUM,SELT,INTS,Nat.zero_add,Nat.zero_le,List.length_map,List.length_set,Int.toNat_natCast,Int.add_sub_cancel,hq,h11,h8,h1',hd,hf,hlt,(show ¬ (4 : Int) = 0 by decide),(show ¬ (4 : Int) = -1 by decide),(i64_in (x:=(t : Int)) (by unfold I64; omega)),(i64_in (x:=(t : Int) * 2) (by unfold I64; omega)),(i64_in (x:=(a : Int) + (t : Int) * 2) (by unfold I64; omega)),(i64_in (x:=(a : Int) + (t : Int) * 2 + 1) (by unfold I64; omega))] at hW
        subst hW
        refine rd_exit ⟨rfl,L',hp,?_⟩
        simp (maxSteps:=999999) only [E0,seval,-Int.reduceNatCast',hrow,hd,hf]
        exact hQ
      obtain ⟨H1,v1,e1,q1,f1,n1⟩:=c_next v s.H (H.next + 1) hv hvl
      have hrow1 : H1.rows 1 = some (RW L'):=by rw [f1 1 (by omega)]; exact hrow
      have hQ1 : QS H H1:=⟨fun i hi h => (f1 i (by omega)).trans (hQ.fr i hi h),Nat.le_trans hQ.nx n1⟩
      obtain ⟨x,ex,hxk⟩:=and_le v1 k hk1 (by omega)
      obtain ⟨u,u0,u1⟩:=get_nat (L:=L') (i:=i) (by omega)
      have wk:=IntWalk.u64_in ((k : Int) - 1) (by omega)
      have wx:=i64_in (x:=(x : Int)) (by unfold I64; omega)
      by_cases hmx : (m : Int) ≤ x
      · obtain ⟨o,ho⟩ : ∃ o : Nat,x - m = o:=⟨_,rfl⟩
        have hoi : (x : Int) - m = (o : Int):=by omega
        obtain ⟨w,w0,w1⟩:=get_nat (L:=L') (i:=a + o) (by omega)
        simp (maxSteps:=999999) only [E0,seval,-Int.reduceNatCast',NUM,SELT,INTS,Nat.zero_add,Nat.zero_le,List.length_map,List.length_set,Int.toNat_natCast,Int.add_sub_cancel,hq,h11,h10,h9,h8,h0,h1',hd,hf,hlt,e1,ex,wk,wx,hmx,hoi,hrow1,u1,w1,mget2 u0 w0,mset,ll,(show (0 : Int) ≤ i by omega),(show (i : Int) < L.length by omega),(show ¬ (4 : Int) = 0 by decide),(show ¬ (4 : Int) = -1 by decide),(i64_in (x:=(t : Int)) (by unfold I64; omega)),(i64_in (x:=(t : Int) * 2) (by unfold I64; omega)),(i64_in (x:=(a : Int) + (t : Int) * 2) (by unfold I64; omega)),(i64_in (x:=(a : Int) + (t : Int) * 2 + 1) (by unfold I64; omega)),(i64_in (x:=(o : Int)) (by unfold I64; omega)),(i64_in (x:=(i : Int) + 1) (by unfold I64; omega)),(i64_in (x:=(a : Int) + o) (by unfold I64; omega)),(show (0 : Int) ≤ (a : Int) + o by omega),(show ((a : Int) + o : Int) < L.length by omega),(show Int.toNat ((a : Int) + o) = a + o by omega)] at hW
        rw [if_pos (by kernel_rfl)] at hW
        subst hW
        refine rd_next (i + 1) ?_ (by omega)
        simp (maxSteps:=999999) only [E0,seval,-Int.reduceNatCast',h10,h9,h8,h0,h1',hd,q1]
        exact ⟨⟨by omega,by omega⟩,⟨_,(swap_perm u0 w0).trans hp,rfl,(hQ1.set _).set _⟩,⟨v1,by simp (maxSteps:=999999) only [E0,seval,-Int.reduceNatCast',(show ¬ H.next = 0 by omega),(show ¬ H.next + 1 = 1 by omega),q1]⟩,by omega,by simp⟩
      · obtain ⟨w,w0,w1⟩:=get_nat (L:=L') (i:=a + x) (by omega)
        simp (maxSteps:=999999) only [E0,seval,-Int.reduceNatCast',NUM,SELT,INTS,Nat.zero_add,Nat.zero_le,List.length_map,List.length_set,Int.toNat_natCast,Int.add_sub_cancel,hq,h11,h10,h9,h8,h0,h1',hd,hf,hlt,e1,ex,wk,wx,hmx,hrow1,u1,w1,mget2 u0 w0,mset,ll,(show (0 : Int) ≤ i by omega),(show (i : Int) < L.length by omega),(show ¬ (4 : Int) = 0 by decide),(show ¬ (4 : Int) = -1 by decide),(i64_in (x:=(t : Int)) (by unfold I64; omega)),(i64_in (x:=(t : Int) * 2) (by unfold I64; omega)),(i64_in (x:=(a : Int) + (t : Int) * 2) (by unfold I64; omega)),(i64_in (x:=(a : Int) + (t : Int) * 2 + 1) (by unfold I64; omega)),(i64_in (x:=(i : Int) + 1) (by unfold I64; omega)),(i64_in (x:=(a : Int) + x) (by unfold I64; omega)),(show (0 : Int) ≤ (a : Int) + x by omega),(show ((a : Int) + x : Int) < L.length by omega),(show Int.toNat ((a : Int) + x) = a + x by omega)] at hW
        rw [if_pos (by kernel_rfl)] at hW
        subst hW
        refine rd_next (i + 1) ?_ (by omega)
        simp (maxSteps:=999999) only [E0,seval,-Int.reduceNatCast',h10,h9,h8,h0,h1',hd,q1]
        exact ⟨⟨by omega,by omega⟩,⟨_,(swap_perm u0 w0).trans hp,rfl,(hQ1.set _).set _⟩,⟨v1,by simp (maxSteps:=999999) only [E0,seval,-Int.reduceNatCast',(show ¬ H.next = 0 by omega),(show ¬ H.next + 1 = 1 by omega),q1]⟩,by omega,by simp⟩)
  simp (maxSteps:=999999) only [E0,seval,-Int.reduceNatCast',hd,hf]
  exact ⟨_,L1,rfl,hp,hrow,hQ⟩
end Go.Proofs.YtofkhhokaalknaaGreatDoor
