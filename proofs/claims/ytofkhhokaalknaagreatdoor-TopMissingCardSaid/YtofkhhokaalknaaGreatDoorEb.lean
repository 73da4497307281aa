/-
  A reading of the machine's code over plain values, proved to say what the machine does (part 2).
-/
import Derived.Test.YtofkhhokaalknaaGreatDoorEa
import Derived.IntWalk
set_option linter.unusedSimpArgs false
set_option linter.unusedVariables false
set_option linter.unusedSectionVars false
namespace GoV
open Go
variable {P : Program} {E : Env}
theorem getAt_R {nt : Nat} {s : St} {w : World} {a : Act} (h : SimF nt E s w a) {p : PV} {cs : List PV} (hp : getAt s p = some cs) {v : Value} (hv : R E v p) :
    ∃ b off vals,v = .pointer (some ⟨b,off,none⟩) ∧ w.rangeAt b off vals ∧ RL E vals cs ∧ ∀ x ∈ vals,x.oneCell' = true:=by
  unfold getAt at hp
  split at hp
  · simp at hp; subst hp
    cases hv
    next b off vals hS hR =>
    refine ⟨b,off,vals,rfl,fun j x hx => (h.sim.stab _ _ _ (hS j x hx)).1,hR,?_⟩
    intro x hx
    obtain ⟨j,hj⟩:=List.getElem?_of_mem hx
    exact (h.sim.stab _ _ _ (hS j x hj)).2
  · next fid t ver off =>
    split at hp
    · next ver' cs' hb =>
      split at hp
      · next hc =>
        obtain ⟨rfl,rfl⟩:=hc
        simp at hp; subst hp
        cases hv
        next b hbe =>
        obtain ⟨b',c,ty,h1,h2,h3,h4,_⟩:=h.bx.ok _ _ _ hb
        rw [hbe] at h1; cases h1
        refine ⟨b,off,c.toList.drop off,rfl,?_,h3.drop off,fun x hx => h4 x (List.mem_of_mem_drop hx)⟩
        intro j x hx
        rw [cell_of_cells h2]
        simp only [List.getElem?_drop] at hx
        simpa using hx
      · simp at hp
    · simp at hp
  · next id ver i off =>
    split at hp
    · next sz es frz hr =>
      split at hp
      · next hl =>
        simp only [Option.map_eq_some_iff] at hp
        obtain ⟨e,he,rfl⟩:=hp
        cases hv
        next b o hm ho =>
        rw [← hl] at hm
        obtain ⟨hsz,hz,c,ty,vals,rest,hh,hc,hR,h1,_,_,_⟩:=h.sim.gro hr hm
        have h2:=hR.drop (i * sz)
        rw [flat_get es i e hz he] at h2
        obtain ⟨v1,v2,hv',hR1,_⟩:=h2.split
        subst ho
        rw [hsz]
        refine ⟨b,_,v1.drop off,rfl,?_,hR1.drop off,?_⟩
        · intro j x hx
          rw [cell_of_cells hh]
          have e1 : c[i * sz + off + j]? = c.toList[i * sz + off + j]?:=by simp
          rw [e1,hc]
          simp only [List.getElem?_drop] at hx
          have hlt : off + j < v1.length:=(List.getElem?_eq_some_iff.1 hx).1
          have hv1 : (vals.drop (i * sz))[off + j]? = some x:=by rw [hv',List.getElem?_append_left hlt]; exact hx
          simp only [List.getElem?_drop] at hv1
          rw [List.getElem?_append_left (by have:=(List.getElem?_eq_some_iff.1 hv1).1; omega),Nat.add_assoc]
          exact hv1
        · intro x hx
          have : x ∈ vals.drop (i * sz):=by rw [hv']; simp [List.mem_of_mem_drop hx]
          exact h1 x (by rw [hc]; simp [List.mem_of_mem_drop this])
      · simp at hp
    · simp at hp
  · simp at hp
theorem ld_run {t : TypeId} {ag : Bool} {sz : Nat} {cs : List PV} {p : PV} (ha : aggT P t = some ag) (hs : szOf P t = some sz) (h : ld ag sz cs = some p) {w : World} {b off : Nat} {vals : List Value} (hr : w.rangeAt b off vals) (hR : RL E vals cs) (h1 : ∀ x ∈ vals,x.oneCell' = true) :
    ∃ v,(loadVar t ⟨b,off,none⟩).run P w = .ok v w ∧ R E v p:=by
  unfold ld at h
  split at h
  · next hag =>
    subst hag
    split at h
    · next hle =>
      simp at h; subst h
      have hlen : (vals.take sz).length = sz:=by simp [hR.length]; omega
      unfold aggT at ha
      simp only [Option.map_eq_some_iff] at ha
      obtain ⟨d,hd,hrow⟩:=ha
      have hrow' : d.isRow = true:=by revert hrow; cases d <;> simp
      refine ⟨.agg (vals.take sz).toArray,?_,.agg _ _ (fun c hc => h1 c (List.mem_of_mem_take hc)) (hR.take sz)⟩
      exact run_loadVar_mid w b off t _ d (fun j v hj => by
        simp only [List.getElem?_take] at hj
        split at hj
        · exact hr j v hj
        · simp at hj) hd hrow' (by rw [hlen]; exact hs)
    · simp at h
  · next hag =>
    have : ag = false:=by simpa using hag
    subst this
    have h0 : cs[0]? = some p:=by rw [← List.head?_eq_getElem?]; exact h
    obtain ⟨v,hv,hRv⟩:=hR.get h0
    refine ⟨v,?_,hRv⟩
    have:=hr 0 v hv
    simp at this
    simp [loadVar,run_aggT ha w,this]
theorem load_run {nt : Nat} {s : St} {w : World} {a : Act} (h : SimF nt E s w a) {t : TypeId} {x : Operand} {ag : Bool} {sz : Nat} {cs : List PV} {p : PV} (ha : aggT P t = some ag) (hs : szOf P t = some sz)
    (hg : getAt s (evS s x) = some cs) (hl : ld ag sz cs = some p) : ∃ v,(Instr.loadAt t (a.eval x)).run P w = .ok v w ∧ R E v p:=by
  obtain ⟨b,off,vals,hv,hr,hR,h1⟩:=getAt_R h hg (ev_R h x)
  obtain ⟨v,hrun,hRv⟩:=ld_run ha hs hl hr hR h1
  exact ⟨v,by simp [hv,Instr.loadAt,Instr.sureAddr,hrun],hRv⟩
def Env.addBe (E : Env) (f t n b : Nat) : Env:={ E with be:=fun f' t' n' => if f' = f ∧ t' = t ∧ n' = n then some b else E.be f' t' n' }
theorem newLocal {nt : Nat} {s : St} {w : World} {a : Act} (h : SimF nt E s w a) (d ver : Nat) (hver : ver = match s.boxes d with | some (n,_) => n + 1 | none => 0) (c : Array Value) (ty : TypeId) (cs : List PV) (hR : RL E c.toList cs) (h1 : ∀ v ∈ c.toList,v.oneCell' = true) :
    SimF nt (E.addBe s.fid d ver w.heap.size) { s with boxes:=upd s.boxes d (some (ver,cs)) } (w.alloc (.cells c ty)) a ∧
    Tr s.fid E s.H.next (ownF E s) w (E.addBe s.fid d ver w.heap.size) s.H.next (ownF (E.addBe s.fid d ver w.heap.size) { s with boxes:=upd s.boxes d (some (ver,cs)) }) (w.alloc (.cells c ty)) ∧
    R (E.addBe s.fid d ver w.heap.size) (.pointer (some ⟨w.heap.size,0,none⟩)) (.bptr s.fid d ver 0):=by
  have hfr : ∀ n,ver ≤ n → E.be s.fid d n = none:=by
    intro n hn
    refine h.bx.fresh d n ?_
    intro v cs hb
    rw [hb] at hver
    simp at hver
    omega
  have hle : E.le (E.addBe s.fid d ver w.heap.size):=by
    refine ⟨fun _ _ _ x => x,fun _ _ _ x => ⟨x,rfl,rfl⟩,?_⟩
    intro f t n b hb
    by_cases hc : f = s.fid ∧ t = d ∧ n = ver
    · obtain ⟨rfl,rfl,rfl⟩:=hc; rw [hfr _ (Nat.le_refl _)] at hb; cases hb
    · simp [Env.addBe,hc,hb]
  have hold : ∀ b,b < w.heap.size → (w.alloc (.cells c ty)).heap[b]? = w.heap[b]?:=fun b hb => heap_alloc_old hb
  have hown : own (E.addBe s.fid d ver w.heap.size) s.H = own E s.H:=rfl
  have hbe2 : ∀ t n b,t ≠ d → (E.addBe s.fid d ver w.heap.size).be s.fid t n = some b → E.be s.fid t n = some b:=by
    intro t n b ht hb
    simpa [Env.addBe,ht] using hb
  have hbe1 : (E.addBe s.fid d ver w.heap.size).be s.fid d ver = some w.heap.size:=by simp [Env.addBe]
  refine ⟨⟨⟨?_,?_,h.sim.fresh,?_,h.sim.inj⟩,h.size,fun i => (h.tm i).mono hle,⟨?_,?_,?_,h.bx.fid⟩,h.df.mono hle⟩,?_,.bptr _ _ _ _ _ hbe1⟩
  · intro b o v hv
    obtain ⟨h2,h3⟩:=h.sim.stab b o v hv
    exact ⟨by rw [cell_of_heap (hold b (cell_lt h2))]; exact h2,h3⟩
  · intro id r hid
    exact (h.sim.row id r hid).keep hle (fun b hb => hold b ((h.sim.row id r hid).lt hb)) (fun _ => rfl) (fun _ _ _ x => x) rfl
  · intro f t n hf
    have : f ≠ s.fid:=by have:=h.bx.fid; simp only at hf; omega
    simp [Env.addBe,this]
    exact h.sim.freshB f t n hf
  · intro t v cs' hb
    simp only [upd_apply] at hb
    split at hb
    · next ht =>
      subst ht; simp at hb; obtain ⟨rfl,rfl⟩:=hb
      exact ⟨_,c,ty,hbe1,heap_alloc_new,hR.mono hle,h1,fun o => S_new h.sim (Nat.le_refl _) o,fun ho => by have:=h.sim.own_lt ho; omega⟩
    · next ht =>
      obtain ⟨b,c',ty',g1,g2,g3,g4,g5,g6⟩:=h.bx.ok t v cs' hb
      exact ⟨b,c',ty',hle.be _ _ _ _ g1,by rw [hold b (lt_of_heap g2)]; exact g2,g3.mono hle,g4,g5,g6⟩
  · intro t t' v v' cs1 cs2 b g1 g2 g3 g4
    simp only [upd_apply] at g1 g2
    split at g1 <;> split at g2
    · next e1 e2 => rw [e1,e2]
    · next e1 e2 =>
      subst e1; simp at g1; obtain ⟨rfl,rfl⟩:=g1
      rw [hbe1] at g3; cases g3
      have g4':=hbe2 _ _ _ e2 g4
      obtain ⟨b,c',ty',k1,k2,_⟩:=h.bx.ok t' v' cs2 g2
      rw [g4'] at k1; cases k1
      have:=lt_of_heap k2; omega
    · next e1 e2 =>
      subst e2; simp at g2; obtain ⟨rfl,rfl⟩:=g2
      rw [hbe1] at g4; cases g4
      have g3':=hbe2 _ _ _ e1 g3
      obtain ⟨b,c',ty',k1,k2,_⟩:=h.bx.ok t v cs1 g1
      rw [g3'] at k1; cases k1
      have:=lt_of_heap k2; omega
    · next e1 e2 => exact h.bx.inj t t' v v' cs1 cs2 b g1 g2 (hbe2 _ _ _ e1 g3) (hbe2 _ _ _ e2 g4)
  · intro t n hn
    by_cases ht : t = d
    · subst ht
      have:=hn ver cs (by simp)
      have hne : n ≠ ver:=by omega
      simp [Env.addBe,hne]
      exact hfr n (by omega)
    · simp [Env.addBe,ht]
      refine h.bx.fresh t n ?_
      intro v cs' hb
      exact hn v cs' (by simp [ht,hb])
  · refine ⟨hle,rfl,rfl,rfl,by simp,Nat.le_refl _,fun b hb _ => hold b hb,?_,fun b o h0 h2 => absurd h0 h2,?_⟩
    · rintro b (ho | ⟨t,v,cs',g1,g2⟩)
      · exact .inl (.inl ho)
      · simp only [upd_apply] at g1
        split at g1
        · next ht => subst ht; simp at g1; obtain ⟨rfl,rfl⟩:=g1; simp only at g2; rw [hbe1] at g2; cases g2; exact .inr (Nat.le_refl _)
        · next ht => exact .inl (.inr ⟨t,v,cs',g1,hbe2 _ _ _ ht g2⟩)
    · intro f t k _ hne
      simp [Env.addBe,hne]
end GoV
namespace GoV
open Go
variable {P : Program} {E : Env}
theorem storeVar_run {t : TypeId} {n : Nat} {w : World} {b off : Nat} {v : Value} (hs : szOf P t = some n) (hv : v.cells.size = n) (h1 : ∀ c ∈ v.cells.toList,c.oneCell' = true)
    (hc : ∀ j,j < v.cells.toList.length → (w.cell? ⟨b,off + j,none⟩).isSome = true) (hf : ∀ j,j < v.cells.toList.length → w.frozen? ⟨b,off + j,none⟩ = false) :
    (Instr.storeAt t (.pointer (some ⟨b,off,none⟩)) v).run P w = .ok () (w.setCells b off v.cells.toList):=by
  have:=run_storeCells_cells (P:=P) b off v.cells.toList 0 w (by simpa using hc) (by simpa using hf) h1
  simp [Instr.storeAt,Instr.sureAddr,storeVar,run_szOf hs w,hv,this]
theorem storeLocal {nt : Nat} {s : St} {w : World} {a : Act} (h : SimF nt E s w a) {d ver off b : Nat} {cs cs' qs : List PV} {vs : List Value} (hb : s.boxes d = some (ver,cs)) (hbe : E.be s.fid d ver = some b) (hsp : splice cs off qs = some cs') (hv : RL E vs qs) (h1 : ∀ v ∈ vs,v.oneCell' = true) :
    (SimF nt E { s with boxes:=upd s.boxes d (some (ver,cs')) } (w.setCells b off vs) a ∧
    Tr s.fid E s.H.next (ownF E s) w E s.H.next (ownF E { s with boxes:=upd s.boxes d (some (ver,cs')) }) (w.setCells b off vs)) ∧
    (∀ j,j < vs.length → (w.cell? ⟨b,off + j,none⟩).isSome = true) ∧ (∀ j,j < vs.length → w.frozen? ⟨b,off + j,none⟩ = false):=by
  obtain ⟨b',c,ty,k1,k2,k3,k4,k5,k6⟩:=h.bx.ok d ver cs hb
  rw [hbe] at k1; cases k1
  have hle : off + vs.length ≤ c.toList.length:=(splice_R hsp k3 hv).1
  have hR:=(splice_R hsp k3 hv).2
  have hheap:=heap_setCells (b:=b) (t:=ty) vs off w c k2 (by simpa using hle)
  have hkeep : ∀ b',b' ≠ b → (w.setCells b off vs).heap[b']? = w.heap[b']?:=fun b' hne => heap_setCells_other hne vs _ w
  obtain ⟨r1,r2,r3,r4⟩:=setCells_rest (b:=b) vs off w
  have hrow : ∀ id r,s.H.rows id = some r → ∀ b',E.blk id r = some b' → b' ≠ b:=by
    rintro id r hid b' hb' rfl
    exact k6 ⟨id,r,hid,hb'⟩
  refine ⟨⟨⟨⟨?_,?_,h.sim.fresh,h.sim.freshB,h.sim.inj⟩,h.size,h.tm,⟨?_,?_,?_,h.bx.fid⟩,h.df⟩,?_⟩,?_,?_⟩
  · intro b' o v hs
    obtain ⟨g1,g2⟩:=h.sim.stab b' o v hs
    have : b' ≠ b:=by rintro rfl; rw [k5 o] at hs; cases hs
    exact ⟨by rw [cell_of_heap (hkeep b' this)]; exact g1,g2⟩
  · intro id r hid
    exact (h.sim.row id r hid).keep (Env.le_refl E) (fun b' hb' => hkeep b' (hrow id r hid b' hb')) (fun _ => rfl) (fun _ _ _ x => x) rfl
  · intro t v cs1 ht
    simp only [upd_apply] at ht
    split at ht
    · next e =>
      subst e; simp at ht; obtain ⟨rfl,rfl⟩:=ht
      refine ⟨b,_,ty,hbe,hheap,by simpa using hR,?_,k5,k6⟩
      intro v hv'
      simp only [List.mem_append] at hv'
      rcases hv' with h' | h' | h'
      · exact k4 v (List.mem_of_mem_take h')
      · exact h1 v h'
      · exact k4 v (List.mem_of_mem_drop h')
    · next e =>
      obtain ⟨b2,c2,ty2,g1,g2,g3,g4,g5,g6⟩:=h.bx.ok t v cs1 ht
      have : b2 ≠ b:=by rintro rfl; exact e (h.bx.inj t d v ver cs1 cs b2 ht hb g1 hbe)
      exact ⟨b2,c2,ty2,g1,by rw [hkeep b2 this]; exact g2,g3,g4,g5,g6⟩
  · intro t t' v v' cs1 cs2 b1 g1 g2 g3 g4
    simp only [upd_apply] at g1 g2
    have conv : ∀ t v cs1,(if t = d then some (ver,cs') else s.boxes t) = some (v,cs1) → ∃ cs3,s.boxes t = some (v,cs3):=by
      intro t v cs1 hg
      split at hg
      · next e => subst e; simp at hg; obtain ⟨rfl,rfl⟩:=hg; exact ⟨_,hb⟩
      · exact ⟨_,hg⟩
    obtain ⟨cs3,g1'⟩:=conv _ _ _ g1
    obtain ⟨cs4,g2'⟩:=conv _ _ _ g2
    exact h.bx.inj t t' v v' cs3 cs4 b1 g1' g2' g3 g4
  · intro t n hn
    refine h.bx.fresh t n ?_
    intro v cs1 hb1
    by_cases e : t = d
    · subst e; rw [hb] at hb1; cases hb1; exact hn ver cs' (by simp)
    · exact hn v cs1 (by simp [e,hb1])
  · refine ⟨Env.le_refl E,r1,r2,r3,by omega,Nat.le_refl _,?_,?_,fun b o h0 h2 => absurd h0 h2,fun _ _ _ _ _ => rfl⟩
    · intro b' _ ho
      exact hkeep b' (by rintro rfl; exact ho (.inr ⟨d,ver,cs,hb,hbe⟩))
    · rintro b' (ho | ⟨t,v,cs1,g1,g2⟩)
      · exact .inl (.inl ho)
      · simp only [upd_apply] at g1
        split at g1
        · next e => subst e; simp at g1; obtain ⟨rfl,rfl⟩:=g1; exact .inl (.inr ⟨_,_,cs,hb,g2⟩)
        · exact .inl (.inr ⟨t,v,cs1,g1,g2⟩)
  · intro j hj
    rw [cell_of_cells k2]
    simp at hle
    simp; omega
  · intro j hj
    exact frozen_of_cells k2 _
theorem putAt_run {nt : Nat} {s s' : St} {w : World} {a : Act} (h : SimF nt E s w a) {t : TypeId} {n : Nat} {p q : PV} {x v : Value} (hs : szOf P t = some n) (hfit : q.fits n = true) (hp : putAt s q.cells p = some s') (hx : R E x p) (hv : R E v q) :
    ∃ w',(Instr.storeAt t x v).run P w = .ok () w' ∧ SimF nt E s' w' a ∧ Tr s.fid E s.H.next (ownF E s) w E s'.H.next (ownF E s') w' ∧ s'.tmps = s.tmps ∧ s'.fid = s.fid ∧ s'.rc = s.rc:=by
  obtain ⟨hR,hsz,h1⟩:=hv.fits hfit
  unfold putAt at hp
  split at hp
  · next fid d ver off =>
    split at hp
    · next ver' cs hb =>
      split at hp
      · next hc =>
        obtain ⟨rfl,rfl⟩:=hc
        simp only [Option.map_eq_some_iff] at hp
        obtain ⟨cs',hsp,rfl⟩:=hp
        cases hx
        next b hbe =>
        obtain ⟨⟨k1,k2⟩,k3,k4⟩:=storeLocal h hb hbe hsp hR h1
        exact ⟨_,storeVar_run hs hsz h1 k3 k4,k1,k2,rfl,rfl,rfl⟩
      · simp at hp
    · simp at hp
  · next id ver i off =>
    split at hp
    · next sz es frz hr =>
      split at hp
      · next hl =>
        obtain ⟨hl,hf⟩:=hl
        simp only [Option.bind_eq_some_iff,Option.map_eq_some_iff] at hp
        obtain ⟨e,he,cs',hsp,rfl⟩:=hp
        cases hx
        next b o hm ho =>
        rw [← hl] at hm
        obtain ⟨k1,k2,k3⟩:=HTr.store h.sim hr hm hf he hsp hR h1
        obtain ⟨g1,g2⟩:=h.frame k1
        subst ho
        exact ⟨_,storeVar_run hs hsz h1 k2 k3,g1,g2,rfl,rfl,rfl⟩
      · simp at hp
    · simp at hp
  · simp at hp
def Env.addS (E : Env) (b : Nat) (c : Array Value) : Env:=E.setS fun b' o => if b' = b then c[o]? else E.S b' o
theorem Env.addS_S {H : Heap} {w : World} (h : Sim E H w) (c : Array Value) : (E.addS w.heap.size c).S = fun b' o => if b' = w.heap.size then c[o]? else E.S b' o:=by
  refine Env.setS_eq ?_
  intro b o v hv
  have : b ≠ w.heap.size:=by have:=tr_S_lt h hv; omega
  simp [this,hv]
theorem HTr.addS {H : Heap} {w : World} (h : Sim E H w) (c : Array Value) (ty : TypeId) (h1 : ∀ v ∈ c.toList,v.oneCell' = true) : HTr E H w (E.addS w.heap.size c) H (w.alloc (.cells c ty)):=by
  have hle : E.le (E.addS w.heap.size c):=by
    refine ⟨?_,fun _ _ _ x => ⟨x,rfl,rfl⟩,fun _ _ _ _ x => x⟩
    intro b o v hv
    have : b ≠ w.heap.size:=by have:=tr_S_lt h hv; omega
    simp [Env.addS_S h,this,hv]
  have hold : ∀ b,b < w.heap.size → (w.alloc (.cells c ty)).heap[b]? = w.heap[b]?:=fun b hb => heap_alloc_old hb
  refine ⟨⟨?_,?_,h.fresh,h.freshB,h.inj⟩,⟨hle,rfl,rfl,rfl,by simp,Nat.le_refl _,fun b hb _ => hold b hb,fun b hb => .inl hb,?_,fun _ _ _ _ _ => rfl⟩⟩
  · intro b o v hv
    simp only [Env.addS_S h] at hv
    split at hv
    · next e =>
      subst e
      rw [cell_of_cells heap_alloc_new]
      refine ⟨hv,h1 v ?_⟩
      have : c.toList[o]? = some v:=by simpa using hv
      exact List.mem_of_getElem? this
    · obtain ⟨g1,g2⟩:=h.stab b o v hv
      exact ⟨by rw [cell_of_heap (hold b (cell_lt g1))]; exact g1,g2⟩
  · intro id r hid
    refine (h.row id r hid).keep hle (fun b hb => hold b ((h.row id r hid).lt hb)) (fun _ => rfl) ?_ rfl
    intro b hb o h0
    have : b ≠ w.heap.size:=by have:=(h.row id r hid).lt hb; omega
    simp [Env.addS_S h,this,h0]
  · intro b o h0 h2
    by_cases hb : b = w.heap.size
    · exact .inr (by omega)
    · simp [Env.addS_S h,hb] at h2; exact absurd h0 h2
theorem newVar_run {nt : Nat} {s s' : St} {w : World} {a : Act} (h : SimF nt E s w a) {cx : Ctx} {d : Option Nat} {t : TypeId} {n : Nat} {q r : PV} {v : Value} (hn : newVarV cx d n q s = some (.val r s')) (hv : R E v q) :
    ∃ w' E',(newVar t v).run P w = .ok ⟨w.heap.size,0,none⟩ w' ∧ SimF nt E' s' w' a ∧ Tr s.fid E s.H.next (ownF E s) w E' s'.H.next (ownF E' s') w' ∧ R E' (.pointer (some ⟨w.heap.size,0,none⟩)) r ∧ s'.tmps = s.tmps ∧ s'.fid = s.fid ∧ s'.rc = s.rc:=by
  unfold newVarV at hn
  split at hn
  · next hfit =>
    obtain ⟨hR,hsz,h1⟩:=hv.fits hfit
    have hrun : (newVar t v).run P w = .ok ⟨w.heap.size,0,none⟩ (w.alloc (.cells v.cells t)):=by simp [newVar,newRow]
    split at hn
    · next d =>
      split at hn
      · simp at hn
        obtain ⟨rfl,rfl⟩:=hn
        have hq : ∀ e ∈ [q],e.cells.length = n:=by simp [(PV.fits_iff.1 hfit).2.2]
        have k:=HTr.addGro (ty:=t) h.sim n [q] v.cells v.cells.toList [] 1 (by simpa using hsz) hq (by simp) (by simpa using hR) h1 rfl rfl rfl rfl
        obtain ⟨g1,g2⟩:=h.frame k
        refine ⟨_,_,hrun,g1,g2,?_,rfl,rfl,rfl⟩
        exact .ptr _ _ _ _ _ _ (by simp [Env.addRow]) (by simp)
      split at hn
      · simp only [Option.some.injEq,OpR.val.injEq] at hn
        obtain ⟨rfl,rfl⟩:=hn
        have k:=HTr.addS h.sim v.cells t h1
        obtain ⟨g1,g2⟩:=h.frame k
        refine ⟨_,_,hrun,g1,g2,?_,rfl,rfl,rfl⟩
        refine .rop _ 0 v.cells.toList _ ?_ (hR.mono k.tr.le)
        intro i x hx
        rw [Env.addS_S h.sim]
        simpa using hx
      · simp only [Option.some.injEq,OpR.val.injEq] at hn
        obtain ⟨rfl,rfl⟩:=hn
        obtain ⟨g1,g2,g3⟩:=newLocal h d _ rfl v.cells t q.cells hR h1
        exact ⟨_,_,hrun,g1,g2,g3,rfl,rfl,rfl⟩
    · simp at hn
  · simp at hn
end GoV
namespace GoV
open Go
variable {P : Program} {E : Env}
theorem range_of_at {H : Heap} {w : World} (h : Sim E H w) {b off : Nat} {vals : List Value} (hS : E.at b off vals) : w.rangeAt b off vals ∧ ∀ v ∈ vals,v.oneCell' = true:=by
  refine ⟨fun j v hv => (h.stab _ _ _ (hS j v hv)).1,?_⟩
  intro x hx
  obtain ⟨j,hj⟩:=List.getElem?_of_mem hx
  exact (h.stab _ _ _ (hS j x hj)).2
theorem firstCells_run {w : World} {b off n size len c : Nat} {vals : List Value} (hr : w.rangeAt b off vals) (hl : vals.length = n * size) : (Builtin.firstCells size n (.slice (some ⟨b,off,none⟩) len c)).run P w = .ok vals.toArray w:=by
  have:=run_loadCells_list (P:=P) w ⟨b,off,none⟩ vals (fun j v hv => by rw [Addr.add_mid]; exact hr j v hv)
  simp only [Builtin.firstCells,← hl]
  exact this
theorem rowEs_range {H : Heap} {w : World} (h : Sim E H w) {id ver off len sz b : Nat} {es : List PV} (hr : rowEs H id ver off len = some es) (hm : E.mu id ver = some (some b)) (hz : E.sz id = sz) :
    ∃ vals,w.rangeAt b (off * sz) vals ∧ RL E vals (flat es) ∧ (∀ v ∈ vals,v.oneCell' = true) ∧ (∀ e ∈ es,e.cells.length = sz) ∧ es.length = len:=by
  unfold rowEs at hr
  split at hr
  · next sz' es0 frz hrow =>
    split at hr
    · next hc =>
      obtain ⟨hl,hle⟩:=hc
      simp at hr; subst hr
      rw [← hl] at hm
      obtain ⟨hsz,hz',c,t,vals,rest,hh,hcc,hR,h1,_,_,_⟩:=h.gro hrow hm
      rw [hz] at hsz; subst hsz
      have hz1 : ∀ e ∈ es0.drop off,e.cells.length = sz:=fun e he => hz' e (List.mem_of_mem_drop he)
      refine ⟨(vals.drop (off * sz)).take (len * sz),?_,?_,?_,fun e he => hz1 e (List.mem_of_mem_take he),by simp; omega⟩
      · intro j v hj
        simp only [List.getElem?_take,List.getElem?_drop] at hj
        split at hj
        · rw [cell_of_cells hh]
          have e1 : c[off * sz + j]? = c.toList[off * sz + j]?:=by simp
          rw [e1,hcc,List.getElem?_append_left (List.getElem?_eq_some_iff.1 hj).1]
          exact hj
        · simp at hj
      · rw [flat_take _ len hz1,flat_drop es0 off hz']
        exact (hR.drop _).take _
      · intro v hv
        exact h1 v (by rw [hcc]; simp [List.mem_of_mem_drop (List.mem_of_mem_take hv)])
    · simp at hr
  · simp at hr
theorem range_heap {w w' : World} (h : w'.heap = w.heap) {b o : Nat} {vals : List Value} (hr : w.rangeAt b o vals) : w'.rangeAt b o vals:=by
  intro j v hj
  have:=hr j v hj
  simpa [World.cell?,h] using this
theorem elems_run {H : Heap} {w : World} (h : Sim E H w) {x : Value} {p : PV} {es : List PV} {sz : Nat} (he : elemsOf H p = some es) (hx : R E x p) (hfit : (es.all fun e => e.fits sz) = true) :
    ∃ vals,(∀ w' : World,w'.heap = w.heap → (Builtin.lenOf x).run P w' = .ok es.length w' ∧ (Builtin.firstCells sz es.length x).run P w' = .ok vals.toArray w') ∧ RL E vals (flat es) ∧ (∀ v ∈ vals,v.oneCell' = true):=by
  have hz : ∀ e ∈ es,e.cells.length = sz:=fun e he => (PV.fits_iff.1 (List.all_eq_true.1 hfit e he)).2.2
  unfold elemsOf at he
  split at he
  · simp at he; subst he
    cases hx
    exact ⟨[],fun w' _ => ⟨by simp [Builtin.lenOf],by simp [Builtin.firstCells]⟩,.nil,by simp⟩
  · simp at he; subst he
    rcases vs_inv hx with ⟨rfl,a,c,rfl,_,_⟩ | ⟨b,off,c,vals,rfl,hS,hR,hz',hl,_⟩
    · refine ⟨[],fun w' _ => ⟨by simp [Builtin.lenOf],?_⟩,.nil,by simp⟩
      cases a with
      | none => simp [Builtin.firstCells]
      | some a => simpa [Builtin.firstCells] using run_loadCells_list (P:=P) w' a [] (by simp)
    · obtain ⟨hr,h1⟩:=range_of_at h hS
      exact ⟨vals,fun w' hw' => ⟨by simp [Builtin.lenOf],firstCells_run (range_heap hw' hr) (by rw [hR.length,flat_len _ hz])⟩,hR,h1⟩
  · obtain ⟨hsz,⟨rfl,rfl,rfl,rfl,hm⟩ | ⟨b,c,rfl,hm,hl,hcp⟩⟩:=gsl_inv hx
    · unfold rowEs at he
      split at he
      · next sz' es0 frz hrow =>
        split at he
        · next hc =>
          simp at he; subst he
          have : es0 = []:=by simpa using hc.1
          subst this
          exact ⟨[],fun w' _ => ⟨by simp [Builtin.lenOf],by simp [Builtin.firstCells]⟩,.nil,by simp⟩
        · simp at he
      · simp at he
    · obtain ⟨vals,hr,hR,h1,hz',hlen⟩:=rowEs_range h he hm hsz
      refine ⟨vals,fun w' hw' => ⟨by simp [Builtin.lenOf,hlen],firstCells_run (range_heap hw' ?_) (by rw [hR.length,flat_len _ hz])⟩,hR,h1⟩
      by_cases hes : es = []
      · subst hes
        have:=hR.length
        simp at this
        subst this
        intro j v hj; simp at hj
      · exact hr
  · simp at he
theorem growBy_le (newLen : Nat) : ∀ (r c : Nat),Builtin.growBy newLen r c ≤ max c (newLen + (newLen + 768) / 4)
  | 0,c => by simp [Builtin.growBy]; omega
  | r + 1,c => by
    unfold Builtin.growBy
    split
    · omega
    · have:=growBy_le newLen r (c + (c + 768) / 4)
      omega
theorem nextslicecap_le {need old : Nat} (h : old < need) : Builtin.nextslicecap need old ≤ 2 * need + 768:=by
  unfold Builtin.nextslicecap
  split
  · omega
  · split
    · omega
    · have:=growBy_le need 4 old
      omega
theorem zero_one {t : TypeId} {z : PV} (h : zeroT P t = some z) (w : World) : ∃ v,(zeroValue t).run P w = .ok v w ∧ ∀ c ∈ v.cells,c.oneCell' = true:=by
  unfold zeroT at h
  simp only [Option.bind_eq_some_iff] at h
  obtain ⟨v,⟨i,hi,hz⟩,hv⟩:=h
  refine ⟨v,by simp [zeroValue,typeInfo,hi,hz],?_⟩
  have hR:=R.ofV (E:=Env.nul) hv
  refine hR.one ?_ ?_
  · rintro rfl
    unfold ofV at hv
    split at hv
    · simp at hv
    · unfold ofS at hv; split at hv <;> simp at hv
  · rintro ps rfl
    unfold ofV at hv
    split at hv
    · simp at hv
    · unfold ofS at hv; split at hv <;> simp at hv
theorem run_bytesT {t : TypeId} {n : Nat} (h : bytesT P t = some n) (w : World) : ∃ i,(typeInfo t).run P w = .ok i w ∧ i.bytes = n:=by
  unfold bytesT at h
  simp only [Option.map_eq_some_iff] at h
  obtain ⟨i,hi,rfl⟩:=h
  exact ⟨i,by simp [typeInfo,hi],rfl⟩
theorem append_new {w : World} {t u e ue : TypeId} {size bytes n sLen sCap : Nat} {z : PV} {ty : TypeId} {base : Option Addr} {x : Value} {old new : List Value} (ht : sliceT P t = some e) (hu : sliceT P u = some ue) (hs : szOf P e = some size) (hb : bytesT P e = some bytes) (hz : zeroT P e = some z) (hzf : z.fits size = true)
    (hn : (Builtin.lenOf x).run P w = .ok n w) (hne : sCap < sLen + n) (hmax : sLen + n ≤ maxN) (hmb : bytes ≤ maxB) (hx : ∀ w',w'.heap = w.heap → (Builtin.firstCells size n x).run P w' = .ok new.toArray w') (ho : ∀ w',w'.heap = w.heap → (Builtin.firstCells size sLen (.slice base sLen sCap)).run P w' = .ok old.toArray w') :
    ∃ (w' : World) (rest : List Value) (cp : Nat),(Builtin.append_ #[t,u] ty #[.slice base sLen sCap,x]).run P w = .ok (.slice (some ⟨w.heap.size,0,none⟩) (sLen + n) cp) (w'.alloc (.cells (old ++ new ++ rest).toArray e)) ∧
      w'.heap = w.heap ∧ w'.os = w.os ∧ w'.tape = w.tape ∧ w'.output = w.output ∧ (∀ v ∈ rest,v.oneCell' = true) ∧ sLen + n ≤ cp ∧ rest.length = (cp - (sLen + n)) * size:=by
  obtain ⟨i,hi,rfl⟩:=run_bytesT (P:=P) hb w
  have hib : ∀ w',(typeInfo e).run P w' = .ok i w':=by
    intro w'
    unfold typeInfo at hi ⊢
    simp only [Sem.run_bind,run_program,Result.andThen_ok] at hi ⊢
    cases hq : P.info? e with
    | none => simp [hq] at hi
    | some j => simp [hq] at hi ⊢; exact hi
  obtain ⟨zv,hzv,hz1⟩:=zero_one hz w
  have hzv' : ∀ w',(zeroValue e).run P w' = .ok zv w':=by
    intro w'
    unfold zeroValue at hzv ⊢
    simp only [Sem.run_bind,hib,Result.andThen_ok] at hzv ⊢
    cases hq : i.zero with
    | none => simp [hq] at hzv
    | some j => simp [hq] at hzv ⊢; exact hzv
  have hcap:=nextslicecap_le hne
  have hbig : ¬ (281474976710656 < Builtin.nextslicecap (sLen + n) sCap * i.bytes):=by
    have h1 : Builtin.nextslicecap (sLen + n) sCap * i.bytes ≤ (2 * maxN + 768) * maxB:=Nat.mul_le_mul (by omega) hmb
    have h2 : (2 * maxN + 768) * maxB ≤ 281474976710656:=by decide
    omega
  have hni : ¬ ((9223372036854775807 : Int) < (sLen : Int) + (n : Int)):=by
    intro h1
    have : maxN = 67108864:=rfl
    omega
  let t1:=w.tape w.drawn (.appendCap (sLen + n) sCap e)
  let cp:=(sLen + n) + t1 % (2 ^ 63 - (sLen + n))
  refine ⟨w.drew,(Builtin.zeroCells zv.cells (cp - (sLen + n))).toList,cp,?_,rfl,rfl,rfl,rfl,?_,by simp only [cp]; omega,?_⟩
  · have hund:=sliceT_und ht
    have hund2:=sliceT_und hu
    have hle : ¬ (sLen + n ≤ sCap):=by omega
    simp only [Builtin.append_,List.getElem?_toArray,List.getElem?_cons_zero,List.getElem?_cons_succ,Sem.run_bind,run_underlying hund,run_underlying hund2,run_szOf hs,Result.andThen_ok]
    have e1 : cp - (sLen + n) = t1 % (9223372036854775808 - (sLen + n)):=by simp only [cp]; rw [show (2 : Nat) ^ 63 = 9223372036854775808 from rfl]; omega
    simp [run_underlying hund2,hn,hle,hib,hbig,hni,hx w.drew rfl,ho w.drew rfl,hzv',newRow,Question.forced,Question.cut]
    rw [e1]
    have e2 : cp = sLen + n + t1 % (9223372036854775808 - (sLen + n)):=rfl
    have e3 : ∀ (A : Array Value),(old ++ (new ++ A.toList)).toArray = old.toArray ++ (new.toArray ++ A):=by intro A; apply Array.ext'; simp
    rw [e2,e3]
    exact ⟨rfl,rfl⟩
  · intro v hv
    simp only [Builtin.zeroCells,Array.toList_map,List.mem_map] at hv
    obtain ⟨j,hj,rfl⟩:=hv
    have hj' : j < (cp - (sLen + n)) * zv.cells.size:=by simpa using hj
    have hpos : 0 < zv.cells.size:=by
      rcases Nat.eq_zero_or_pos zv.cells.size with h' | h'
      · rw [h'] at hj'; simp at hj'
      · exact h'
    have hlt : j % zv.cells.size < zv.cells.size:=Nat.mod_lt _ hpos
    rw [getElem!_pos zv.cells _ hlt]
    exact hz1 _ (Array.getElem_mem hlt)
  · obtain ⟨zv',hzv2,hzR⟩:=run_zeroT (E:=Env.nul) hz w
    rw [hzv] at hzv2; cases hzv2
    simp [Builtin.zeroCells,(hzR.fits hzf).2.1]
theorem append_none {w : World} {t u e ue : TypeId} {size sLen sCap : Nat} {ty : TypeId} {base : Option Addr} {x : Value} (ht : sliceT P t = some e) (hu : sliceT P u = some ue) (hs : szOf P e = some size)
    (hn : (Builtin.lenOf x).run P w = .ok 0 w) (hx : (Builtin.firstCells size 0 x).run P w = .ok #[] w) (hle : sLen ≤ sCap) :
    (Builtin.append_ #[t,u] ty #[.slice base sLen sCap,x]).run P w = .ok (.slice base sLen sCap) w:=by
  have hund:=sliceT_und ht
  have hund2:=sliceT_und hu
  cases base <;> simp [Builtin.append_,run_underlying hund,run_underlying hund2,run_szOf hs,hn,hle,hx,storeCells]
theorem append_room {w : World} {t u e ue : TypeId} {size sLen sCap n b off : Nat} {ty : TypeId} {x : Value} {new : List Value} (ht : sliceT P t = some e) (hu : sliceT P u = some ue) (hs : szOf P e = some size)
    (hn : (Builtin.lenOf x).run P w = .ok n w) (hx : (Builtin.firstCells size n x).run P w = .ok new.toArray w) (hle : sLen + n ≤ sCap)
    (hc : ∀ j,j < new.length → (w.cell? ⟨b,off + sLen * size + j,none⟩).isSome = true) (hf : ∀ j,j < new.length → w.frozen? ⟨b,off + sLen * size + j,none⟩ = false) (h1 : ∀ v ∈ new,v.oneCell' = true) :
    (Builtin.append_ #[t,u] ty #[.slice (some ⟨b,off,none⟩) sLen sCap,x]).run P w = .ok (.slice (some ⟨b,off,none⟩) (sLen + n) sCap) (w.setCells b (off + sLen * size) new):=by
  have hund:=sliceT_und ht
  have hund2:=sliceT_und hu
  have:=run_storeCells_cells (P:=P) b (off + sLen * size) new 0 w (by simpa using hc) (by simpa using hf) h1
  simp [Builtin.append_,run_underlying hund,run_underlying hund2,run_szOf hs,hn,hle,hx,Addr.add_mid] at this ⊢
  simp [this]
def Env.grow (E : Env) (id ver b cp : Nat) : Env:={ E with mu:=fun i n => if i = id ∧ n = ver then some (some b) else E.mu i n,cp:=fun i n => if i = id ∧ n = ver then cp else E.cp i n }
theorem Env.grow_le {id ver b cp : Nat} (h : E.mu id ver = none) : E.le (E.grow id ver b cp) where
  S:=fun _ _ _ x => x
  mu:=by
    intro i n x hx
    have : ¬ (i = id ∧ n = ver):=by rintro ⟨rfl,rfl⟩; rw [h] at hx; cases hx
    simp [Env.grow,this,hx]
  be:=fun _ _ _ _ x => x
theorem append_run {H H' : Heap} {w : World} (h : Sim E H w) {t u e ue : TypeId} {sz bytes : Nat} {z px py r : PV} {x y : Value} {ty : TypeId} {es : List PV} (ht : sliceT P t = some e) (hu : sliceT P u = some ue) (hs : szOf P e = some sz) (hb : bytesT P e = some bytes) (hz : zeroT P e = some z) (hzf : z.fits sz = true)
    (he : elemsOf H py = some es) (hx : R E x px) (hy : R E y py) (ha : appendV sz bytes H px es = some (r,H')) :
    ∃ w' E' v,(Builtin.append_ #[t,u] ty #[x,y]).run P w = .ok v w' ∧ HTr E H w E' H' w' ∧ R E' v r:=by
  unfold appendV at ha
  split at ha
  case isFalse => simp at ha
  next hfit =>
  obtain ⟨new,hnn,hR,h1⟩:=elems_run (P:=P) h he hy hfit
  have hzn : ∀ e ∈ es,e.cells.length = sz:=fun e he => (PV.fits_iff.1 (List.all_eq_true.1 hfit e he)).2.2
  have hnl : new.length = es.length * sz:=by rw [hR.length,flat_len _ hzn]
  have hn:=(hnn w rfl).1
  have hnew:=(hnn w rfl).2
  have hnew':=fun w' hw' => (hnn w' hw').2
  have hempty : ∀ (base : Option Addr) (n c : Nat),es = [] → x = .slice base n c → n ≤ c → (Builtin.append_ #[t,u] ty #[x,y]).run P w = .ok x w:=by
    rintro base n c rfl rfl hle
    have : new = []:=by simpa using hnl
    subst this
    exact append_none ht hu hs (by simpa using hn) (by simpa using hnew) hle
  have hfresh : ∀ (base : Option Addr) (sLen sCap : Nat) (old : List Value) (es0 : List PV),x = .slice base sLen sCap → sCap < sLen + es.length → sLen + es.length ≤ maxN → bytes ≤ maxB →
      (∀ w' : World,w'.heap = w.heap → (Builtin.firstCells sz sLen (.slice base sLen sCap)).run P w' = .ok old.toArray w') → RL E old (flat es0) → (∀ v ∈ old,v.oneCell' = true) → (∀ e ∈ es0,e.cells.length = sz) → es0.length = sLen →
      ∃ (w' : World) (cp : Nat) (rest : List Value),(Builtin.append_ #[t,u] ty #[x,y]).run P w = .ok (.slice (some ⟨w.heap.size,0,none⟩) (sLen + es.length) cp) (w'.alloc (.cells (old ++ new ++ rest).toArray e)) ∧
        w'.heap = w.heap ∧ w'.os = w.os ∧ w'.tape = w.tape ∧ w'.output = w.output ∧ (∀ v ∈ old ++ new ++ rest,v.oneCell' = true) ∧ sLen + es.length ≤ cp ∧ (old ++ new ++ rest).toArray.size = cp * sz ∧ RL E (old ++ new) (flat (es0 ++ es)):=by
    rintro base sLen sCap old es0 rfl hlt hmax hmb hold hRo ho1 hzo hlo
    obtain ⟨w',rest,cp,hrun,g1,g2,g3,g4,g5,g6,g7⟩:=append_new (ty:=ty) ht hu hs hb hz hzf hn hlt hmax hmb hnew' hold
    refine ⟨w',cp,rest,hrun,g1,g2,g3,g4,?_,g6,?_,by rw [flat_append]; exact hRo.append hR⟩
    · intro v hv
      simp only [List.mem_append] at hv
      rcases hv with (hv | hv) | hv
      · exact ho1 v hv
      · exact h1 v hv
      · exact g5 v hv
    · have hol : old.length = sLen * sz:=by rw [hRo.length,flat_len _ hzo,hlo]
      simp only [List.size_toArray,List.length_append,hol,hnl,g7,← Nat.add_mul]
      congr 1; omega
  split at ha
  ·
    next sz0 id ver len =>
    split at ha
    case h_2 => simp at ha
    next sz' es0 frz hrow =>
    split at ha
    case isFalse => simp at ha
    next hc =>
    obtain ⟨hver,rfl,rfl,rfl,hmax,hmb⟩:=hc
    split at ha
    · next hes =>
      have hes' : es = []:=by simpa using hes
      simp at ha; obtain ⟨rfl,rfl⟩:=ha
      obtain ⟨_,⟨rfl,_⟩ | ⟨b,c,rfl,_,hl,_⟩⟩:=gsl_inv hx
      · exact ⟨w,E,_,hempty _ _ _ hes' rfl (Nat.le_refl _),.refl h,hx⟩
      · exact ⟨w,E,_,hempty _ _ _ hes' rfl hl,.refl h,hx⟩
    · next hes =>
      have hpos : 0 < es.length:=by
        rcases Nat.eq_zero_or_pos es.length with h' | h'
        · exact absurd (by simpa using h') hes
        · exact h'
      simp at ha; obtain ⟨rfl,rfl⟩:=ha
      obtain ⟨hsz,hz0,hbeyond,hblk⟩:=h.row _ _ hrow
      have hfrz : frz ≤ es0.length:=by
        rcases hblk with ⟨_,_,rfl⟩ | ⟨_,_,_,_,_,_,_,_,_,hf⟩
        · exact Nat.zero_le _
        · exact hf
      have hmu0 : E.mu id (len + es.length) = none:=hbeyond _ (by omega)
      have hle:=Env.grow_le (b:=w.heap.size) (cp:=0) hmu0
      have hnewrow : ∀ (base : Option Addr) (sCap : Nat) (old : List Value),x = .slice base len sCap → sCap < len + es.length → (∀ w' : World,w'.heap = w.heap → (Builtin.firstCells sz0 len (.slice base len sCap)).run P w' = .ok old.toArray w') →
          RL E old (flat es0) → (∀ v ∈ old,v.oneCell' = true) → ∃ w' E' v,(Builtin.append_ #[t,u] ty #[x,y]).run P w = .ok v w' ∧ HTr E H w E' (H.set id (.gro sz0 (es0 ++ es) frz)) w' ∧ R E' v (.gsl sz0 id (len + es.length) 0 (len + es.length)):=by
        intro base sCap old hxe hlt hold hRo ho1
        obtain ⟨w',cp,rest,hrun,g1,g2,g3,g4,g5,g6,g7,g8⟩:=hfresh base len sCap old es0 hxe hlt hmax hmb hold hRo ho1 hz0 hver
        have hle:=Env.grow_le (b:=w.heap.size) (cp:=cp) hmu0
        refine ⟨_,E.grow id (len + es.length) w.heap.size cp,_,hrun,?_,?_⟩
        · have hheap : ∀ b,b < w.heap.size → (w'.alloc (.cells (old ++ new ++ rest).toArray e)).heap[b]? = w.heap[b]?:=by
            intro b hb; rw [heap_alloc_old (by rw [g1]; exact hb),g1]
          have hnewb : (w'.alloc (.cells (old ++ new ++ rest).toArray e)).heap[w.heap.size]? = some (.cells (old ++ new ++ rest).toArray e):=by
            have:=heap_alloc_new (w:=w') (o:=.cells (old ++ new ++ rest).toArray e)
            rwa [g1] at this
          have hmu1 : (E.grow id (len + es.length) w.heap.size cp).mu id (len + es.length) = some (some w.heap.size):=by simp [Env.grow]
          have hlen2 : (es0 ++ es).length = len + es.length:=by simp [hver]
          refine HTr.setRow h hrow hle (fun i n hi => by simp [Env.grow,hi]) (fun _ _ => rfl) rfl ?_ (fun _ _ _ => rfl) ?_ (fun b hb _ => hheap b hb) (by simp [g1]) g2 g3 g4 ?_
          · intro b o v hv
            obtain ⟨k1,k2⟩:=h.stab b o v hv
            exact ⟨by rw [cell_of_heap (hheap b (cell_lt k1))]; exact k1,k2⟩
          · intro b hb'
            simp only [Env.blk,hlen2,hmu1] at hb'
            simp at hb'; subst hb'; exact .inr (Nat.le_refl _)
          · refine ⟨hsz,?_,?_,.inr ⟨w.heap.size,_,e,by rw [hlen2]; exact hmu1,hnewb,⟨old ++ new,rest,by simp,g8.mono hle⟩,by simpa using g5,fun o _ => S_new h (Nat.le_refl _) o,?_,?_⟩⟩
            · intro e' he'
              rcases List.mem_append.1 he' with h' | h'
              · exact hz0 e' h'
              · exact hzn e' h'
            · intro n hn'
              rw [hlen2] at hn'
              have : n ≠ len + es.length:=by omega
              simp [Env.grow,this]
              exact hbeyond n (by omega)
            · rw [hlen2,g7]; simp [Env.grow]
            · rw [hlen2,← hver]; have:=hfrz; omega
        · exact .gsl _ _ _ _ _ _ _ _ (by simp [Env.grow]) hsz g6 (by simp) (by simp [Env.grow])
      obtain ⟨_,⟨hxe,h0,_,_,hm⟩ | ⟨b,c,hxe,hm,hl,hcp⟩⟩:=gsl_inv hx
      · subst h0
        have : es0 = []:=by simpa using hver
        subst this
        exact hnewrow none 0 [] hxe (by omega) (fun w' _ => by simp [Builtin.firstCells]) (by simpa using RL.nil) (by simp)
      · simp only [Nat.zero_mul,Nat.add_zero] at hxe hcp
        rw [← hver] at hm
        obtain ⟨_,_,cc,ct,vals,rest,hh,hcc,hR0,h10,hS0,hsize,hfz⟩:=h.gro hrow hm
        have hvl : vals.length = len * sz0:=by rw [hR0.length,flat_len _ hz0,hver]
        have hrange : w.rangeAt b 0 vals:=by
          intro j v hj
          rw [cell_of_cells hh,Nat.zero_add]
          have e1 : cc[j]? = cc.toList[j]?:=by simp
          rw [e1,hcc,List.getElem?_append_left (List.getElem?_eq_some_iff.1 hj).1]
          exact hj
        by_cases hroom : len + es.length ≤ c
        ·
          rw [hver,← hcp] at hsize
          have hfits : len * sz0 + new.length ≤ cc.size:=by
            rw [hsize,hnl,← Nat.add_mul]; exact Nat.mul_le_mul_right _ hroom
          have hcell : ∀ j,j < new.length → (w.cell? ⟨b,0 + len * sz0 + j,none⟩).isSome = true:=by
            intro j hj; rw [cell_of_cells hh]; simp; omega
          have hfz : ∀ j,j < new.length → w.frozen? ⟨b,0 + len * sz0 + j,none⟩ = false:=fun j _ => frozen_of_cells hh _
          have hrun:=append_room (P:=P) (ty:=ty) (sCap:=c) ht hu hs hn hnew hroom hcell hfz h1
          rw [← hxe] at hrun
          refine ⟨_,E.grow id (len + es.length) b c,_,hrun,?_,?_⟩
          · simp only [Nat.zero_add]
            have hle:=Env.grow_le (b:=b) (cp:=c) hmu0
            have hheap:=heap_setCells (b:=b) (t:=ct) new (len * sz0) w cc hh (by omega)
            have hkeep : ∀ b',b' ≠ b → (w.setCells b (len * sz0) new).heap[b']? = w.heap[b']?:=fun b' hne => heap_setCells_other hne new _ w
            obtain ⟨r1,r2,r3,r4⟩:=setCells_rest (b:=b) new (len * sz0) w
            have hmu1 : (E.grow id (len + es.length) b c).mu id (len + es.length) = some (some b):=by simp [Env.grow]
            have hlen2 : (es0 ++ es).length = len + es.length:=by simp [hver]
            have hblk0 : E.blk id (.gro sz0 es0 frz) = some b:=by simp [Env.blk,hm]
            have hlist : cc.toList.take (len * sz0) ++ (new ++ cc.toList.drop (len * sz0 + new.length)) = (vals ++ new) ++ cc.toList.drop (len * sz0 + new.length):=by
              have : cc.toList.take (len * sz0) = vals:=by rw [hcc,← hvl,List.take_left']; rfl
              rw [this]; simp
            refine HTr.setRow h hrow hle (fun i n hi => by simp [Env.grow,hi]) (fun _ _ => rfl) rfl ?_ (fun _ _ _ => rfl) ?_ (fun b' _ hne => hkeep b' fun e => hne (e ▸ hblk0)) (by omega) r1 r2 r3 ?_
            · intro b' o v hv
              obtain ⟨k1,k2⟩:=h.stab b' o v hv
              refine ⟨?_,k2⟩
              by_cases hbb : b' = b
              · subst hbb
                rw [cell_of_cells hheap]
                rw [cell_of_cells hh] at k1
                have ho : o < frz * sz0:=by
                  rcases Nat.lt_or_ge o (frz * sz0) with h' | h'
                  · exact h'
                  · have:=hS0 o h'; rw [show E.S _ o = some v from hv] at this; cases this
                have ho2 : o < len * sz0:=Nat.lt_of_lt_of_le ho (by rw [← hver]; exact Nat.mul_le_mul_right _ hfrz)
                rw [List.getElem?_toArray,List.getElem?_append_left (by simp; omega),List.getElem?_take_of_lt ho2]
                simpa using k1
              · rw [cell_of_heap (hkeep b' hbb)]; exact k1
            · intro b' hb'
              simp only [Env.blk,hlen2,hmu1] at hb'
              simp at hb'; subst hb'; exact .inl hblk0
            · refine ⟨hsz,?_,?_,.inr ⟨b,_,ct,by rw [hlen2]; exact hmu1,hheap,⟨vals ++ new,cc.toList.drop (len * sz0 + new.length),by simpa using hlist,by rw [flat_append]; exact (hR0.append hR).mono hle⟩,?_,hS0,?_,by rw [hlen2]; omega⟩⟩
              · intro e' he'
                rcases List.mem_append.1 he' with h' | h'
                · exact hz0 e' h'
                · exact hzn e' h'
              · intro n hn'
                rw [hlen2] at hn'
                have : n ≠ len + es.length:=by omega
                simp [Env.grow,this]
                exact hbeyond n (by omega)
              · intro v hv
                rw [show (cc.toList.take (len * sz0) ++ (new ++ cc.toList.drop (len * sz0 + new.length))).toArray.toList = _ from rfl] at hv
                simp only [List.mem_append] at hv
                rcases hv with h' | h' | h'
                · exact h10 v (List.mem_of_mem_take h')
                · exact h1 v h'
                · exact h10 v (List.mem_of_mem_drop h')
              · rw [hlen2]; simp [Env.grow]; omega
          · exact .gsl _ _ _ _ _ _ _ _ (by simp [Env.grow]) hsz hroom (by simp) (by simp [Env.grow])
        · exact hnewrow _ c vals hxe (by omega) (fun w' hw' => firstCells_run (range_heap hw' hrange) hvl) hR0 (fun v hv => h10 v (by rw [hcc]; simp [hv]))
  ·
    split at ha
    case isFalse => simp at ha
    next hc =>
    split at ha
    · next hes =>
      have hes' : es = []:=by simpa using hes
      simp at ha; obtain ⟨rfl,rfl⟩:=ha
      cases hx
      exact ⟨w,E,_,hempty _ _ _ hes' rfl (Nat.le_refl _),.refl h,.nils⟩
    · next hes =>
      have hpos : 0 < es.length:=by
        rcases Nat.eq_zero_or_pos es.length with h' | h'
        · exact absurd (by simpa using h') hes
        · exact h'
      simp at ha; obtain ⟨rfl,rfl⟩:=ha
      cases hx
      obtain ⟨w',cp,rest,hrun,g1,g2,g3,g4,g5,g6,g7,g8⟩:=hfresh none 0 0 [] [] rfl (by omega) (by omega) hc.2 (fun w' _ => by simp [Builtin.firstCells]) (by simpa using RL.nil) (by simp) (by simp) rfl
      have k:=HTr.addGro (w1:=w'.alloc (.cells ([] ++ new ++ rest).toArray e)) h sz es ([] ++ new ++ rest).toArray e ([] ++ new) rest cp g7 hzn (by simp) (by simpa using g8) (by simpa using g5) (by show w'.heap.push _ = w.heap.push _; rw [g1]) g2 g3 g4
      refine ⟨_,_,_,hrun,k,?_⟩
      simp only [Nat.zero_add] at g6 ⊢
      exact .gsl _ _ _ _ _ _ _ _ (by simp [Env.addRow]) (by simp [Env.addRow]) g6 (by simp) (by simp [Env.addRow])
  ·
    next sz' es0 c =>
    split at ha
    case isFalse => simp at ha
    next hc =>
    obtain ⟨rfl,hsz',hmax,hmb⟩:=hc
    split at ha
    · next hes =>
      have hes' : es = []:=by simpa using hes
      simp at ha; obtain ⟨rfl,rfl⟩:=ha
      rcases vs_inv hx with ⟨rfl,a,c,rfl,_,_⟩ | ⟨b,off,c,vals,rfl,_,_,_,hl,_⟩
      · exact ⟨w,E,_,hempty _ _ _ hes' rfl (Nat.zero_le _),.refl h,hx⟩
      · exact ⟨w,E,_,hempty _ _ _ hes' rfl hl,.refl h,hx⟩
    · next hes =>
      have hpos : 0 < es.length:=by
        rcases Nat.eq_zero_or_pos es.length with h' | h'
        · exact absurd (by simpa using h') hes
        · exact h'
      simp at ha; obtain ⟨rfl,rfl⟩:=ha
      have fin : ∀ (base : Option Addr) (sCap : Nat) (old : List Value),x = .slice base es0.length sCap → sCap < es0.length + es.length → (∀ w' : World,w'.heap = w.heap → (Builtin.firstCells sz es0.length (.slice base es0.length sCap)).run P w' = .ok old.toArray w') →
          RL E old (flat es0) → (∀ v ∈ old,v.oneCell' = true) → (∀ e ∈ es0,e.cells.length = sz) →
          ∃ w' E' v,(Builtin.append_ #[t,u] ty #[x,y]).run P w = .ok v w' ∧ HTr E H w E' (H.add (.gro sz (es0 ++ es) 0)) w' ∧ R E' v (.gsl sz H.next (es0.length + es.length) 0 (es0.length + es.length)):=by
        intro base sCap old hxe hlt hold hRo ho1 hzo
        obtain ⟨w',cp,rest,hrun,g1,g2,g3,g4,g5,g6,g7,g8⟩:=hfresh base es0.length sCap old es0 hxe hlt hmax hmb hold hRo ho1 hzo rfl
        have k:=HTr.addGro (w1:=w'.alloc (.cells (old ++ new ++ rest).toArray e)) h sz (es0 ++ es) (old ++ new ++ rest).toArray e (old ++ new) rest cp g7 (by
          intro e' he'
          rcases List.mem_append.1 he' with h' | h'
          · exact hzo e' h'
          · exact hzn e' h') (by simp) g8 (by simpa using g5) (by show w'.heap.push _ = w.heap.push _; rw [g1]) g2 g3 g4
        refine ⟨_,_,_,hrun,k,?_⟩
        exact .gsl _ _ _ _ _ _ _ _ (by simp [Env.addRow]) (by simp [Env.addRow]) g6 (by simp) (by simp [Env.addRow])
      rcases vs_inv hx with ⟨rfl,a,c,rfl,hcap,_⟩ | ⟨b,off,c,vals,rfl,hS,hR0,hz0,hl,hcap⟩
      · have hc0:=hcap _ rfl
        simp at hc0; subst hc0
        refine fin a 0 [] rfl (by omega) ?_ (by simpa using RL.nil) (by simp) (by simp)
        intro w' _
        cases a with
        | none => simp [Builtin.firstCells]
        | some a => simpa [Builtin.firstCells] using run_loadCells_list (P:=P) w' a [] (by simp)
      · have hc0:=hcap _ rfl
        subst hc0
        obtain ⟨hr,h10⟩:=range_of_at h hS
        by_cases he0 : es0 = []
        · subst he0
          have hv0:=hR0.length
          simp at hv0; subst hv0
          refine fin _ _ [] rfl (by simpa using hpos) ?_ (by simpa using RL.nil) (by simp) (by simp)
          intro w' _
          simpa [Builtin.firstCells] using run_loadCells_list (P:=P) w' ⟨b,off,none⟩ [] (by simp)
        · have hse : sz' = sz:=hsz'.resolve_right he0
          subst hse
          exact fin _ _ vals rfl (by omega) (fun w' hw' => firstCells_run (range_heap hw' hr) (by rw [hR0.length,flat_len _ hz0])) hR0 h10 hz0
  · simp at ha
end GoV
namespace GoV
open Go
variable {P : Program} {E : Env}
theorem range_mod (z : Array Value) (n sz : Nat) (hz : z.size = sz) (h0 : sz ≠ 0) : (Array.range (n * sz)).map (fun i => z[i % z.size]!) = ((List.replicate n z.toList).flatten).toArray:=by
  apply Array.ext'
  simp only [Array.toList_map,Array.toList_range]
  subst hz
  induction n with
  | zero => simp
  | succ n ih =>
    rw [Nat.succ_mul,List.range_add,List.map_append,ih,List.replicate_succ',List.flatten_append]
    congr 1
    simp only [List.map_map,List.flatten_cons,List.flatten_nil,List.append_nil]
    apply List.ext_getElem?
    intro i
    simp only [List.getElem?_map,List.getElem?_range,Function.comp]
    by_cases hi : i < z.size
    · have e : (n * z.size + i) % z.size = i:=by rw [Nat.add_comm,Nat.add_mul_mod_self_right,Nat.mod_eq_of_lt hi]
      simp [hi,e,List.getElem?_range,getElem!_pos z i hi]
    · simp [hi,List.getElem?_range]
theorem flat_replicate (n : Nat) (z : PV) : flat (List.replicate n z) = (List.replicate n z.cells).flatten:=by
  induction n with
  | zero => rfl
  | succ n ih => rw [List.replicate_succ,flat_cons,ih,List.replicate_succ,List.flatten_cons]
theorem RL.rep {l : List Value} {ps : List PV} (h : RL E l ps) : ∀ n,RL E (List.replicate n l).flatten (List.replicate n ps).flatten
  | 0 => .nil
  | n + 1 => by rw [List.replicate_succ,List.replicate_succ,List.flatten_cons,List.flatten_cons]; exact h.append (RL.rep h n)
theorem buildSlice_run {H : Heap} {w : World} (h : Sim E H w) {ρ : Operand → Value} {ev : Operand → PV} (hρ : ∀ x,R E (ρ x) (ev x)) {t e : TypeId} {sz len : Nat} {z : PV} {parts : Array (Nat × Operand)} {es : List PV} (ht : sliceT P t = some e) (hs : szOf P e = some sz) (hz : zeroT P e = some z) (hzf : z.fits sz = true) (h0 : sz ≠ 0) (hlen : len * sz ≤ 16777216)
    (hf : fillSl sz (parts.toList.map fun (i,x) => (i,ev x)) (List.replicate len z) = some es) :
    ∃ c,(Instr.buildSlice t len (parts.map fun (i,x) => (i,ρ x))).run P w = .ok (.slice (some ⟨w.heap.size,0,none⟩) len len) (w.alloc (.cells c e)) ∧ RL E c.toList (flat es) ∧ (∀ v ∈ c.toList,v.oneCell' = true) ∧ (∀ e ∈ es,e.cells.length = sz) ∧ es.length = len ∧ c.size = len * sz:=by
  obtain ⟨zv,hzr,hzR⟩:=run_zeroT (E:=E) hz w
  obtain ⟨hzR1,hzs,hz1⟩:=hzR.fits hzf
  have hpl : z.cells.length = sz:=(PV.fits_iff.1 hzf).2.2
  obtain ⟨cells',hc,hR,h1,hzz,hle⟩:=fillSl_R (E:=E) h0 (parts.toList.map fun (i,x) => (i,ρ x)) _ ((List.replicate len zv.cells.toList).flatten) _ _ hf (by rw [flat_replicate]; exact hzR1.rep len)
    (by
      intro c hc
      simp only [List.mem_flatten] at hc
      obtain ⟨l,hl,hcl⟩:=hc
      rw [(List.mem_replicate.1 hl).2] at hcl
      exact hz1 c hcl)
    (by
      intro e he
      rw [(List.mem_replicate.1 he).2]; exact hpl) (by simp)
    (by
      intro i a b ha hb
      simp only [List.getElem?_map,Option.map_eq_some_iff] at ha hb
      obtain ⟨x,hx,rfl⟩:=ha
      obtain ⟨y,hy,rfl⟩:=hb
      rw [hx] at hy; cases hy
      exact hρ _)
  have hund:=sliceT_und ht
  have hlen' : es.length = len:=by simpa using hle
  refine ⟨cells'.toArray,?_,hR,h1,hzz,hlen',by simp [hR.length,flat_len _ hzz,hlen']⟩
  have hnb : ¬ (16777216 < len * sz):=by omega
  have hnb' : ¬ (len * sz > 2 ^ 24):=by omega
  have hfin : ∀ (zz : Array Value),(Array.range (len * sz)).map (fun i => zz[i % zz.size]!) = ((List.replicate len zv.cells.toList).flatten).toArray →
      ((match Instr.fill (fun i => some (i * sz,sz)) ((Array.range (len * sz)).map (fun i => zz[i % zz.size]!)) (parts.map fun (i,x) => (i,ρ x)).toList with
        | some cells => do pure (.slice (some (← newRow e cells)) len len)
        | _ => stuck "buildSlice: a part of the wrong size" : Sem Value)).run P w = .ok (.slice (some ⟨w.heap.size,0,none⟩) len len) (w.alloc (.cells cells'.toArray e)):=by
    intro zz hzz
    rw [hzz,Array.toList_map,hc]
    simp [newRow]
  unfold Instr.buildSlice
  simp only [Sem.run_bind,run_underlying hund w,run_szOf hs w,Result.andThen_ok]
  rw [if_neg hnb']
  by_cases hl0 : len * sz = 0
  · rw [if_pos hl0]
    simp only [Sem.run_bind,Sem.run_pure,Result.andThen_ok]
    refine hfin #[] ?_
    have hl00 : len = 0:=by
      rcases Nat.mul_eq_zero.1 hl0 with h' | h'
      · exact h'
      · exact absurd h' h0
    subst hl00
    apply Array.ext'
    simp
  · rw [if_neg hl0]
    simp only [Sem.run_bind,Sem.run_pure,hzr,Result.andThen_ok]
    exact hfin zv.cells (range_mod zv.cells len sz hzs h0)
theorem makeSlice_run {H : Heap} {w : World} (_h : Sim E H w) {t e : TypeId} {sz bytes n : Nat} {z : PV} (ht : sliceT P t = some e) (hs : szOf P e = some sz) (hb : bytesT P e = some bytes) (hz : zeroT P e = some z) (hzf : z.fits sz = true) (h0 : sz ≠ 0) (hn : n ≤ maxN) (hmb : bytes ≤ maxB) :
    ∃ c,(Instr.makeSlice t (.int .i64 n) (.int .i64 n)).run P w = .ok (.slice (some ⟨w.heap.size,0,none⟩) n n) (w.alloc (.cells c e)) ∧ RL E c.toList (flat (List.replicate n z)) ∧ (∀ v ∈ c.toList,v.oneCell' = true) ∧ c.size = n * sz:=by
  obtain ⟨zv,hzr,hzR⟩:=run_zeroT (E:=E) hz w
  obtain ⟨hzR1,hzs,hz1⟩:=hzR.fits hzf
  have hund:=sliceT_und ht
  obtain ⟨i,hi,rfl⟩:=run_bytesT (P:=P) hb w
  have hmN : maxN = 67108864:=rfl
  have hmB : maxB = 65536:=rfl
  have hwrap : IntKind.i64.wrap (n : Int) = n:=IntWalk.i64_in _ (by omega)
  have hbn : ¬ ((i.bytes : Int) * (n : Int) > 2 ^ 48):=by
    have h1 : i.bytes * n ≤ maxB * maxN:=Nat.mul_le_mul hmb hn
    have h2 : maxB * maxN ≤ 281474976710656:=by decide
    have : i.bytes * n ≤ 281474976710656:=Nat.le_trans h1 h2
    have h3 : ((i.bytes * n : Nat) : Int) ≤ ((281474976710656 : Nat) : Int):=Int.ofNat_le.2 this
    rw [Int.natCast_mul] at h3
    omega
  have hneg : ¬ ((n : Int) < 0):=by omega
  refine ⟨((List.replicate n zv.cells.toList).flatten).toArray,?_,by rw [flat_replicate]; exact hzR1.rep n,?_,?_⟩
  · have hfin : ∀ (zz : Array Value),(Array.range (n * sz)).map (fun i => zz[i % zz.size]!) = ((List.replicate n zv.cells.toList).flatten).toArray →
      ((do
        let a ← newRow e ((Array.range (n * sz)).map (fun i => zz[i % zz.size]!))
        pure (.slice (some a) n n) : Sem Value)).run P w = .ok (.slice (some ⟨w.heap.size,0,none⟩) n n) (w.alloc (.cells ((List.replicate n zv.cells.toList).flatten).toArray e)):=by
      intro zz hzz
      rw [hzz]
      simp [newRow]
    unfold Instr.makeSlice
    simp only [Sem.run_bind,run_underlying hund w,Result.andThen_ok,asInt,asIntOf,Sem.run_pure,hi,hwrap]
    have hb1 : (decide ((n : Int) < 0) || decide ((i.bytes : Int) * (n : Int) > 2 ^ 48) || decide ((n : Int) < 0) || decide ((n : Int) > (n : Int))) = false:=by
      simp [hneg]; omega
    rw [hb1]
    simp only [Bool.false_eq_true,if_false,Sem.run_bind,run_askRoom,Result.andThen_ok,run_szOf hs w,Int.toNat_natCast]
    by_cases hl0 : n * sz = 0
    · rw [if_pos hl0]
      simp only [Sem.run_bind,Sem.run_pure,Result.andThen_ok]
      have hl00 : n = 0:=by
        rcases Nat.mul_eq_zero.1 hl0 with h' | h'
        · exact h'
        · exact absurd h' h0
      subst hl00
      have:=hfin #[] (by apply Array.ext'; simp)
      simpa using this
    · rw [if_neg hl0]
      simp only [Sem.run_bind,Sem.run_pure,hzr,Result.andThen_ok]
      have:=hfin zv.cells (range_mod zv.cells n sz hzs h0)
      simpa using this
  · intro c hc
    simp only [List.mem_flatten] at hc
    obtain ⟨l,hl,hcl⟩:=hc
    rw [(List.mem_replicate.1 hl).2] at hcl
    exact hz1 c hcl
  · simp [List.length_flatten,hzs]
theorem mapT_und {t k e : TypeId} (h : mapT P t = some (k,e)) : P.underlying t = some (.map k e):=by
  unfold mapT at h
  split at h
  · next hu => simp at h; obtain ⟨rfl,rfl⟩:=h; exact hu
  · simp at h
def FR (E : Env) : Option (Nat × PV) → Option (Nat × Value) → Prop
  | none,none => True
  | some (i,v),some (j,x) => i = j ∧ R E x v
  | _,_ => False
theorem findAsking_run {t : TypeId} {kv : Value} {k : PV} (hk : R E kv k) (w : World) : ∀ (mes : List MapEntry) (es : List (PV × PV)) (i : Nat) (r : Option (Nat × PV)),findPV P t k es i = some r → RL E (mes.map (·.key)) (es.map (·.1)) → RL E (mes.map (·.val)) (es.map (·.2)) →
    ∃ rv,(Instr.findAsking t kv mes i).run P w = .ok rv w ∧ FR E r rv
  | [],[],i,r,h,_,_ => by
    simp [findPV] at h; subst h
    exact ⟨none,by simp [Instr.findAsking],trivial⟩
  | [],_ :: _,_,_,_,h1,_ => by cases h1
  | _ :: _,[],_,_,_,h1,_ => by cases h1
  | m :: mes,e :: es,i,r,h,h1,h2 => by
    simp only [List.map_cons] at h1 h2
    cases h1 with
    | cons _ _ _ _ a1 a2 =>
    cases h2 with
    | cons _ _ _ _ b1 b2 =>
    simp only [findPV,Option.bind_eq_some_iff] at h
    obtain ⟨b,hb,h⟩:=h
    have he:=eqPV_run (E:=E) _ _ _ _ _ _ _ hb hk a1 w
    cases b with
    | true =>
      simp at h; subst h
      exact ⟨some (i,m.val),by simp [Instr.findAsking,Op.equal,he],rfl,b1⟩
    | false =>
      simp at h
      obtain ⟨rv,hr,hf⟩:=findAsking_run hk w mes es (i + 1) r h a2 b2
      exact ⟨rv,by simp [Instr.findAsking,Op.equal,he,hr],hf⟩
theorem sameNow_run' {t : TypeId} {kd : TypeDesc} (hu : P.underlying t = some kd) {x y : Value} {b : Bool} (h : Instr.sameNow kd x y = some b) (w : World) (d : Nat) : (Op.equalIn (d + 1) t x y).run P w = .ok b w:=by
  unfold Instr.sameNow at h
  split at h
  · split at h
    · next hk => simp at h; subst h; subst hk; simp [Op.equalIn,run_underlying hu w]
    · simp at h
  · simp at h; subst h; simp [Op.equalIn,run_underlying hu w]
  · simp at h; subst h; simp [Op.equalIn,run_underlying hu w]
  · simp at h
theorem sameNow_run {t : TypeId} {kd : TypeDesc} (hu : P.underlying t = some kd) {x y : Value} {b : Bool} (h : Instr.sameNow kd x y = some b) (w : World) : (Op.equalIn Op.maxDepth t x y).run P w = .ok b w:=sameNow_run' hu h w 9999
theorem findNow_run {t : TypeId} {kd : TypeDesc} (hu : P.underlying t = some kd) {kv : Value} {k : PV} (hk : R E kv k) (w : World) : ∀ (mes : List MapEntry) (es : List (PV × PV)) (i : Nat) (r : Option (Nat × PV)) (rv : Option (Nat × Value)),findPV P t k es i = some r → RL E (mes.map (·.key)) (es.map (·.1)) → RL E (mes.map (·.val)) (es.map (·.2)) →
    Instr.findNow kd kv mes i = some rv → FR E r rv
  | [],[],i,r,rv,h,_,_,hn => by
    simp [findPV] at h; subst h
    simp [Instr.findNow] at hn; subst hn; trivial
  | [],_ :: _,_,_,_,_,h1,_,_ => by cases h1
  | _ :: _,[],_,_,_,_,h1,_,_ => by cases h1
  | m :: mes,e :: es,i,r,rv,h,h1,h2,hn => by
    simp only [List.map_cons] at h1 h2
    cases h1 with
    | cons _ _ _ _ a1 a2 =>
    cases h2 with
    | cons _ _ _ _ b1 b2 =>
    simp only [findPV,Option.bind_eq_some_iff] at h
    obtain ⟨b,hb,h⟩:=h
    have he:=eqPV_run (E:=E) _ _ _ _ _ _ _ hb hk a1 w
    simp only [Instr.findNow] at hn
    split at hn
    · next hs =>
      have:=sameNow_run hu hs w
      rw [he] at this
      simp at this; subst this
      simp at h hn; subst h; subst hn
      exact ⟨rfl,b1⟩
    · next hs =>
      have:=sameNow_run hu hs w
      rw [he] at this
      simp at this; subst this
      simp at h
      exact findNow_run hu hk w mes es (i + 1) r rv h a2 b2 hn
    · simp at hn
theorem findKey_run {t : TypeId} {kd : TypeDesc} (hu : P.underlying t = some kd) {kv : Value} {k : PV} (hk : R E kv k) (w : World) {mes : List MapEntry} {es : List (PV × PV)} {r : Option (Nat × PV)} (h : findPV P t k es 0 = some r) (h1 : RL E (mes.map (·.key)) (es.map (·.1))) (h2 : RL E (mes.map (·.val)) (es.map (·.2))) :
    ∃ rv,(Instr.findKey t kv mes).run P w = .ok rv w ∧ FR E r rv:=by
  unfold Instr.findKey
  cases hn : Instr.findNow kd kv mes 0 with
  | some rv => exact ⟨rv,by simp [run_underlying hu w,hn],findNow_run hu hk w mes es 0 r rv h h1 h2 hn⟩
  | none =>
    obtain ⟨rv,hr,hf⟩:=findAsking_run (P:=P) hk w mes es 0 r h h1 h2
    exact ⟨rv,by simp [run_underlying hu w,hn,hr],hf⟩
theorem scalar_check {t : TypeId} (h : scalarT P t = true) (e : Bool) (n : Nat) (v : Value) (w : World) : (Instr.checkKey e (n + 1) t v).run P w = .ok () w:=by
  unfold scalarT at h
  split at h
  · next hu => simp [Instr.checkKey,run_underlying hu w]
  · next hu => simp [Instr.checkKey,run_underlying hu w]
  · next hu => simp [Instr.checkKey,run_underlying hu w]
  · simp at h
theorem checkFs {n : Nat} {e : Bool} {xs : List Value} {ps : List PV} (hx : RL E xs ps) (h1 : ∀ c ∈ xs,c.oneCell' = true) (w : World) : ∀ (fs : List Field),(fs.all fun f => scalarT P f.type && (partPV P f.type ps f.offset).isSome) = true →
    ((do
      for f in fs do
        if f.name ≠ "_" then Instr.checkKey e (n + 1) f.type (← part f.type xs.toArray f.offset)
      : Sem Unit)).run P w = .ok () w
  | [],_ => by simp
  | f :: fs,h => by
    simp only [List.all_cons,Bool.and_eq_true] at h
    obtain ⟨⟨hs,hp⟩,h⟩:=h
    obtain ⟨p,hp⟩:=Option.isSome_iff_exists.1 hp
    obtain ⟨v,hv,_⟩:=part_R (ρ:=fun _ => .nilFunc) (ev:=fun _ => .any) (fun _ => .any _) hp hx h1 w
    have ih:=checkFs (n:=n) (e:=e) hx h1 w fs h
    by_cases hn : f.name = "_"
    · simp [hn] at ih ⊢; exact ih
    · simp [hn,hv,scalar_check hs] at ih ⊢; exact ih
theorem checkKey_run' {t : TypeId} {k : PV} {kv : Value} (h : keyChk P t k = true) (hk : R E kv k) (e : Bool) (w : World) (n : Nat) : (Instr.checkKey e (n + 2) t kv).run P w = .ok () w:=by
  unfold keyChk at h
  split at h
  · next hu => exact scalar_check (by simp [scalarT,hu]) e (n + 1) kv w
  · next hu => exact scalar_check (by simp [scalarT,hu]) e (n + 1) kv w
  · next fs cs hu =>
    cases hk
    next xs h1 hl =>
    have:=checkFs (P:=P) (n:=n) (e:=e) hl h1 w fs.toList h
    unfold Instr.checkKey
    simp only [Sem.run_bind,run_underlying hu w,Result.andThen_ok]
    simp at this ⊢
    simp [this]
  · simp at h
theorem checkKey_run {t : TypeId} {k : PV} {kv : Value} (h : keyChk P t k = true) (hk : R E kv k) (e : Bool) (w : World) : (Instr.checkKey e 10000 t kv).run P w = .ok () w:=checkKey_run' h hk e w 9998
theorem plainC_R {p q : PV} {v x : Value} (h : plainC p q = true) (hv : R E v p) (hx : R E x q) (n : Nat) : Instr.sameBits n v x = true:=by
  unfold plainC at h
  split at h
  · cases hv; cases hx
    simp only [Bool.and_eq_true,beq_iff_eq] at h
    obtain ⟨rfl,rfl⟩:=h
    cases n <;> simp [Instr.sameBits]
  · cases hv; cases hx
    simp only [beq_iff_eq] at h
    subst h
    cases n <;> simp [Instr.sameBits]
  · cases h
theorem plainL_R (n : Nat) : ∀ {ps qs : List PV} {vs xs : List Value},plainL ps qs = true → RL E vs ps → RL E xs qs → vs.length = xs.length ∧ ((vs.zip xs).all fun (x,y) => Instr.sameBits n x y) = true
  | [],[],_,_,_,.nil,.nil => ⟨rfl,rfl⟩
  | [],_ :: _,_,_,h,_,_ => by simp [plainL] at h
  | _ :: _,[],_,_,h,_,_ => by simp [plainL] at h
  | p :: ps,q :: qs,_,_,h,.cons v _ vs _ hv h1,.cons x _ xs _ hx h2 => by
    simp only [plainL,Bool.and_eq_true] at h
    obtain ⟨a,b⟩:=plainL_R n h.2 h1 h2
    refine ⟨by simp [a],?_⟩
    simp only [List.zip_cons_cons,List.all_cons,Bool.and_eq_true]
    exact ⟨plainC_R h.1 hv hx n,b⟩
theorem plainEq_R' {p q : PV} {v x : Value} (h : plainEq p q = true) (hv : R E v p) (hx : R E x q) (n : Nat) : Instr.sameBits (n + 1) v x = true:=by
  unfold plainEq at h
  split at h
  · cases hv; cases hx
    next hl h2 _ hl2 =>
    obtain ⟨a,b⟩:=plainL_R n h hl hl2
    simp [Instr.sameBits,a,b]
  · exact plainC_R h hv hx _
theorem stays_run {p q : PV} {v x : Value} (h : plainEq p q = true) (hv : R E v p) (hx : R E x q) (w : World) : (Instr.keyThatStays v x).run P w = .ok x w:=by
  unfold Instr.keyThatStays
  rw [if_pos (plainEq_R' h hv hx 9999)]
  simp
theorem Sim.map {H : Heap} {w : World} (h : Sim E H w) {id : Nat} {es : List (PV × PV)} (hid : H.rows id = some (.map es)) {vm : Value} (hm : R E vm (.map id)) :
    ∃ b mes c,vm = .map (some b) ∧ E.mu id 0 = some (some b) ∧ w.heap[b]? = some (.map mes c) ∧ RL E (mes.toList.map (·.key)) (es.map (·.1)) ∧ RL E (mes.toList.map (·.val)) (es.map (·.2)):=by
  obtain ⟨_,b,mes,c,hmu,hh,h1,h2⟩:=h.row _ _ hid
  cases hm with
  | map _ b' hb =>
    rw [hmu] at hb; cases hb
    exact ⟨b,mes,c,rfl,hmu,hh,h1,h2⟩
theorem lookup_run {H : Heap} {w : World} (h : Sim E H w) {t kt et : TypeId} {z k : PV} {id : Nat} {es : List (PV × PV)} {vm kv : Value} {r : Option (Nat × PV)} (ht : mapT P t = some (kt,et)) (hz : zeroT P et = some z) (hid : H.rows id = some (.map es))
    (hm : R E vm (.map id)) (hk : R E kv k) (hc : keyChk P kt k = true) (hf : findPV P kt k es 0 = some r) (ok : Bool) : ∃ v,(Instr.lookup t vm kv ok).run P w = .ok v w ∧ R E v (lookR z ok r):=by
  obtain ⟨b,mes,c,rfl,_,hh,h1,h2⟩:=h.map hid hm
  obtain ⟨zv,hzr,hzR⟩:=run_zeroT (E:=E) hz w
  have hund:=mapT_und ht
  have hg : (getObj b).run P w = .ok (.map mes c) w:=by simp [getObj,Sem.run,hh]
  have hku : ∃ kd,P.underlying kt = some kd:=by
    unfold keyChk at hc
    split at hc
    · next hu => exact ⟨_,hu⟩
    · next hu => exact ⟨_,hu⟩
    · next hu => exact ⟨_,hu⟩
    · cases hc
  obtain ⟨kd,hku⟩:=hku
  obtain ⟨rv,hr,hfr⟩:=findKey_run hku hk w hf h1 h2
  have hck:=checkKey_run (P:=P) hc hk mes.isEmpty w
  cases r with
  | none =>
    cases rv with
    | some y => exact hfr.elim
    | none =>
      cases ok with
      | true => exact ⟨.tuple #[zv,.bool false],by simp [Instr.lookup,run_underlying hund w,hg,hck,hr,hzr],.tup [_,_] _ (.cons _ _ _ _ hzR (.cons _ _ _ _ (.bool _) .nil))⟩
      | false => exact ⟨zv,by simp [Instr.lookup,run_underlying hund w,hg,hck,hr,hzr],hzR⟩
  | some y =>
    obtain ⟨i,v⟩:=y
    cases rv with
    | none => exact hfr.elim
    | some u =>
      obtain ⟨j,x⟩:=u
      obtain ⟨rfl,hx⟩:=hfr
      cases ok with
      | true => exact ⟨.tuple #[x,.bool true],by simp [Instr.lookup,run_underlying hund w,hg,hck,hr],.tup [_,_] _ (.cons _ _ _ _ hx (.cons _ _ _ _ (.bool _) .nil))⟩
      | false => exact ⟨x,by simp [Instr.lookup,run_underlying hund w,hg,hck,hr],hx⟩
theorem HTr.setMap {H : Heap} {w : World} (h : Sim E H w) {id : Nat} {es es' : List (PV × PV)} (hid : H.rows id = some (.map es)) {b : Nat} (hb : E.mu id 0 = some (some b)) {mes mes' : Array MapEntry} {c c' : Nat} (hh : w.heap[b]? = some (.map mes c))
    (h1 : RL E (mes'.toList.map (·.key)) (es'.map (·.1))) (h2 : RL E (mes'.toList.map (·.val)) (es'.map (·.2))) : HTr E H w E (H.set id (.map es')) { w with heap:=w.heap.setIfInBounds b (.map mes' c') }:=by
  have hlt:=lt_of_heap hh
  have hblk : ∀ es : List (PV × PV),E.blk id (.map es) = some b:=fun es => by simp [Env.blk,hb]
  have hkeep : ∀ b',b' ≠ b → (w.heap.setIfInBounds b (.map mes' c'))[b']? = w.heap[b']?:=fun b' hne => by
    rw [Array.getElem?_setIfInBounds_ne (fun e => hne e.symm)]
  have hnew : (w.heap.setIfInBounds b (.map mes' c'))[b]? = some (.map mes' c'):=by
    rw [Array.getElem?_setIfInBounds_self_of_lt hlt]
  refine HTr.setRow h hid (Env.le_refl E) (fun _ _ _ => rfl) (fun _ _ => rfl) rfl ?_ (fun _ _ _ => rfl) ?_ (fun b' _ hne => hkeep b' fun e => hne (e ▸ hblk es)) (by simp) rfl rfl rfl ?_
  · intro b' o v hs
    obtain ⟨h3,h4⟩:=h.stab b' o v hs
    refine ⟨?_,h4⟩
    by_cases hbb : b' = b
    · subst hbb
      simp [World.cell?,hh] at h3
    · exact (cell_of_heap (w':={ w with heap:=w.heap.setIfInBounds b (.map mes' c') }) (hkeep b' hbb) o).trans h3
  · intro b' h'
    rw [hblk] at h'; cases h'; exact .inl (hblk es)
  · obtain ⟨h0,_⟩:=h.row _ _ hid
    exact ⟨h0,b,mes',c',hb,hnew,h1,h2⟩
theorem mapUpdate_run {H : Heap} {w : World} (h : Sim E H w) {t kt et : TypeId} {k x : PV} {id : Nat} {es es' : List (PV × PV)} {vm kv xv : Value} {r : Option (Nat × PV)} (ht : mapT P t = some (kt,et)) (hid : H.rows id = some (.map es))
    (hm : R E vm (.map id)) (hk : R E kv k) (hx : R E xv x) (hc : keyChk P kt k = true) (hf : findPV P kt k es 0 = some r) (hu : updR k x es r = some es') : ∃ w',(Instr.mapUpdate t vm kv xv).run P w = .ok () w' ∧ HTr E H w E (H.set id (.map es')) w':=by
  obtain ⟨b,mes,c,rfl,hmu,hh,h1,h2⟩:=h.map hid hm
  have hund:=mapT_und ht
  have hg : (getObj b).run P w = .ok (.map mes c) w:=by simp [getObj,Sem.run,hh]
  have hset : ∀ o,(setObj b o).run P w = .ok () { w with heap:=w.heap.setIfInBounds b o }:=fun o => by simp [setObj,Sem.run,hh]
  have hku : ∃ kd,P.underlying kt = some kd:=by
    unfold keyChk at hc
    split at hc
    · next hu' => exact ⟨_,by assumption⟩
    · next hu' => exact ⟨_,by assumption⟩
    · next hu' => exact ⟨_,by assumption⟩
    · cases hc
  obtain ⟨kd,hku⟩:=hku
  obtain ⟨rv,hr,hfr⟩:=findKey_run hku hk w hf h1 h2
  have hck:=checkKey_run (P:=P) hc hk false w
  cases r with
  | none =>
    cases rv with
    | some y => exact hfr.elim
    | none =>
      simp only [updR,Option.some.injEq] at hu
      subst hu
      refine ⟨_,by simp only [Instr.mapUpdate,Sem.run_bind,run_underlying hund w,hg,hck,hr,Result.andThen_ok,hset]; rfl,HTr.setMap h hid hmu hh ?_ ?_⟩
      · simp only [Array.toList_push,List.map_append,List.map_cons,List.map_nil]
        exact h1.append (.cons _ _ _ _ hk .nil)
      · simp only [Array.toList_push,List.map_append,List.map_cons,List.map_nil]
        exact h2.append (.cons _ _ _ _ hx .nil)
  | some y =>
    obtain ⟨i,v⟩:=y
    cases rv with
    | none => exact hfr.elim
    | some u =>
      obtain ⟨j,u⟩:=u
      obtain ⟨rfl,_⟩:=hfr
      simp only [updR,Option.bind_eq_some_iff] at hu
      obtain ⟨e,he,hu⟩:=hu
      split at hu
      case isFalse => cases hu
      next hpl =>
      cases hu
      have he1 : (es.map (·.1))[i]? = some e.1:=by simp [he]
      obtain ⟨ov,hov,hoR⟩:=h1.get he1
      obtain ⟨m,hm1,rfl⟩ : ∃ m : MapEntry,mes[i]? = some m ∧ ov = m.key:=by
        simp only [List.getElem?_map,Option.map_eq_some_iff] at hov
        obtain ⟨m,hm1,rfl⟩:=hov
        exact ⟨m,by simpa using hm1,rfl⟩
      have hst:=stays_run (P:=P) hpl hoR hk w
      refine ⟨_,by simp only [Instr.mapUpdate,Sem.run_bind,run_underlying hund w,hg,hck,hr,hm1,Option.map_some,Option.getD_some,hst,Result.andThen_ok,hset]; rfl,HTr.setMap h hid hmu hh ?_ ?_⟩
      · have hi:=(Array.getElem?_eq_some_iff.1 hm1).1
        have : (mes.modify i fun e => { e with key:=kv,val:=xv }).toList.map (·.key) = (mes.toList.map (·.key)).set i kv:=by
          apply List.ext_getElem?
          intro q
          simp only [Array.toList_modify,List.getElem?_map,List.getElem?_set,List.getElem?_modify]
          by_cases hq : i = q
          · subst hq; simp [hi]
          · simp [hq]
        rw [this]
        have e2 : (es.set i (k,x)).map (·.1) = (es.map (·.1)).set i k:=by rw [List.map_set]
        rw [e2]
        exact h1.set i hk
      · have hi:=(Array.getElem?_eq_some_iff.1 hm1).1
        have : (mes.modify i fun e => { e with key:=kv,val:=xv }).toList.map (·.val) = (mes.toList.map (·.val)).set i xv:=by
          apply List.ext_getElem?
          intro q
          simp only [Array.toList_modify,List.getElem?_map,List.getElem?_set,List.getElem?_modify]
          by_cases hq : i = q
          · subst hq; simp [hi]
          · simp [hq]
        rw [this]
        have e2 : (es.set i (k,x)).map (·.2) = (es.map (·.2)).set i x:=by rw [List.map_set]
        rw [e2]
        exact h2.set i hx
theorem makeMap_run {H : Heap} {w : World} (h : Sim E H w) (t : TypeId) : ∃ w',(Instr.makeMap t none).run P w = .ok (.map (some w.heap.size)) w' ∧ HTr E H w (E.addRow H.next 0 w.heap.size 0 0) (H.add (.map [])) w':=by
  refine ⟨w.alloc (.map #[] 0),by simp [Instr.makeMap,newObj,Sem.run],?_⟩
  refine HTr.addObj h _ 0 0 0 (by intro es f z he; cases he) (fun _ => rfl) (by simp) (fun b hb => heap_alloc_old hb) rfl rfl rfl ?_
  refine ⟨?_,w.heap.size,#[],0,by simp [Env.addRow],heap_alloc_new,.nil,.nil⟩
  intro n hn
  have : n ≠ 0:=by omega
  simp [Env.addRow,this]
  exact h.fresh _ _ (Nat.le_refl _)
end GoV
namespace GoV
open Go
variable {P : Program} {E E' : Env}
theorem go_map (k : Nat → Nat → Nat → Nat → Nat → PV) : ∀ (l : List PV),stripW.go k l = l.map (stripW k)
  | [] => by simp [stripW.go]
  | x :: l => by simp [stripW.go,go_map k l]
theorem strip_cells {k : Nat → Nat → Nat → Nat → Nat → PV} (hk : ∀ sz id ver off len,(k sz id ver off len).cells = [k sz id ver off len]) : ∀ (p : PV),(stripW k p).cells = p.cells.map (stripW k):=by
  intro p
  cases p <;> simp [stripW,PV.cells,go_map] <;> exact hk _ _ _ _ _
theorem flat_strip {k : Nat → Nat → Nat → Nat → Nat → PV} (hk : ∀ sz id ver off len,(k sz id ver off len).cells = [k sz id ver off len]) : ∀ (l : List PV),flat (l.map (stripW k)) = (flat l).map (stripW k)
  | [] => rfl
  | x :: l => by simp [flat_strip hk l,strip_cells hk]
mutual
theorem R.strip {k : Nat → Nat → Nat → Nat → Nat → PV} (hk : ∀ sz id ver off len,(k sz id ver off len).cells = [k sz id ver off len]) (hS : ∀ b o v,E.S b o = some v → E'.S b o = some v)
    (hg : ∀ sz id ver off len v,R E v (.gsl sz id ver off len) → R E' v (k sz id ver off len)) : ∀ {v : Value} {p : PV},R E v p → R E' v (stripW k p)
  | _,_,.any v => by simp only [stripW]; exact .any v
  | _,_,.junk v h => by simp only [stripW]; exact .junk v h
  | _,_,.bool b => by simp only [stripW]; exact .bool b
  | _,_,.int j n => by simp only [stripW]; exact .int j n
  | _,_,.str s => by simp only [stripW]; exact .str s
  | _,_,.nilp => by simp only [stripW]; exact .nilp
  | _,_,.nilf => by simp only [stripW]; exact .nilf
  | _,_,.nili => by simp only [stripW]; exact .nili
  | _,_,.nils => by simp only [stripW]; exact .nils
  | _,_,.nilm => by simp only [stripW]; exact .nilm
  | _,_,.agg cs ps h1 hl => by simp only [stripW,go_map]; exact .agg _ _ h1 (RL.strip hk hS hg hl)
  | _,_,.tup _ _ hl => by simp only [stripW,go_map]; exact .tup _ _ (RL.strip hk hS hg hl)
  | _,_,.vsE sz a c cap hc ha => by simp only [stripW,go_map]; exact .vsE sz a c cap hc ha
  | _,_,.vs sz b off c cap vals es n hn hs hR hz hl hc => by
    simp only [stripW,go_map]
    exact .vs sz b off c cap vals _ n (by simpa using hn) (fun i v x => hS _ _ _ (hs i v x)) (by rw [flat_strip hk]; exact RL.strip hk hS hg hR) (by
      intro e he
      obtain ⟨e',he',rfl⟩:=List.mem_map.1 he
      rw [strip_cells hk,List.length_map]; exact hz e' he') (by simpa using hl) hc
  | _,_,.rop b off vals cs hs hR => by simp only [stripW,go_map]; exact .rop b off vals _ (fun i v x => hS _ _ _ (hs i v x)) (RL.strip hk hS hg hR)
  | _,_,.gslN sz id hm hz => by simp only [stripW]; exact hg _ _ _ _ _ _ (.gslN sz id hm hz)
  | _,_,.gsl sz id ver off len b c o hm hz hl ho hcp => by simp only [stripW]; exact hg _ _ _ _ _ _ (.gsl sz id ver off len b c o hm hz hl ho hcp)
  | _,_,.bptr fid t ver off b hb => by simp only [stripW]; exact .junk _ rfl
  | _,_,.ptr id ver i off b o hm ho => by simp only [stripW]; exact .junk _ rfl
  | _,_,.fn f _ _ hl => by simp only [stripW,go_map]; exact .fn f _ _ (RL.strip hk hS hg hl)
  | _,_,.bnd f _ _ hl => by simp only [stripW]; exact .junk _ rfl
  | _,_,.yield l b hm => by simp only [stripW]; exact .junk _ rfl
  | _,_,.iface t _ _ hv => by simp only [stripW]; exact .iface t _ _ (R.strip hk hS hg hv)
  | _,_,.map id b hm => by simp only [stripW]; exact .junk _ rfl
theorem RL.strip {k : Nat → Nat → Nat → Nat → Nat → PV} (hk : ∀ sz id ver off len,(k sz id ver off len).cells = [k sz id ver off len]) (hS : ∀ b o v,E.S b o = some v → E'.S b o = some v)
    (hg : ∀ sz id ver off len v,R E v (.gsl sz id ver off len) → R E' v (k sz id ver off len)) : ∀ {vs : List Value} {ps : List PV},RL E vs ps → RL E' vs (ps.map (stripW k))
  | _,_,.nil => .nil
  | _,_,.cons _ _ _ _ h1 h2 => .cons _ _ _ _ (R.strip hk hS hg h1) (RL.strip hk hS hg h2)
end
theorem gsl_one {v : Value} {sz id ver off len : Nat} (h : R E v (.gsl sz id ver off len)) : v.oneCell' = true:=by
  obtain ⟨_,⟨rfl,_⟩ | ⟨b,c,rfl,_⟩⟩:=gsl_inv h <;> rfl
theorem R.strip0 (hS : ∀ b o v,E.S b o = some v → E'.S b o = some v) {v : Value} {p : PV} (h : R E v p) : R E' v (strip0 p):=
  R.strip (fun _ _ _ _ _ => rfl) hS (fun _ _ _ _ _ _ h => .junk _ (gsl_one h)) h
theorem RL.strip0 (hS : ∀ b o v,E.S b o = some v → E'.S b o = some v) {v : List Value} {p : List PV} (h : RL E v p) : RL E' v (p.map GoV.strip0):=
  RL.strip (fun _ _ _ _ _ => rfl) hS (fun _ _ _ _ _ _ h => .junk _ (gsl_one h)) h
theorem row_vs {H : Heap} {w : World} (h : Sim E H w) {k : PV → PV} {sz id ver off len : Nat} {v : Value} {es : List PV} (hv : R E v (.gsl sz id ver off len)) (hr : rowEs H id ver off len = some es)
    (hkc : ∀ e,(k e).cells = e.cells.map k) (hkR : ∀ v p,R E v p → R E' v (k p)) (hS : ∀ b,E.mu id ver = some (some b) → ∀ o v,o < ver * sz → w.cell? ⟨b,o,none⟩ = some v → E'.S b o = some v) : R E' v (.vs sz (es.map k) none):=by
  obtain ⟨hsz,⟨rfl,rfl,rfl,rfl,hm⟩ | ⟨b,c,rfl,hm,hl,hcp⟩⟩:=gsl_inv hv
  · unfold rowEs at hr
    split at hr
    · next sz' es0 frz hrow =>
      split at hr
      · next hc =>
        simp at hr; subst hr
        have : es0 = []:=by simpa using hc.1
        subst this
        exact .vsE _ _ _ _ (by simp) (by simp)
      · simp at hr
    · simp at hr
  · obtain ⟨vals,hrg,hR,h1,hz',hlen⟩:=rowEs_range h hr hm hsz
    have hle : off + len ≤ ver:=by
      unfold rowEs at hr
      split at hr
      · split at hr
        · next hc => exact hc.2
        · simp at hr
      · simp at hr
    have hvl : vals.length = len * sz:=by rw [hR.length,flat_len _ hz',hlen]
    have hfk : ∀ (l : List PV),flat (l.map k) = (flat l).map k:=by
      intro l
      induction l with
      | nil => rfl
      | cons x l ih => simp [ih,hkc]
    have hRk : ∀ (vs : List Value) (ps : List PV),RL E vs ps → RL E' vs (ps.map k):=by
      intro vs
      induction vs with
      | nil => intro ps h; cases h; exact .nil
      | cons x vs ih => intro ps h; cases h with | cons _ p _ ps h1 h2 => exact .cons _ _ _ _ (hkR _ _ h1) (ih _ h2)
    refine .vs _ b _ c _ vals _ _ (by simp [hlen]) ?_ (by rw [hfk]; exact hRk _ _ hR) ?_ (by simp [hlen]; exact hl) (by simp)
    · intro j x hx
      have hj : j < vals.length:=(List.getElem?_eq_some_iff.1 hx).1
      refine hS b hm _ x ?_ (hrg j x hx)
      have : (off + len) * sz ≤ ver * sz:=Nat.mul_le_mul_right _ hle
      rw [Nat.add_mul] at this
      omega
    · intro e he
      obtain ⟨e',he',rfl⟩:=List.mem_map.1 he
      rw [hkc,List.length_map]; exact hz' e' he'
def Env.bare (E : Env) : Env:=⟨E.S,fun _ _ => none,fun _ => 0,fun _ _ => 0,fun _ _ _ => none,E.hG⟩
theorem Sim.bare {H : Heap} {w : World} (h : Sim E H w) : Sim E.bare .empty w:=
  ⟨h.stab,by simp [Heap.empty],fun _ _ _ => rfl,fun _ _ _ _ => rfl,by simp [Heap.empty]⟩
theorem freeze_run0 {H : Heap} {w : World} (h : Sim E H w) {v : Value} {p : PV} (hv : R E v p) : ∃ E',HTr E H w E' (freezeArg0 H p).2 w ∧ R E'.bare v (freezeArg0 H p).1:=by
  have hjunk : ∀ {sz id ver off len : Nat},R E v (.gsl sz id ver off len) → ∃ E',HTr E H w E' H w ∧ R E'.bare v .junk:=fun hg => ⟨E,.refl h,.junk _ (gsl_one hg)⟩
  unfold freezeArg0
  split
  · next sz id ver off len =>
    split
    · next sz' es frz hrow =>
      split
      · next hc =>
        obtain ⟨hver,hle,rfl⟩:=hc
        obtain ⟨hsz,ho⟩:=gsl_inv hv
        obtain ⟨hsz1,hz,hbeyond,hblk⟩:=h.row _ _ hrow
        have hfrz : frz ≤ es.length:=by
          rcases hblk with ⟨_,_,rfl⟩ | ⟨_,_,_,_,_,_,_,_,_,hf⟩
          · exact Nat.zero_le _
          · exact hf
        rcases hblk with ⟨rfl,hm,rfl⟩ | ⟨b,c,t,hm,hh,⟨vals,rest,hcc,hR⟩,h1,hS0,hcap,_⟩
        · have : H.set id (.gro sz' [] 0) = H:=by
            cases H
            simp only [Heap.set,Heap.mk.injEq,and_true]
            funext i
            simp only [upd_apply]
            split
            · next e => subst e; exact hrow.symm
            · rfl
          simp only [List.drop_nil,List.take_nil,List.map_nil,List.length_nil,this]
          refine ⟨E,.refl h,?_⟩
          simp at hver; subst hver
          obtain ⟨rfl,rfl⟩ : off = 0 ∧ len = 0:=by omega
          rcases ho with ⟨rfl,_⟩ | ⟨b,c,rfl,hm',_⟩
          · exact .vsE _ _ _ _ (by simp) (by simp)
          · rw [hm] at hm'; cases hm'
        · have hstab : ∀ o v,E.S b o = some v → c[o]? = some v:=by
            intro o v hs
            have:=(h.stab b o v hs).1
            rwa [cell_of_cells hh] at this
          let E' : Env:={ E with
            S:=fun b' o => if b' = b ∧ o < es.length * sz' then c[o]? else E.S b' o
            hG:=fun g i v hg => by
              have:=E.hG g i v hg
              split
              · next hb => obtain ⟨rfl,_⟩:=hb; exact hstab i v this
              · exact this }
          have hle' : E.le E':=by
            refine ⟨?_,fun _ _ _ x => ⟨x,rfl,rfl⟩,fun _ _ _ _ x => x⟩
            intro b' o x hx
            simp only [E']
            split
            · next hb => obtain ⟨rfl,_⟩:=hb; exact hstab o x hx
            · exact hx
          have hblk0 : E.blk id (.gro sz' es frz) = some b:=by simp [Env.blk,hm]
          have hres : R E'.bare v (.vs sz' (((es.drop off).take len).map GoV.strip0) none):=by
            have hcells : rowEs H id ver off len = some ((es.drop off).take len):=by simp [rowEs,hrow,hver,hle]
            refine row_vs (E':=E'.bare) h hv hcells (fun e => strip_cells (fun _ _ _ _ _ => rfl) e) (fun v p hp => R.strip0 (E':=E'.bare) (fun b o v hs => hle'.S b o v hs) hp) ?_
            intro b' hm' o x ho hx
            rw [← hver] at hm'
            rw [hm] at hm'; cases hm'
            show (if b = b ∧ o < es.length * sz' then c[o]? else E.S b o) = some x
            rw [if_pos ⟨rfl,by rw [hver]; exact ho⟩]
            rwa [cell_of_cells hh] at hx
          refine ⟨E',?_,hres⟩
          refine HTr.setRow h hrow hle' (fun _ _ _ => rfl) (fun _ _ => rfl) rfl ?_ ?_ ?_ (fun _ _ _ => rfl) (Nat.le_refl _) rfl rfl rfl ?_
          · intro b' o x hx
            simp only [E'] at hx
            split at hx
            · next hb =>
              obtain ⟨rfl,_⟩:=hb
              rw [cell_of_cells hh]
              exact ⟨hx,h1 x (List.mem_of_getElem? (by simpa using hx))⟩
            · exact h.stab b' o x hx
          · intro b' o hb'
            have : b' ≠ b:=by rintro rfl; exact hb' hblk0
            simp [E',this]
          · intro b' hb'
            have : E'.blk id (.gro sz' es es.length) = some b:=by simp [Env.blk,E',hm]
            rw [this] at hb'; cases hb'; exact .inl hblk0
          · refine ⟨hsz1,hz,hbeyond,.inr ⟨b,c,t,hm,hh,⟨vals,rest,hcc,hR.mono hle'⟩,h1,?_,hcap,Nat.le_refl _⟩⟩
            intro o ho
            have h2 : ¬ (o < es.length * sz'):=by omega
            simp only [E',h2,and_false,if_false]
            exact hS0 o (Nat.le_trans (Nat.mul_le_mul_right _ hfrz) ho)
      · exact hjunk hv
    · exact hjunk hv
  · exact ⟨E,.refl h,R.strip0 (E:=E) (E':=E.bare) (fun _ _ _ x => x) hv⟩
theorem HTr.trans {E E1 E2 : Env} {H H1 H2 : Heap} {w w1 w2 : World} (h : HTr E H w E1 H1 w1) (k : HTr E1 H1 w1 E2 H2 w2) : HTr E H w E2 H2 w2:=by
  refine ⟨k.sim,?_⟩
  have k' : Tr H.next E1 H1.next (own E1 H1) w1 E2 H2.next (own E2 H2) w2:=by
    refine ⟨k.tr.le,k.tr.os,k.tr.tape,k.tr.output,k.tr.size,k.tr.next,k.tr.kept,k.tr.own,k.tr.S,?_⟩
    intro f t n hf hne
    by_cases he : f = H1.next
    · omega
    · exact k.tr.be f t n hf he
  exact h.tr.trans k'
theorem freezeArgs_run0 : ∀ {E : Env} {H : Heap} {w : World} {vs : List Value} {ps : List PV},Sim E H w → RL E vs ps → ∃ E',HTr E H w E' (freezeArgs0 H ps).2 w ∧ RL E'.bare vs (freezeArgs0 H ps).1
  | E,H,w,_,_,h,.nil => ⟨E,.refl h,.nil⟩
  | E,H,w,_,_,h,.cons v p vs ps hv hl => by
    obtain ⟨E1,h1,hR1⟩:=freeze_run0 h hv
    obtain ⟨E2,h2,hR2⟩:=freezeArgs_run0 h1.sim (hl.mono h1.tr.le)
    refine ⟨E2,h1.trans h2,.cons _ _ _ _ ?_ hR2⟩
    have hb : E1.bare.le E2.bare:=⟨h2.tr.le.S,fun _ _ _ x => by simp [Env.bare] at x,fun _ _ _ _ x => by simp [Env.bare] at x⟩
    exact hR1.mono hb
theorem freezeArg_none (H : Heap) {p : PV} (hp : ∀ cs,p ≠ .agg cs) : freezeArg H p = freezeArg0 H p:=by
  cases p <;> first | rfl | exact absurd rfl (hp _)
theorem freeze_run {H : Heap} {w : World} (h : Sim E H w) {v : Value} {p : PV} (hv : R E v p) : ∃ E',HTr E H w E' (freezeArg H p).2 w ∧ R E'.bare v (freezeArg H p).1:=by
  by_cases hp : ∃ cs,p = .agg cs
  · obtain ⟨cs,rfl⟩:=hp
    cases hv with
    | agg cs ps h1 hl =>
      obtain ⟨E',h',hl'⟩:=freezeArgs_run0 h hl
      exact ⟨E',h',.agg _ _ h1 hl'⟩
  · rw [freezeArg_none H fun cs hc => hp ⟨cs,hc⟩]
    exact freeze_run0 h hv
theorem freezeArgs_run : ∀ {E : Env} {H : Heap} {w : World} {vs : List Value} {ps : List PV},Sim E H w → RL E vs ps → ∃ E',HTr E H w E' (freezeArgs H ps).2 w ∧ RL E'.bare vs (freezeArgs H ps).1
  | E,H,w,_,_,h,.nil => ⟨E,.refl h,.nil⟩
  | E,H,w,_,_,h,.cons v p vs ps hv hl => by
    obtain ⟨E1,h1,hR1⟩:=freeze_run h hv
    obtain ⟨E2,h2,hR2⟩:=freezeArgs_run h1.sim (hl.mono h1.tr.le)
    refine ⟨E2,h1.trans h2,.cons _ _ _ _ ?_ hR2⟩
    have hb : E1.bare.le E2.bare:=⟨h2.tr.le.S,fun _ _ _ x => by simp [Env.bare] at x,fun _ _ _ _ x => by simp [Env.bare] at x⟩
    exact hR1.mono hb
end GoV
namespace GoV
open Go
variable {P : Program} {E E' : Env}
def Env.after (E : Env) (w w1 : World) : Env:=E.setS fun b o => if b < w.heap.size then E.S b o else match w1.cell? ⟨b,o,none⟩ with
  | some v => if v.oneCell' then some v else none
  | none => none
theorem Env.after_S {H : Heap} {w : World} (h : Sim E H w) (w1 : World) : (E.after w w1).S = fun b o => if b < w.heap.size then E.S b o else match w1.cell? ⟨b,o,none⟩ with
    | some v => if v.oneCell' then some v else none
    | none => none:=by
  refine Env.setS_eq ?_
  intro b o v hv
  simp [tr_S_lt h hv,hv]
theorem iso_back {E1 : Env} {H H1 : Heap} {w w1 : World} (h : Sim E H w) (k : HTr E.bare .empty w E1 H1 w1) :
    HTr E H w (E.after w w1) H w1 ∧ (∀ v r,R E1 v r → R (E.after w w1) v (strip2 H1 r)) ∧ (∀ v r,R E1 v r → R (E.after w w1) v (strip0 r)):=by
  have hno : ∀ b,¬ own E.bare .empty b:=by rintro b ⟨id,r,hr,_⟩; simp [Heap.empty] at hr
  have hkeep : ∀ b,b < w.heap.size → w1.heap[b]? = w.heap[b]?:=fun b hb => k.tr.kept b hb (hno b)
  have hle : E.le (E.after w w1):=by
    refine ⟨?_,fun _ _ _ x => ⟨x,rfl,rfl⟩,fun _ _ _ _ x => x⟩
    intro b o v hv
    simp [Env.after_S h,tr_S_lt h hv,hv]
  have hS1 : ∀ b o v,E1.S b o = some v → (E.after w w1).S b o = some v:=by
    intro b o v hv
    by_cases hb : b < w.heap.size
    · have : E.S b o ≠ none:=by
        intro h0
        rcases k.tr.S b o h0 (by rw [hv]; simp) with h' | h'
        · exact hno b h'
        · omega
      cases hs : E.S b o with
      | none => exact absurd hs this
      | some v' =>
        have:=k.tr.le.S b o v' hs
        rw [hv] at this; cases this
        simp [Env.after_S h,hb,hs]
    · obtain ⟨g1,g2⟩:=k.sim.stab b o v hv
      simp [Env.after_S h,hb,g1,g2]
  have hrow : ∀ sz id ver off len v es,R E1 v (.gsl sz id ver off len) → rowEs H1 id ver off len = some es → ∀ b,E1.mu id ver = some (some b) → ∀ o x,o < ver * sz → w1.cell? ⟨b,o,none⟩ = some x → (E.after w w1).S b o = some x:=by
    intro sz id ver off len v es hv hr b hm o x ho hx
    unfold rowEs at hr
    split at hr
    · next sz' es0 frz hrw =>
      split at hr
      · next hc =>
        rw [← hc.1] at hm
        have hown : own E1 H1 b:=⟨id,_,hrw,by simp [Env.blk,hm]⟩
        have hb : ¬ b < w.heap.size:=by
          rcases k.tr.own b hown with h' | h'
          · exact absurd h' (hno b)
          · omega
        obtain ⟨_,_,c,t,vals,rest,hh,hcc,hR,h1,_⟩:=k.sim.gro hrw hm
        have h1x : x.oneCell' = true:=by
          rw [cell_of_cells hh] at hx
          exact h1 x (List.mem_of_getElem? (by simpa using hx))
        simp [Env.after_S h,hb,hx,h1x]
      · simp at hr
    · simp at hr
  refine ⟨⟨⟨?_,?_,h.fresh,h.freshB,h.inj⟩,⟨hle,k.tr.os,k.tr.tape,k.tr.output,k.tr.size,Nat.le_refl _,fun b hb _ => hkeep b hb,fun b hb => .inl hb,?_,fun _ _ _ _ _ => rfl⟩⟩,?_,?_⟩
  · intro b o v hv
    simp only [Env.after_S h] at hv
    split at hv
    · next hb =>
      obtain ⟨g1,g2⟩:=h.stab b o v hv
      exact ⟨by rw [cell_of_heap (hkeep b hb)]; exact g1,g2⟩
    · split at hv
      · next x hx =>
        split at hv
        · next h1 => cases hv; exact ⟨hx,h1⟩
        · cases hv
      · cases hv
  · intro id r hid
    refine (h.row id r hid).keep hle (fun b hb => hkeep b ((h.row id r hid).lt hb)) (fun _ => rfl) ?_ rfl
    intro b hb o h0
    simp [Env.after_S h,(h.row id r hid).lt hb,h0]
  · intro b o h0 h2
    by_cases hb : b < w.heap.size
    · simp [Env.after_S h,hb] at h2; exact absurd h0 h2
    · exact .inr (by omega)
  · intro v r hr
    have h1 : ∀ v p,R E1 v p → R (E.after w w1) v (strip1 H1 p):=by
      intro v p hp
      refine R.strip ?_ hS1 ?_ hp
      · intro sz id ver off len
        split <;> rfl
      · intro sz id ver off len v hv
        cases hre : rowEs H1 id ver off len with
        | none => exact .junk _ (gsl_one hv)
        | some es =>
          exact row_vs k.sim hv hre (fun e => strip_cells (fun _ _ _ _ _ => rfl) e) (fun v p hp => R.strip0 (E:=E1) hS1 hp) (hrow _ _ _ _ _ _ _ hv hre)
    refine R.strip ?_ hS1 ?_ hr
    · intro sz id ver off len
      split <;> rfl
    · intro sz id ver off len v hv
      cases hre : rowEs H1 id ver off len with
      | none => exact .junk _ (gsl_one hv)
      | some es =>
        refine row_vs k.sim hv hre (fun e => strip_cells (fun sz id ver off len => ?_) e) h1 (hrow _ _ _ _ _ _ _ hv hre)
        split <;> rfl
  · exact fun v r hr => R.strip0 (E:=E1) hS1 hr
def Fr (b : Frame) (a : Act) (todo : List Item) : Frame:={ b with tmps:=a.tmps,todo,defers:=a.defers,mode:=.run }
theorem Fr_eval (b : Frame) (a : Act) (todo : List Item) : (Fr b a todo).eval = a.eval:=by
  funext x; cases x <;> rfl
section
variable {b : Frame} {a : Act} {k : List Item} {cs : List Frame} {w : World}
theorem st_skip : step P (lone (Fr b a (.code .skip :: k)) cs w) = .next (lone (Fr b a k) cs w):=step_lone_go (by simp [stepG,stepG.exec,Fr])
theorem st_label {l : Nat} : step P (lone (Fr b a (.code (.label l) :: k)) cs w) = .next (lone (Fr b a k) cs w):=step_lone_go (by simp [stepG,stepG.exec,Fr])
theorem st_inBlock {id : Nat} : step P (lone (Fr b a (.inBlock id :: k)) cs w) = .next (lone (Fr b a k) cs w):=step_lone_go (by simp [stepG,stepG.exec,Fr])
theorem st_seq {x y : Code} : step P (lone (Fr b a (.code (.seq x y) :: k)) cs w) = .next (lone (Fr b a (.code x :: .code y :: k)) cs w):=step_lone_go (by simp [stepG,stepG.exec,Fr])
theorem st_cond {c : Operand} {x y : Code} {t : Bool} (h : a.eval c = .bool t) : step P (lone (Fr b a (.code (.cond c x y) :: k)) cs w) = .next (lone (Fr b a (.code (if t then x else y) :: k)) cs w):=
  step_lone_go (by
    have e:=congrFun (Fr_eval b a (.code (.cond c x y) :: k)) c
    simp only [Fr] at e
    simp [stepG,stepG.exec,Fr,e,h])
theorem st_block {id : Nat} {c : Code} : step P (lone (Fr b a (.code (.block id c) :: k)) cs w) = .next (lone (Fr b a (.code c :: .inBlock id :: k)) cs w):=step_lone_go (by simp [stepG,stepG.exec,Fr])
theorem st_loop {c : Code} : step P (lone (Fr b a (.code (.loop c) :: k)) cs w) = .next (lone (Fr b a (.code c :: .inLoop c :: k)) cs w):=step_lone_go (by simp [stepG,stepG.exec,Fr])
theorem st_inLoop {c : Code} : step P (lone (Fr b a (.inLoop c :: k)) cs w) = .next (lone (Fr b a (.code c :: .inLoop c :: k)) cs w):=step_lone_go (by simp [stepG,stepG.exec,Fr])
theorem st_exit {id : Nat} {k' : List Item} (h : exitTo id k = some k') : step P (lone (Fr b a (.code (.exit id) :: k)) cs w) = .next (lone (Fr b a k') cs w):=step_lone_go (by simp [stepG,stepG.exec,Fr,h])
theorem st_ret (h : b.roundOf = none) : step P (lone (Fr b a (.code .ret :: k)) cs w) = .next (lone { Fr b a (.code .ret :: k) with mode:=.returning } cs w):=step_lone_go (by simp [stepG,stepG.exec,Fr,h])
theorem st_end (h : b.roundOf = none) : step P (lone (Fr b a []) cs w) = .next (lone { Fr b a [] with mode:=.returning } cs w):=step_lone_go (by simp [stepG,stepG.exec,Fr,h])
variable {ops : Array Oper}
theorem st_region {id : Nat} : step P (lone (Fr b a (.code (.region id ops false) :: k)) cs w) = .next (lone (Fr b a (.inRegion ops (List.range ops.size) :: k)) cs w):=step_lone_go (by simp [stepG,stepG.exec,Fr])
theorem st_region_draw {id : Nat} : ∃ t,step P (lone (Fr b a (.code (.region id ops true) :: k)) cs w) = .next (lone (Fr b a (.inRegion ops (Region.schedule (P.follows .mixedOrders) ops t) :: k)) cs w.drew):=
  ⟨w.tape w.drawn (.order b.fn id),step_lone_go (by simp [stepG,stepG.exec,Fr,choose,Sem.run,Question.forced,Question.cut])⟩
theorem st_region_end : step P (lone (Fr b a (.inRegion ops [] :: k)) cs w) = .next (lone (Fr b a k) cs w):=step_lone_go (by simp [stepG,stepG.exec,Fr])
theorem Fr_finish {i : Nat} {rest : List Nat} {o : Oper} (ho : ops[i]? = some o) (v : Value) : (Fr b a (.inRegion ops (i :: rest) :: k)).finish v = Fr b (a.put o.dst v) (.inRegion ops rest :: k):=by
  cases hd : o.dst <;> simp [Frame.finish,Fr,Act.put,ho,hd]
theorem st_op_skip {i : Nat} {rest : List Nat} {o : Oper} (ho : ops[i]? = some o) (h : Region.wanted o (yielded ops a.tmps) = false) :
    step P (lone (Fr b a (.inRegion ops (i :: rest) :: k)) cs w) = .next (lone (Fr b (a.put o.dst undef) (.inRegion ops rest :: k)) cs w):=by
  rw [← Fr_finish ho]
  exact step_lone_go (by simp only [stepG,stepG.exec,Fr]; simp [ho,h])
theorem stepG_Fr {i : Nat} {rest : List Nat} {o : Oper} (ho : ops[i]? = some o) (hw : Region.wanted o (yielded ops a.tmps) = true) (hd : (∀ c,o.op ≠ .defer c) ∨ b.roundOf = none) :
    stepG P true { frame:=Fr b a (.inRegion ops (i :: rest) :: k),callers:=cs,status:=.running,dying:=none } w = stepG.apply P true (Fr b a (.inRegion ops (i :: rest) :: k)) cs none (execOp a.eval o) w:=by
  have he:=Fr_eval b a (.inRegion ops (i :: rest) :: k)
  simp only [Fr] at he
  simp [stepG,stepG.exec,stepG.oper,Frame.oper?,Fr,ho,hw,he]
  rcases hd with hd | hd
  · split
    · next l c hr hc => exact absurd hc (hd c)
    · rfl
  · rw [hd]
end
end GoV
namespace GoV
open Go
variable {P : Program} {E E' : Env}
section
variable {b : Frame} {a : Act} {k : List Item} {cs : List Frame} {w w' : World} {ops : Array Oper} {i : Nat} {rest : List Nat} {o : Oper}
variable (ho : ops[i]? = some o) (hw : Region.wanted o (yielded ops a.tmps) = true) (hd : (∀ c,o.op ≠ .defer c) ∨ b.roundOf = none)
include ho hw hd
theorem op_value {v : Value} (h : (execOp a.eval o).run P w = .ok (.value v) w') : step P (lone (Fr b a (.inRegion ops (i :: rest) :: k)) cs w) = .next (lone (Fr b (a.put o.dst v) (.inRegion ops rest :: k)) cs w'):=
  step_lone_go (by rw [stepG_Fr ho hw hd,← Fr_finish ho]; simp [stepG.apply,h])
theorem op_skip (h : (execOp a.eval o).run P w = .ok .skip w') : step P (lone (Fr b a (.inRegion ops (i :: rest) :: k)) cs w) = .next (lone (Fr b (a.put o.dst undef) (.inRegion ops rest :: k)) cs w'):=
  step_lone_go (by rw [stepG_Fr ho hw hd,← Fr_finish ho]; simp [stepG.apply,h])
theorem op_panic {v : Value} (h : (execOp a.eval o).run P w = .halt (.panic v) w') : step P (lone (Fr b a (.inRegion ops (i :: rest) :: k)) cs w) = .next (lone { Fr b a (.inRegion ops (i :: rest) :: k) with mode:=.panicking [{ v,recovered:=false }] } cs w'):=
  step_lone_go (by rw [stepG_Fr ho hw hd]; simp [stepG.apply,h,Frame.raise,Fr])
theorem op_enter {f : FuncId} {args : Array Value} (h : (execOp a.eval o).run P w = .ok (.enter f args) w') : step P (lone (Fr b a (.inRegion ops (i :: rest) :: k)) cs w) = .next (lone (Frame.enter P f args .normal) (Fr b a (.inRegion ops (i :: rest) :: k) :: cs) w'):=
  step_lone_go (by rw [stepG_Fr ho hw hd]; simp [stepG.apply,h,Fr])
theorem op_round {l : Nat} {f : FuncId} {tmps : Array Value} {assign body : Code} (h : (execOp a.eval o).run P w = .ok (.round l f tmps assign body) w') : step P (lone (Fr b a (.inRegion ops (i :: rest) :: k)) cs w) = .next (lone (Frame.round l f tmps assign body .normal) (Fr b a (.inRegion ops (i :: rest) :: k) :: cs) w'):=
  step_lone_go (by rw [stepG_Fr ho hw hd]; simp [stepG.apply,h,Fr])
theorem op_defer {d : Deferred} (h : (execOp a.eval o).run P w = .ok (.defer d) w') : step P (lone (Fr b a (.inRegion ops (i :: rest) :: k)) cs w) = .next (lone (Fr b ({ a with defers:=d :: a.defers }.put o.dst undef) (.inRegion ops rest :: k)) cs w'):=
  step_lone_go (by
    rw [stepG_Fr ho hw hd,← Fr_finish ho]
    simp only [stepG.apply,Sem.runT_eq,h,GStep.bare_after]
    rfl)
theorem op_recover_none (hr : b.roundOf = none) (h : (execOp a.eval o).run P w = .ok .recover w') (ht : tryRecover (Fr b a (.inRegion ops (i :: rest) :: k)) cs = none) : step P (lone (Fr b a (.inRegion ops (i :: rest) :: k)) cs w) = .next (lone (Fr b (a.put o.dst .nilIface) (.inRegion ops rest :: k)) cs w'):=
  step_lone_go (by
    rw [stepG_Fr ho hw hd,← Fr_finish ho]
    have hr' : (Fr b a (.inRegion ops (i :: rest) :: k)).roundOf = none:=hr
    simp [stepG.apply,h,hr',ht])
theorem op_recover_some (hr : b.roundOf = none) {v : Value} {cs' : List Frame} (h : (execOp a.eval o).run P w = .ok .recover w') (ht : tryRecover (Fr b a (.inRegion ops (i :: rest) :: k)) cs = some (v,cs')) : step P (lone (Fr b a (.inRegion ops (i :: rest) :: k)) cs w) = .next (lone (Fr b (a.put o.dst v) (.inRegion ops rest :: k)) cs' w'):=
  step_lone_go (by
    rw [stepG_Fr ho hw hd,← Fr_finish ho]
    have hr' : (Fr b a (.inRegion ops (i :: rest) :: k)).roundOf = none:=hr
    simp [stepG.apply,h,hr',ht])
end
theorem callFunc_run {f : Nat} {fn : Func} (hf : P.funcs[f]? = some fn) (hb : fn.body.isSome = true) (hn : (fn.name == "runtime.NumGoroutine") = false) (args : Array Value) (w : World) : (callFunc f args).run P w = .ok (.enter f args) w:=by
  have hb' : fn.body ≠ none:=by
    intro h; rw [h] at hb; cases hb
  have hn' : fn.name ≠ "runtime.NumGoroutine" := by simpa using hn
  simp [callFunc,hf,hn',hb']
theorem call_run {ρ : Operand → Value} {o : Oper} {f : Operand} {args : Array Operand} {ts : Array TypeId} {g : Nat} {capt : Array Value} (ho : o.op = .call ⟨.value f,args,ts⟩) (hf : ρ f = .func (.func g) #[] capt) (w : World) :
    (execOp ρ o).run P w = (callFunc g (args.map ρ ++ capt)).run P w:=by
  simp [execOp,ho,resolve,hf,Deferred.ofValue,invoke]
theorem call_bnd {ρ : Operand → Value} {o : Oper} {f : Operand} {args : Array Operand} {ts : Array TypeId} {g : Nat} {first : Array Value} (ho : o.op = .call ⟨.value f,args,ts⟩) (hf : ρ f = .func (.func g) first #[]) (w : World) :
    (execOp ρ o).run P w = (callFunc g (first ++ args.map ρ)).run P w:=by
  simp [execOp,ho,resolve,hf,Deferred.ofValue,invoke]
theorem call_yield {ρ : Operand → Value} {o : Oper} {f : Operand} {args : Array Operand} {ts : Array TypeId} {l : Nat} (ho : o.op = .call ⟨.value f,args,ts⟩) (hf : ρ f = .func (.yield l) #[] #[]) (w : World) :
    (execOp ρ o).run P w = (Instr.yield l (args.map ρ)).run P w:=by
  simp [execOp,ho,resolve,hf,Deferred.ofValue,invoke]
theorem put_R {nt : Nat} {s s' : St} {w : World} {a : Act} (h : SimF nt E s w a) {d : Option Nat} {p : PV} {v : Value} (hp : putV nt d p s = some s') (hv : R E v p) : SimF nt E s' w (a.put d v) ∧ s'.H = s.H ∧ s'.fid = s.fid ∧ s'.rc = s.rc ∧ ownF E s' = ownF E s:=by
  unfold putV at hp
  split at hp
  · simp at hp; subst hp
    exact ⟨h,rfl,rfl,rfl,rfl⟩
  · next d =>
    split at hp
    · next hd =>
      simp at hp; subst hp
      refine ⟨⟨h.sim,by simpa [Act.put] using h.size,?_,⟨h.bx.ok,h.bx.inj,h.bx.fresh,h.bx.fid⟩,h.df⟩,rfl,rfl,rfl,rfl⟩
      intro i
      simp only [Act.put,upd_apply]
      split
      · next e =>
        subst e
        have : i < a.tmps.size:=by rw [h.size]; exact hd
        simpa [Array.getD_eq_getD_getElem?,this] using hv
      · next e =>
        have:=h.tm i
        simpa [Array.getD_eq_getD_getElem?,Array.getElem?_setIfInBounds,Ne.symm e] using this
    · simp at hp
structure FOK (cx : Ctx) (E : Env) (b : Frame) : Prop where
  fn : b.fn = cx.fn
  rd : match cx.round with | none => b.roundOf = none | some l => ∃ blk,b.roundOf = some blk ∧ E.mu l 0 = some (some blk)
theorem FOK.mono {cx : Ctx} {b : Frame} (h : FOK cx E b) (hle : E.le E') : FOK cx E' b:=by
  refine ⟨h.fn,?_⟩
  have:=h.rd
  split at this
  · exact this
  · obtain ⟨blk,h1,h2⟩:=this; exact ⟨blk,h1,(hle.mu _ _ _ h2).1⟩
def CsOK (E : Env) : Rc → CallKind → List Frame → Prop
  | .no,kd,cs => ∀ fr : Frame,fr.kind = kd → tryRecover fr cs = none
  | .pan v,kd,cs => kd = .deferred ∧ ∃ c0 rest vC,cs = c0 :: rest ∧ c0.mode = .panicking [{ v:=vC,recovered:=false }] ∧ R E vC v
  | .done,kd,cs => kd = .deferred ∧ ∃ c0 rest vC,cs = c0 :: rest ∧ c0.mode = .panicking [{ v:=vC,recovered:=true }]
theorem CsOK.mono {rc : Rc} {kd : CallKind} {cs : List Frame} (h : CsOK E rc kd cs) (hle : E.le E') : CsOK E' rc kd cs:=by
  cases rc with
  | no => exact h
  | done => exact h
  | pan v => obtain ⟨h1,c0,rest,vC,h2,h3,h4⟩:=h; exact ⟨h1,c0,rest,vC,h2,h3,h4.mono hle⟩
def CsTo (rc rc' : Rc) (cs cs' : List Frame) : Prop:=(rc' = rc ∧ cs' = cs) ∨ ∃ v c0 rest vC,rc = .pan v ∧ rc' = .done ∧ cs = c0 :: rest ∧ c0.mode = .panicking [{ v:=vC,recovered:=false }] ∧ cs' = { c0 with mode:=.panicking [{ v:=vC,recovered:=true }] } :: rest
theorem CsTo.refl (rc : Rc) (cs : List Frame) : CsTo rc rc cs cs:=.inl ⟨rfl,rfl⟩
theorem CsTo.trans {rc rc1 rc2 : Rc} {cs cs1 cs2 : List Frame} (h : CsTo rc rc1 cs cs1) (k : CsTo rc1 rc2 cs1 cs2) : CsTo rc rc2 cs cs2:=by
  rcases h with ⟨rfl,rfl⟩ | ⟨v,c0,rest,vC,rfl,rfl,rfl,hm,rfl⟩
  · exact k
  · rcases k with ⟨rfl,rfl⟩ | ⟨v',c1,rest1,vC1,h1,_⟩
    · exact .inr ⟨v,c0,rest,vC,rfl,rfl,rfl,hm,rfl⟩
    · cases h1
def Arr (P : Program) (E : Env) (m : Machine) (b : Frame) (k : List Item) : Ex → Act → List Frame → World → Prop
  | .normal,a,cs,w => Steps P m (lone (Fr b a k) cs w)
  | .exit id,a,cs,w => ∃ k0,exitTo id k0 = exitTo id k ∧ Steps P m (lone (Fr b a (.code (.exit id) :: k0)) cs w)
  | .ret,a,cs,w => ∃ k0,Steps P m (lone (Fr b a (.code .ret :: k0)) cs w)
  | .pan v,a,cs,w => ∃ todo vC,R E vC v ∧ Steps P m (lone { Fr b a todo with mode:=.panicking [{ v:=vC,recovered:=false }] } cs w)
theorem Arr.of_steps {m m1 : Machine} {b : Frame} {k : List Item} {ex : Ex} {a : Act} {cs : List Frame} {w : World} (h : Steps P m m1) (h' : Arr P E m1 b k ex a cs w) : Arr P E m b k ex a cs w:=by
  cases ex with
  | normal => exact h.trans h'
  | exit id => obtain ⟨k0,h1,h2⟩:=h'; exact ⟨k0,h1,h.trans h2⟩
  | ret => obtain ⟨k0,h2⟩:=h'; exact ⟨k0,h.trans h2⟩
  | pan v => obtain ⟨todo,vC,h1,h2⟩:=h'; exact ⟨todo,vC,h1,h.trans h2⟩
def Sound (rec : Rec) : Prop:=∀ (cx : Ctx) (c : Code) (s : St) (ex : Ex) (s' : St),rec cx c s = some (ex,s') → ∀ (E : Env) (w : World) (a : Act) (b : Frame) (k : List Item) (cs : List Frame),SimF cx.nt E s w a → FOK cx E b → CsOK E s.rc b.kind cs →
  ∃ E' w' a' cs',SimF cx.nt E' s' w' a' ∧ Tr s.fid E s.H.next (ownF E s) w E' s'.H.next (ownF E' s') w' ∧ s'.fid = s.fid ∧ CsOK E' s'.rc b.kind cs' ∧ CsTo s.rc s'.rc cs cs' ∧ Arr cx.P E' (lone (Fr b a (.code c :: k)) cs w) b k ex a' cs' w'
def CallOK (P : Program) (E : Env) (H : Heap) (w : World) (m : Machine) (c : Frame) (cs : List Frame) (r : CR) (H' : Heap) : Prop:=
  ∃ E' w',HTr E H w E' H' w' ∧ match r with
    | .ret v => ∃ vC,R E' vC v ∧ Steps P m (lone (c.finish vC) cs w')
    | .pan v => ∃ vC,R E' vC v ∧ Steps P m (lone (c.raise [{ v:=vC,recovered:=false }]) cs w')
end GoV
namespace GoV
open Go
variable {P : Program} {E E' : Env}
theorem results_list {nt : Nat} {s : St} {w : World} {a : Act} (h : SimF nt E s w a) : ∀ (rs : List ResultVar) (vs : List PV),resPV P rs s = some vs →
    ∃ vals,(rs.mapM (m:=Sem) fun r => match r with
      | .tmp t => pure (a.tmps.getD t undef)
      | .cell x t => do loadVar t (← asAddr (a.tmps.getD x undef))).run P w = .ok vals w ∧ RL E vals vs:=by
  intro rs
  induction rs with
  | nil => intro vs hv; simp [resPV] at hv; subst hv; exact ⟨[],by simp,.nil⟩
  | cons r rs ih =>
    intro vs hv
    unfold resPV at hv
    simp only [List.mapM_cons,Option.bind_eq_bind,Option.bind_eq_some_iff] at hv
    obtain ⟨p,hp,ps,hps,hv⟩:=hv
    simp at hv; subst hv
    obtain ⟨vals,hrun,hR⟩:=ih ps (by unfold resPV; exact hps)
    have key : ∃ v,((match r with
      | .tmp t => pure (a.tmps.getD t undef)
      | .cell x t => do loadVar t (← asAddr (a.tmps.getD x undef)) : Sem Value)).run P w = .ok v w ∧ R E v p:=by
      cases r with
      | tmp t => simp at hp; subst hp; exact ⟨_,rfl,h.tm t⟩
      | cell x t =>
        simp only [Option.bind_eq_some_iff] at hp
        obtain ⟨ag,ha,sz,hs,cs,hg,hl⟩:=hp
        obtain ⟨b,off,vs',hv,hr,hR',h1⟩:=getAt_R h hg (h.tm x)
        obtain ⟨v,hrun,hRv⟩:=ld_run ha hs hl hr hR' h1
        exact ⟨v,by simp only [Sem.run_bind,hv,asAddr,Sem.run_pure,Result.andThen_ok,hrun],hRv⟩
    obtain ⟨v,hv,hRv⟩:=key
    refine ⟨v :: vals,?_,.cons _ _ _ _ hRv hR⟩
    simp only [List.mapM_cons,Sem.run_bind,hv,Result.andThen_ok,hrun,Sem.run_pure]
theorem results_run {nt : Nat} {s : St} {w : World} {a : Act} (h : SimF nt E s w a) {fn : Func} {vs : List PV} (hv : resPV P fn.results.toList s = some vs) : ∃ v,(results fn a.tmps).run P w = .ok v w ∧ R E v (tupPV vs):=by
  obtain ⟨vals,hrun,hR⟩:=results_list h _ _ hv
  unfold results
  rw [Array.mapM_eq_mapM_toList]
  have : ((List.toArray <$> fn.results.toList.mapM (m:=Sem) fun r => match r with
      | .tmp t => pure (a.tmps.getD t undef)
      | .cell x t => do loadVar t (← asAddr (a.tmps.getD x undef)))).run P w = .ok vals.toArray w:=by
    rw [Sem.run_map,hrun]; rfl
  refine ⟨if h : vals.toArray.size = 1 then vals.toArray[0] else .tuple vals.toArray,?_,?_⟩
  · rw [Sem.run_bind]
    have e : ∀ (x y : Result (Array Value)),x = y → x.andThen (fun vs w' => (Pure.pure (if h : vs.size = 1 then vs[0] else Value.tuple vs) : Sem Value).run P w') = y.andThen (fun vs w' => (Pure.pure (if h : vs.size = 1 then vs[0] else Value.tuple vs) : Sem Value).run P w'):=by
      intro x y h; rw [h]
    exact e _ _ this
  · match vals,vs,hR with
    | [],_,.nil => exact .tup [] [] .nil
    | [v],_,.cons _ p _ _ h1 .nil => simpa [tupPV] using h1
    | v :: u :: r,_,.cons _ p _ _ h1 (.cons _ q _ _ h2 h3) => exact .tup _ _ (.cons _ _ _ _ h1 (.cons _ _ _ _ h2 h3))
theorem Sim.next {H : Heap} {w : World} (h : Sim E H w) : Sim E ⟨H.rows,H.next + 1⟩ w:=
  ⟨h.stab,h.row,fun id n hid => h.fresh id n (by simp only at hid; omega),fun f t n hf => h.freshB f t n (by simp only at hf; omega),h.inj⟩
theorem ownF_none {s : St} (h : s.boxes = fun _ => none) : ownF E s = own E s.H:=by
  funext b
  apply propext
  constructor
  · rintro (h' | ⟨t,ver,cs,hb,_⟩)
    · exact h'
    · rw [h] at hb; cases hb
  · exact .inl
theorem body_sound {rec : Rec} (hs : Sound rec) {pol : Pol} {f : Nat} {args : List PV} {H : Heap} {rc : Rc} {fn : Func} {m : Option PV} {s' : St} (hb : bodyOf rec P pol f args H rc = some (fn,m,s')) {w : World} {vals : List Value} (hS : Sim E H w) (hR : RL E vals args) {kd : CallKind} {cs : List Frame} (hcs : CsOK E rc kd cs) :
    P.funcs[f]? = some fn ∧ fn.body.isSome = true ∧ (fn.name == "runtime.NumGoroutine") = false ∧ ∃ E' w' a' cs' b todo md,SimF fn.ntmps E' s' w' a' ∧ HTr E H w E' s'.H w' ∧ CsOK E' s'.rc kd cs' ∧ CsTo rc s'.rc cs cs' ∧
      b.fn = f ∧ b.kind = kd ∧ b.roundOf = none ∧ s'.fid = H.next ∧ (∀ x,ownF E' s' x → own E H x ∨ w.heap.size ≤ x) ∧
      (match m with | none => md = .returning | some v => ∃ vC,md = .panicking [{ v:=vC,recovered:=false }] ∧ R E' vC v) ∧
      Steps P (lone (Frame.enter P f vals.toArray kd) cs w) (lone { Fr b a' todo with mode:=md } cs' w'):=by
  unfold bodyOf at hb
  simp only [Option.bind_eq_some_iff] at hb
  obtain ⟨fn1,hf,c,hc,hb⟩:=hb
  split at hb
  case isFalse => simp at hb
  next hcond =>
  simp only [Option.bind_eq_some_iff] at hb
  obtain ⟨⟨ex,s1⟩,hrec,hb⟩:=hb
  have hfn : fn1 = fn ∧ s1 = s' ∧ (ex = .normal ∧ m = none ∨ ex = .ret ∧ m = none ∨ ∃ v,ex = .pan v ∧ m = some v):=by
    cases ex <;> simp at hb
    · exact ⟨hb.1,hb.2.2,.inl ⟨rfl,hb.2.1.symm⟩⟩
    · exact ⟨hb.1,hb.2.2,.inr (.inl ⟨rfl,hb.2.1.symm⟩)⟩
    · exact ⟨hb.1,hb.2.2,.inr (.inr ⟨_,rfl,hb.2.1.symm⟩)⟩
  obtain ⟨rfl,rfl,hex⟩:=hfn
  refine ⟨hf,by rw [hc]; rfl,hcond.2,?_⟩
  let a0 : Act:={ tmps:=vals.toArray ++ Array.replicate (fn1.ntmps - vals.toArray.size) undef,defers:=[] }
  let s0 : St:=⟨H.next,fun i => args.getD i .any,fun _ => none,[],⟨H.rows,H.next + 1⟩,rc⟩
  have hlen : vals.length ≤ fn1.ntmps:=by rw [hR.length]; exact hcond.1
  have hF : SimF fn1.ntmps E s0 w a0:=by
    refine ⟨hS.next,by simp [a0]; omega,?_,⟨by simp [s0],by simp [s0],fun t n _ => hS.freshB _ _ _ (Nat.le_refl _),Nat.lt_succ_self _⟩,.nil⟩
    intro i
    simp only [a0,s0]
    cases hi : args[i]? with
    | none => simp [List.getD_eq_getElem?_getD,hi]; exact .any _
    | some p =>
      obtain ⟨v,hv,hRv⟩:=hR.get hi
      have : (vals.toArray ++ Array.replicate (fn1.ntmps - vals.toArray.size) undef).getD i undef = v:=by
        have hlt:=(List.getElem?_eq_some_iff.1 hv).1
        rw [Array.getD_eq_getD_getElem?,Array.getElem?_append_left (by simpa using hlt)]
        simp [hv]
      rw [this]
      simpa [List.getD_eq_getElem?_getD,hi] using hRv
  have henter : Frame.enter P f vals.toArray kd = Fr (Frame.enter P f vals.toArray kd) a0 [.code c]:=by
    simp [Frame.enter,Fr,hf,hc,a0]
  obtain ⟨E',w',a',cs',hF',hTr,hfid,hcs',hto,harr⟩:=hs _ _ _ _ _ hrec E w a0 (Frame.enter P f vals.toArray kd) [] cs hF ⟨rfl,rfl⟩ hcs
  rw [← henter] at harr
  have hown0 : ownF E s0 = own E H:=ownF_none rfl
  have hT : HTr E H w E' s1.H w':=by
    refine ⟨hF'.sim,⟨hTr.le,hTr.os,hTr.tape,hTr.output,hTr.size,?_,?_,?_,?_,?_⟩⟩
    · have:=hTr.next; simp only [s0] at this; omega
    · intro b hb ho; exact hTr.kept b hb (by rw [hown0]; exact ho)
    · intro b ho
      have:=hTr.own b (.inl ho)
      rwa [hown0] at this
    · intro b o h0 h1
      have:=hTr.S b o h0 h1
      rwa [hown0] at this
    · intro g t k hg hne
      exact hTr.be g t k (by simp only [s0]; omega) hne
  have hownF : ∀ x,ownF E' s1 x → own E H x ∨ w.heap.size ≤ x:=by
    intro x hx
    have:=hTr.own x hx
    rwa [hown0] at this
  have hrn : (Frame.enter P f vals.toArray kd).roundOf = none:=rfl
  rcases hex with ⟨rfl,rfl⟩ | ⟨rfl,rfl⟩ | ⟨v,rfl,rfl⟩
  · exact ⟨E',w',a',cs',_,[],.returning,hF',hT,hcs',hto,rfl,rfl,rfl,hfid,hownF,rfl,Steps.trans harr (.one (st_end hrn))⟩
  · obtain ⟨k0,harr⟩:=harr
    exact ⟨E',w',a',cs',_,_,.returning,hF',hT,hcs',hto,rfl,rfl,rfl,hfid,hownF,rfl,Steps.trans harr (.one (st_ret hrn))⟩
  · obtain ⟨todo,vC,hRv,harr⟩:=harr
    exact ⟨E',w',a',cs',_,todo,_,hF',hT,hcs',hto,rfl,rfl,rfl,hfid,hownF,⟨vC,rfl,hRv⟩,harr⟩
end GoV
namespace GoV
open Go
variable {P : Program} {E E' : Env}
def ModeOK (E : Env) (md : FrameMode) (m : Option PV) : Prop:=match m with
  | none => md = .returning
  | some v => ∃ vC,md = .panicking [{ v:=vC,recovered:=false }] ∧ R E vC v
theorem ModeOK.mono {md : FrameMode} {m : Option PV} (h : ModeOK E md m) (hle : E.le E') : ModeOK E' md m:=by
  cases m with
  | none => exact h
  | some v => obtain ⟨vC,h1,h2⟩:=h; exact ⟨vC,h1,h2.mono hle⟩
theorem ModeOK.not_run {md : FrameMode} {m : Option PV} (h : ModeOK E md m) : md ≠ .run:=by
  cases m with
  | none => rw [show md = .returning from h]; simp
  | some v => obtain ⟨vC,h1,h2⟩:=h; rw [h1]; simp
theorem stepG_unwind {fr : Frame} {cs : List Frame} {w : World} (h : fr.mode ≠ .run) : stepG P true { frame:=fr,callers:=cs,status:=.running,dying:=none } w = unwind P true fr cs none w:=by
  unfold stepG
  cases hm : fr.mode <;> simp_all
theorem st_coll {fr : Frame} {cs : List Frame} {w : World} {bl : Nat} {ds : List Deferred} (h : fr.mode ≠ .run) (hd : fr.defers = { target:=.collected bl,args:=#[] } :: ds) (hh : w.heap[bl]? = some (.deferred (some []))) :
    step P (lone fr cs w) = .next (lone { fr with defers:=ds } cs { w with heap:=w.heap.setIfInBounds bl (.deferred none) }):=
  step_lone_go (by
    rw [stepG_unwind h]
    have : (Instr.takeDeferred bl).run P w = .ok [] { w with heap:=w.heap.setIfInBounds bl (.deferred none) }:=by
      simp [Instr.takeDeferred,getObj,setObj,Sem.run,hh]
    simp [unwind,hd,this])
theorem st_dcall {fr : Frame} {cs : List Frame} {w : World} {f : Nat} {args capt : List Value} {ds : List Deferred} (h : fr.mode ≠ .run) (hd : fr.defers = { target:=.fn (.func f) capt.toArray,args:=args.toArray } :: ds)
    (hc : (callFunc f (args ++ capt).toArray).run P w = .ok (.enter f (args ++ capt).toArray) w) :
    step P (lone fr cs w) = .next (lone (Frame.enter P f (args ++ capt).toArray .deferred) ({ fr with defers:=ds } :: cs) w):=
  step_lone_go (by
    rw [stepG_unwind h]
    have hi : (invoke (.fn (.func f) capt.toArray) args.toArray).run P w = .ok (.enter f (args ++ capt).toArray) w:=by
      simp only [invoke]
      have : args.toArray ++ capt.toArray = (args ++ capt).toArray:=by simp
      rw [this]; exact hc
    simp [unwind,hd,callDeferred,hi])
theorem st_dret {fr c0 : Frame} {rest : List Frame} {w : World} {fn : Func} (h : fr.mode = .returning) (hd : fr.defers = []) (hk : fr.kind = .deferred) (hf : P.funcs[fr.fn]? = some fn) (hr : fn.results = #[]) :
    step P (lone fr (c0 :: rest) w) = .next (lone (match c0.mode with
      | .panicking ({ recovered:=true,.. } :: older) => match older.dropWhile (!·.goexit) with
        | [] => { c0 with mode:=.returning }
        | r => { c0 with mode:=.panicking r }
      | _ => c0) rest w):=
  step_lone_go (by
    rw [stepG_unwind (by rw [h]; simp)]
    have hres : (results fn fr.tmps).run P w = .ok (.tuple #[]) w:=by simp [results,hr]
    simp [unwind,hd,h,hf,hres,doReturn,hk]
    generalize c0.mode = md
    cases md with
    | run => rfl
    | returning => rfl
    | panicking ch =>
      cases ch with
      | nil => rfl
      | cons e older =>
        obtain ⟨v,r,g⟩:=e
        cases r <;> rfl)
theorem HTr.drop {H : Heap} {w : World} (h : Sim E H w) {id bl : Nat} {r : Row} {o : Obj} (hid : H.rows id = some r) (hb : E.blk id r = some bl) (hnc : ∀ c t f,o ≠ .cells c t f) (hnr : ∀ b' c t f,w.heap[bl]? = some b' → b' ≠ .cells c t f) :
    HTr E H w E ⟨upd H.rows id none,H.next⟩ { w with heap:=w.heap.setIfInBounds bl o }:=by
  have hkeep : ∀ b',b' ≠ bl → ({ w with heap:=w.heap.setIfInBounds bl o } : World).heap[b']? = w.heap[b']?:=by
    intro b' hb'
    simp [Array.getElem?_setIfInBounds,Ne.symm hb']
  have hrows : ∀ i r',(upd H.rows id none) i = some r' → i ≠ id ∧ H.rows i = some r':=by
    intro i r' hi
    simp only [upd_apply] at hi
    split at hi
    · cases hi
    · next e => exact ⟨e,hi⟩
  have hSb : ∀ o',E.S bl o' = none:=by
    intro o'
    cases hs : E.S bl o' with
    | none => rfl
    | some v =>
      have hc:=(h.stab bl o' v hs).1
      simp only [World.cell?] at hc
      cases hq : w.heap[bl]? with
      | none => simp [hq] at hc
      | some ob =>
        cases ob <;> simp [hq] at hc
        exact absurd rfl (hnr _ _ _ _ hq)
  refine ⟨⟨?_,?_,h.fresh,h.freshB,?_⟩,⟨Env.le_refl E,rfl,rfl,rfl,by simp,Nat.le_refl _,?_,?_,fun b o h0 h1 => absurd h0 h1,fun _ _ _ _ _ => rfl⟩⟩
  · intro b' o' v hv
    obtain ⟨g1,g2⟩:=h.stab b' o' v hv
    have : b' ≠ bl:=by rintro rfl; rw [hSb] at hv; cases hv
    exact ⟨by rw [cell_of_heap (hkeep b' this)]; exact g1,g2⟩
  · intro i r' hi
    obtain ⟨hne,hi⟩:=hrows i r' hi
    refine (h.row i r' hi).keep (Env.le_refl E) (fun b' hb' => hkeep b' ?_) (fun _ => rfl) (fun _ _ _ x => x) rfl
    rintro rfl
    exact hne (h.inj _ _ _ _ _ hi hid hb' hb)
  · intro i i' r1 r2 b' h1 h2 h3 h4
    exact h.inj _ _ _ _ _ (hrows _ _ h1).2 (hrows _ _ h2).2 h3 h4
  · intro b' _ ho
    exact hkeep b' (by rintro rfl; exact ho ⟨id,r,hid,hb⟩)
  · rintro b' ⟨i,r',h1,h2⟩
    exact .inl ⟨i,r',(hrows _ _ h1).2,h2⟩
theorem SimF.dropDefers {nt : Nat} {s : St} {w : World} {a : Act} (h : SimF nt E s w a) {ds : List Deferred} {vs : List VD} (hd : DL E ds vs) : SimF nt E { s with defers:=vs } w { a with defers:=ds }:=
  ⟨h.sim,h.size,h.tm,⟨h.bx.ok,h.bx.inj,h.bx.fresh,h.bx.fid⟩,hd⟩
theorem unwind_sound {rec : Rec} (hs : Sound rec) {pol : Pol} {nt : Nat} : ∀ (vs : List VD) (m : Option PV) (H : Heap) (m' : Option PV) (H' : Heap),unwindV rec P pol vs m H = some (m',H') →
    ∀ (E : Env) (s : St) (w : World) (a : Act) (b : Frame) (todo : List Item) (cs : List Frame) (md : FrameMode),SimF nt E s w a → s.H = H → s.defers = vs → ModeOK E md m →
    ∃ E' w' a' md',SimF nt E' { s with H:=H',defers:=[] } w' a' ∧ Tr s.fid E H.next (ownF E s) w E' H'.next (ownF E' { s with H:=H',defers:=[] }) w' ∧ HTr E H w E' H' w' ∧ ModeOK E' md' m' ∧ a'.defers = [] ∧
      Steps P (lone { Fr b a todo with mode:=md } cs w) (lone { Fr b a' todo with mode:=md' } cs w'):=by
  intro vs
  induction vs with
  | nil =>
    intro m H m' H' hu E s w a b todo cs md hF hH hd hm
    simp [unwindV] at hu
    obtain ⟨rfl,rfl⟩:=hu
    subst hH
    have hda : a.defers = []:=by
      have:=hF.df
      rw [hd] at this
      cases hq : a.defers with
      | nil => rfl
      | cons x y => rw [hq] at this; cases this
    refine ⟨E,w,a,md,?_,?_,.refl hF.sim,hm,hda,.refl _ _⟩
    · have:=hF.dropDefers (ds:=[]) (vs:=[]) .nil
      have e : ({ a with defers:=[] } : Act) = a:=by cases a; simp_all
      rwa [e] at this
    · exact .refl _ _ _ _ _
  | cons v vs ih =>
    intro m H m' H' hu E s w a b todo cs md hF hH hd hm
    subst hH
    have hdf:=hF.df
    rw [hd] at hdf
    cases hda : a.defers with
    | nil => rw [hda] at hdf; cases hdf
    | cons d ds =>
      rw [hda] at hdf
      cases hdf with
      | cons _ _ _ _ hD hDs =>
      have hnr:=hm.not_run
      cases v with
      | coll id =>
        simp only [unwindV] at hu
        split at hu
        · next hrow =>
          cases hD with
          | coll _ bl hmu =>
          obtain ⟨_,b0,hm0,hh⟩:=hF.sim.row _ _ hrow
          rw [hmu] at hm0; cases hm0
          have hT:=HTr.drop (o:=.deferred none) (bl:=bl) hF.sim hrow (by simp [Env.blk,hmu]) (by simp) (by intro b' c t f hb'; rw [hh] at hb'; cases hb'; simp)
          obtain ⟨hF1,hT1⟩:=hF.frame hT
          have hF2:=hF1.dropDefers (hDs.mono hT.tr.le)
          obtain ⟨E',w',a',md',g1,g2,g3,g4,g5,g6⟩:=ih m _ m' H' hu E { s with H:=⟨upd s.H.rows id none,s.H.next⟩,defers:=vs } _ { a with defers:=ds } b todo cs md hF2 rfl rfl hm
          refine ⟨E',w',a',md',g1,hT1.trans g2,hT.trans g3,g4,g5,.head ?_ g6⟩
          have:=st_coll (P:=P) (fr:={ Fr b a todo with mode:=md }) (cs:=cs) hnr (by simp only [Fr]; exact hda) hh
          exact this
        · simp at hu
      | call f args =>
        simp only [unwindV,Option.bind_eq_some_iff] at hu
        obtain ⟨⟨fn,m1,s1⟩,hbody,hu⟩:=hu
        split at hu
        case h_2 => simp at hu
        next hm1 hdf1 =>
        simp only at hm1 hdf1
        subst hm1
        split at hu
        case isFalse => simp at hu
        next hres =>
        cases hD with
        | call _ as capt _ hR =>
        have hcs : CsOK E (rcOf m) .deferred ({ Fr b { a with defers:=ds } todo with mode:=md } :: cs):=by
          cases m with
          | none =>
            have : md = .returning:=hm
            subst this
            intro fr hk
            simp [tryRecover,hk]
          | some v =>
            obtain ⟨vC,h1,h2⟩:=hm
            exact ⟨rfl,_,cs,vC,rfl,h1,h2⟩
        obtain ⟨hf,hbs,hnm,E1,w1,a1,cs1,b1,todo1,md1,hF1,hT1,hcs1,hto1,hb1,hk1,hr1,hfid1,hown1,hmd1,hst⟩:=body_sound (P:=P) hs hbody hF.sim hR hcs
        simp only at hmd1
        subst hmd1
        have hda1 : a1.defers = []:=by
          have:=hF1.df
          rw [hdf1] at this
          cases hq : a1.defers with
          | nil => rfl
          | cons x y => rw [hq] at this; cases this
        have hst0:=st_dcall (P:=P) (fr:={ Fr b a todo with mode:=md }) (cs:=cs) (w:=w) (f:=f) (args:=as) (capt:=capt) (ds:=ds) hnr (by simp only [Fr]; exact hda) (callFunc_run hf hbs hnm _ _)
        have hres' : fn.results = #[]:=by simpa using hres
        have hend : ∃ md2,ModeOK E1 md2 (afterRc s1.rc m) ∧ step P (lone { Fr b1 a1 todo1 with mode:=.returning } cs1 w1) = .next (lone { Fr b { a with defers:=ds } todo with mode:=md2 } cs w1):=by
          rcases hto1 with ⟨hrc,rfl⟩ | ⟨v0,c0,rest,vC,hrc0,hrc,he,hmc,rfl⟩
          · have hs1:=st_dret (P:=P) (fr:={ Fr b1 a1 todo1 with mode:=.returning }) (c0:={ Fr b { a with defers:=ds } todo with mode:=md }) (rest:=cs) (w:=w1) rfl (by simp only [Fr]; exact hda1) (by simp only [Fr]; exact hk1) (by simp only [Fr]; rw [hb1]; exact hf) hres'
            refine ⟨md,?_,?_⟩
            · rw [hrc]
              cases m with
              | none => exact hm
              | some v => exact hm.mono hT1.tr.le
            · rw [hs1]
              cases m with
              | none =>
                have : md = .returning:=hm
                subst this
                rfl
              | some v =>
                obtain ⟨vC,h1,h2⟩:=hm
                subst h1
                rfl
          · cases he
            have hs1:=st_dret (P:=P) (fr:={ Fr b1 a1 todo1 with mode:=.returning }) (c0:={ Fr b { a with defers:=ds } todo with mode:=.panicking [{ v:=vC,recovered:=true }] }) (rest:=cs) (w:=w1) rfl (by simp only [Fr]; exact hda1) (by simp only [Fr]; exact hk1) (by simp only [Fr]; rw [hb1]; exact hf) hres'
            refine ⟨.returning,?_,?_⟩
            · rw [hrc]; rfl
            · rw [hs1]; rfl
        obtain ⟨md2,hmd2,hst2⟩:=hend
        obtain ⟨hFa,hTa⟩:=hF.frame hT1
        have hF2:=hFa.dropDefers (hDs.mono hT1.tr.le)
        obtain ⟨E',w',a',md',g1,g2,g3,g4,g5,g6⟩:=ih _ _ m' H' hu E1 { s with H:=s1.H,defers:=vs } _ { a with defers:=ds } b todo cs md2 hF2 rfl rfl hmd2
        exact ⟨E',w',a',md',g1,hTa.trans g2,hT1.trans g3,g4,g5,.head hst0 (hst.trans (.head hst2 g6))⟩
end GoV
namespace GoV
open Go
variable {P : Program} {E E' : Env}
theorem csOK_normal (E : Env) (cs : List Frame) : CsOK E .no .normal cs:=by
  intro fr hk
  cases cs <;> simp [tryRecover,hk]
theorem csTo_no {rc : Rc} {cs cs' : List Frame} (h : CsTo .no rc cs cs') : rc = .no ∧ cs' = cs:=by
  rcases h with h | ⟨v,_,_,_,h,_⟩
  · exact h
  · cases h
theorem DL.nil_inv {ds : List Deferred} (h : DL E ds []) : ds = []:=by cases h; rfl
theorem callF_leaves {rec : Rec} (hs : Sound rec) {pol : Pol} {f : Nat} {args : List PV} {H H' : Heap} {r : CR} (hc : callF rec P pol f args H = some (r,H')) {w : World} {vals : List Value} (hS : Sim E H w) (hR : RL E vals args) (cs : List Frame) :
    (∀ w0,(callFunc f vals.toArray).run P w0 = .ok (.enter f vals.toArray) w0) ∧ ∃ E' w' fr,HTr E H w E' H' w' ∧ Steps P (lone (Frame.enter P f vals.toArray .normal) cs w) (lone fr cs w') ∧ fr.fn = f ∧ (∃ fn,P.funcs[f]? = some fn) ∧
      match r with
      | .ret v => ∃ vC,R E' vC v ∧ fr.leaving P w' (.returned vC)
      | .pan v => ∃ vC,R E' vC v ∧ fr.leaving P w' (.panicked [{ v:=vC,recovered:=false }]):=by
  unfold callF at hc
  simp only [Option.bind_eq_some_iff] at hc
  obtain ⟨⟨fn,m,s⟩,hb,⟨m',H1⟩,hu,hc⟩:=hc
  obtain ⟨hf,hbs,hnm,E1,w1,a1,cs1,b,todo,md,hF,hT,_,hto,hbf,hbk,hbr,_,_,hmd,hst⟩:=body_sound (P:=P) hs hb hS hR (csOK_normal E cs)
  obtain ⟨_,rfl⟩:=csTo_no hto
  have hmd' : ModeOK E1 md m:=by
    cases m with
    | none => exact hmd
    | some v => exact hmd
  obtain ⟨E2,w2,a2,md2,hF2,_,hT2,hm2,hd2,hst2⟩:=unwind_sound (P:=P) hs s.defers m s.H m' H1 hu E1 s w1 a1 b todo cs1 md hF rfl rfl hmd'
  refine ⟨fun w0 => callFunc_run hf hbs hnm _ w0,?_⟩
  cases m' with
  | none =>
    simp only [Option.map_eq_some_iff] at hc
    obtain ⟨vs,hvs,hc⟩:=hc
    simp at hc
    obtain ⟨rfl,rfl⟩:=hc
    obtain ⟨vC,hres,hRv⟩:=results_run (P:=P) hF2 (fn:=fn) (vs:=vs) hvs
    have : md2 = .returning:=hm2
    subst this
    exact ⟨E2,w2,_,hT.trans hT2,hst.trans hst2,hbf,⟨fn,hf⟩,vC,hRv,rfl,hd2,hbk,fn,by simp only [Fr]; rw [hbf]; exact hf,hres⟩
  | some v =>
    simp at hc
    obtain ⟨rfl,rfl⟩:=hc
    obtain ⟨vC,rfl,hRv⟩:=hm2
    exact ⟨E2,w2,_,hT.trans hT2,hst.trans hst2,hbf,⟨fn,hf⟩,vC,hRv,rfl,hd2,fn,by simp only [Fr]; rw [hbf]; exact hf⟩
theorem callF_sound {rec : Rec} (hs : Sound rec) {pol : Pol} {f : Nat} {args : List PV} {H H' : Heap} {r : CR} (hc : callF rec P pol f args H = some (r,H')) {w : World} {vals : List Value} (hS : Sim E H w) (hR : RL E vals args) (c : Frame) (cs : List Frame) :
    CallOK P E H w (lone (Frame.enter P f vals.toArray .normal) (c :: cs) w) c cs r H':=by
  obtain ⟨_,E',w',fr,hT,hst,_,_,hr⟩:=callF_leaves hs hc hS hR (c :: cs)
  refine ⟨E',w',hT,?_⟩
  cases r with
  | ret v =>
    obtain ⟨vC,hR,hl⟩:=hr
    exact ⟨vC,hR,hst.trans (.one (step_leave_returned hl))⟩
  | pan v =>
    obtain ⟨vC,hR,hl⟩:=hr
    exact ⟨vC,hR,hst.trans (.one (step_leave_panicked hl))⟩
theorem putPs_R {nt : Nat} : ∀ (ps : List Nat) (args : List PV) (vals : List Value) (t t0 : Nat → PV) (tmps : Array Value),putPs nt ps args t = some t0 → RL E vals args → tmps.size = nt → (∀ i,R E (tmps.getD i undef) (t i)) →
    ((ps.zip vals).foldl (fun (x : Array Value) (y : Nat × Value) => x.setIfInBounds y.1 y.2) tmps).size = nt ∧ (∀ i,R E (((ps.zip vals).foldl (fun (x : Array Value) (y : Nat × Value) => x.setIfInBounds y.1 y.2) tmps).getD i undef) (t0 i)) ∧ vals.length = ps.length
  | [],args,vals,t,t0,tmps,h,hR,hsz,htm => by
    cases args with
    | nil => cases hR; simp [putPs] at h; subst h; exact ⟨hsz,htm,rfl⟩
    | cons => simp [putPs] at h
  | p :: ps,args,vals,t,t0,tmps,h,hR,hsz,htm => by
    cases args with
    | nil => simp [putPs] at h
    | cons q args =>
      cases hR with
      | cons v _ vals _ hv hR =>
      simp only [putPs] at h
      split at h
      · next hp =>
        obtain ⟨h1,h2,h3⟩:=putPs_R ps args vals (upd t p q) t0 (tmps.setIfInBounds p v) h hR (by simpa using hsz) (by
          intro i
          simp only [upd_apply]
          split
          · next e =>
            subst e
            have : i < tmps.size:=by rw [hsz]; exact hp
            simpa [Array.getD_eq_getD_getElem?,this] using hv
          · next e =>
            have:=htm i
            simpa [Array.getD_eq_getD_getElem?,Array.getElem?_setIfInBounds,Ne.symm e] using this)
        exact ⟨h1,h2,by simp [h3]⟩
      · simp at h
theorem getLoop_run {w : World} {bl : Nat} {L : Loop} (h : w.heap[bl]? = some (.loop L)) : (Instr.getLoop bl).run P w = .ok L w:=by
  simp [Instr.getLoop,getObj,Sem.run,h]
theorem setObj_run {w : World} {bl : Nat} {L : Loop} (h : w.heap[bl]? = some (.loop L)) (o : Obj) : (setObj bl o).run P w = .ok () { w with heap:=w.heap.setIfInBounds bl o }:=by
  simp [setObj,Sem.run,h]
theorem setObj_heap {w : World} {bl : Nat} {o o' : Obj} (h : w.heap[bl]? = some o) : ({ w with heap:=w.heap.setIfInBounds bl o' } : World).heap[bl]? = some o':=by
  have:=(Array.getElem?_eq_some_iff.1 h).1
  simp [this]
theorem HTr.setLoop {H : Heap} {w : World} (h : Sim E H w) {l bl fn nt d : Nat} {st st' : LoopSt} {tmps : Nat → PV} {ps : List Nat} {assign body : Code} {L : Loop} (hid : H.rows l = some (.loop st fn nt tmps ps assign body d)) (hm : E.mu l 0 = some (some bl)) (hh : w.heap[bl]? = some (.loop L))
    (state : LoopState) (pend : Option Code) (h1 : state = (pendOf st').1) (h2 : st' ≠ .busy → pend = (pendOf st').2) :
    HTr E H w E (H.set l (.loop st' fn nt tmps ps assign body d)) { w with heap:=w.heap.setIfInBounds bl (.loop { L with state,pending:=pend }) }:=by
  obtain ⟨h0,b0,L0,hm0,hh0,_,_,g1,g2,g3,g4,g5,g6,g7⟩:=h.row _ _ hid
  rw [hm] at hm0; cases hm0
  rw [hh] at hh0; cases hh0
  have hb : E.blk l (.loop st fn nt tmps ps assign body d) = some bl:=by simp [Env.blk,hm]
  have hkeep : ∀ b',b' ≠ bl → ({ w with heap:=w.heap.setIfInBounds bl (.loop { L with state,pending:=pend }) } : World).heap[b']? = w.heap[b']?:=by
    intro b' hb'
    simp [Array.getElem?_setIfInBounds,Ne.symm hb']
  refine HTr.setRow h hid (Env.le_refl E) (fun _ _ _ => rfl) (fun _ _ => rfl) rfl ?_ (fun _ _ _ => rfl) ?_ (fun b' _ hne => hkeep b' fun e => hne (e ▸ hb)) (by simp) rfl rfl rfl ?_
  · intro b' o' v hv
    obtain ⟨k1,k2⟩:=h.stab b' o' v hv
    have : b' ≠ bl:=by
      rintro rfl
      simp [World.cell?,hh] at k1
    exact ⟨by rw [cell_of_heap (hkeep b' this)]; exact k1,k2⟩
  · intro b' hb'
    have : E.blk l (.loop st' fn nt tmps ps assign body d) = some bl:=by simp [Env.blk,hm]
    rw [this] at hb'; cases hb'; exact .inl hb
  · exact ⟨h0,bl,_,hm,setObj_heap hh,h1,h2,g1,g2,g3,g4,g5,g6,g7⟩
theorem stepG_run {fr : Frame} {cs : List Frame} {w : World} (h : fr.mode = .run) : stepG P true { frame:=fr,callers:=cs,status:=.running,dying:=none } w = stepG.exec P true true fr cs none w:=by
  unfold stepG
  simp [h]
theorem st_beginRound {b : Frame} {a : Act} {k : List Item} {cs : List Frame} {w : World} {bl : Nat} {L : Loop} (hr : b.roundOf = some bl) (hh : w.heap[bl]? = some (.loop L)) (hst : L.state = .ready) :
    step P (lone (Fr b a (.beginRound :: k)) cs w) = .next (lone (Fr b a k) cs { w with heap:=w.heap.setIfInBounds bl (.loop { L with state:=.busy }) }):=
  step_lone_go (by
    rw [stepG_run rfl]
    have : (Instr.beginRound bl).run P w = .ok () { w with heap:=w.heap.setIfInBounds bl (.loop { L with state:=.busy }) }:=by
      simp [Instr.beginRound,getLoop_run hh,setObj_run hh,hst]
    simp [stepG.exec,stepG.apply,Fr,hr,this,Frame.finish])
theorem endRound_run {w : World} {bl : Nat} {L : Loop} (hh : w.heap[bl]? = some (.loop L)) (j : Option Code) :
    (Instr.endRound bl j).run P w = .ok (.bool j.isNone) { w with heap:=w.heap.setIfInBounds bl (.loop { L with state:=if j.isNone then .ready else .done,pending:=j }) }:=by
  simp [Instr.endRound,getLoop_run hh,setObj_run hh]
theorem st_endRound {b : Frame} {a : Act} {cs : List Frame} {c : Frame} {w : World} {bl : Nat} {L : Loop} (hr : b.roundOf = some bl) (hk : b.kind = .normal) (hh : w.heap[bl]? = some (.loop L)) :
    step P (lone (Fr b a []) (c :: cs) w) = .next (lone (c.finish (.bool true)) cs { w with heap:=w.heap.setIfInBounds bl (.loop { L with state:=.ready,pending:=none }) }):=
  step_lone_go (by
    rw [stepG_run rfl]
    have:=endRound_run (P:=P) hh none
    simp [stepG.exec,Fr,hr,this,doReturn,hk])
theorem st_endRound_ret {b : Frame} {a : Act} {k : List Item} {cs : List Frame} {c : Frame} {w : World} {bl : Nat} {L : Loop} (hr : b.roundOf = some bl) (hk : b.kind = .normal) (hh : w.heap[bl]? = some (.loop L)) :
    step P (lone (Fr b a (.code .ret :: k)) (c :: cs) w) = .next (lone (c.finish (.bool false)) cs { w with heap:=w.heap.setIfInBounds bl (.loop { L with state:=.done,pending:=some .ret }) }):=
  step_lone_go (by
    rw [stepG_run rfl]
    have:=endRound_run (P:=P) hh (some .ret)
    simp [stepG.exec,Fr,hr,this,doReturn,hk])
theorem st_endRound_exit {b : Frame} {a : Act} {k : List Item} {cs : List Frame} {c : Frame} {w : World} {bl id : Nat} {L : Loop} (hr : b.roundOf = some bl) (hk : b.kind = .normal) (hh : w.heap[bl]? = some (.loop L)) (he : exitTo id k = none) :
    step P (lone (Fr b a (.code (.exit id) :: k)) (c :: cs) w) = .next (lone (c.finish (.bool false)) cs { w with heap:=w.heap.setIfInBounds bl (.loop { L with state:=.done,pending:=some (.exit id) }) }):=
  step_lone_go (by
    rw [stepG_run rfl]
    have:=endRound_run (P:=P) hh (some (.exit id))
    simp [stepG.exec,Fr,hr,he,this,doReturn,hk])
end GoV
namespace GoV
open Go
variable {P : Program} {E E' : Env}
theorem HTr.of_round {E E1 : Env} {s0 s1 : St} {w w1 : World} {H : Heap} (hb : s0.boxes = fun _ => none) (hH : s0.H = ⟨H.rows,H.next + 1⟩) (hf : s0.fid = H.next) (hsim : Sim E1 s1.H w1) (k : Tr s0.fid E s0.H.next (ownF E s0) w E1 s1.H.next (ownF E1 s1) w1) : HTr E H w E1 s1.H w1:=by
  have h0 : ownF E s0 = own E H:=by rw [ownF_none hb,hH]; rfl
  refine ⟨hsim,⟨k.le,k.os,k.tape,k.output,k.size,?_,?_,?_,?_,?_⟩⟩
  · have:=k.next; rw [hH] at this; simp only at this; omega
  · intro b hb ho; exact k.kept b hb (by rw [h0]; exact ho)
  · intro b ho; have:=k.own b (.inl ho); rwa [h0] at this
  · intro b o h1 h2; have:=k.S b o h1 h2; rwa [h0] at this
  · intro g t n hg hne
    exact k.be g t n (by rw [hH]; simp only; omega) (by rw [hf]; exact hne)
theorem Tr.cast {fid fid' : Nat} {E1 : Env} {n n1 : Nat} {ow ow1 : Nat → Prop} {w w1 : World} (e : fid = fid') (k : Tr fid E n ow w E1 n1 ow1 w1) : Tr fid' E n ow w E1 n1 ow1 w1:=e ▸ k
theorem yieldF_sound {rec : Rec} (hs : Sound rec) {pol : Pol} {l : Nat} {args : List PV} {H H' : Heap} {r : CR} (hy : yieldF rec P pol l args H = some (r,H')) {w : World} {vals : List Value} (hS : Sim E H w) (hR : RL E vals args) :
    ∃ bl f tmps assign body,E.mu l 0 = some (some bl) ∧ (∀ x,E.mu l 0 = some (some x) → (Instr.yield x vals.toArray).run P w = .ok (.round x f tmps assign body) w) ∧
      ∀ (c : Frame) (cs : List Frame),CallOK P E H w (lone (Frame.round bl f tmps assign body .normal) (c :: cs) w) c cs r H':=by
  unfold yieldF at hy
  split at hy
  case h_2 => simp at hy
  next fn nt tmps ps assign body d0 hrow =>
  split at hy
  · simp at hy
  next hfn =>
  obtain ⟨fn0,hfn0⟩ : ∃ f0,P.funcs[fn]? = some f0:=by
    cases hq : P.funcs[fn]? with
    | none => simp [hq] at hfn
    | some f0 => exact ⟨f0,rfl⟩
  simp only [Option.bind_eq_some_iff] at hy
  obtain ⟨t0,hput,⟨ex1,s1⟩,hrec1,hy⟩:=hy
  obtain ⟨_,bl,L,hm,hh,hst,hpend,rfl,hsz,htm,hps,rfl,rfl,hd,hdm,hdl⟩:=hS.row _ _ hrow
  obtain ⟨hsz0,htm0,hlen⟩:=putPs_R ps args vals tmps t0 L.tmps hput hR hsz htm
  refine ⟨bl,L.fn,(L.params.zip vals.toArray).foldl (fun tmps (x : Nat × Value) => tmps.setIfInBounds x.1 x.2) L.tmps,L.assign,L.body,hm,?_,?_⟩
  · intro x hx
    rw [hm] at hx; cases hx
    have : vals.toArray.size = L.params.size:=by rw [hps]; simpa using hlen
    simp [Instr.yield,getLoop_run hh,this]
  intro c cs
  have htmps : (L.params.zip vals.toArray).foldl (fun tmps (x : Nat × Value) => tmps.setIfInBounds x.1 x.2) L.tmps = (ps.zip vals).foldl (fun (x : Array Value) (y : Nat × Value) => x.setIfInBounds y.1 y.2) L.tmps:=by
    rw [hps]
    rw [← Array.foldl_toList]
    simp
  rw [htmps]
  generalize hT0 : (ps.zip vals).foldl (fun (x : Array Value) (y : Nat × Value) => x.setIfInBounds y.1 y.2) L.tmps = T0 at hsz0 htm0
  let b : Frame:=Frame.round bl L.fn T0 L.assign L.body .normal
  let s0 : St:=⟨H.next,t0,fun _ => none,[],⟨H.rows,H.next + 1⟩,.no⟩
  let a0 : Act:={ tmps:=T0,defers:=[] }
  have hF0 : SimF nt E s0 w a0:=⟨hS.next,hsz0,htm0,⟨by simp [s0],by simp [s0],fun t n _ => hS.freshB _ _ _ (Nat.le_refl _),Nat.lt_succ_self _⟩,.nil⟩
  have hframe : Frame.round bl L.fn T0 L.assign L.body .normal = Fr b a0 [.code L.assign,.beginRound,.code L.body]:=rfl
  have hbk : b.kind = .normal:=rfl
  have hbr : b.roundOf = some bl:=rfl
  have hcs0:=csOK_normal E (c :: cs)
  obtain ⟨E1,w1,a1,cs1,hF1,hTr1,hfid1,hcs1,hto1,harr1⟩:=hs _ _ _ _ _ hrec1 E w a0 b [.beginRound,.code L.body] (c :: cs) hF0 ⟨rfl,bl,rfl,hm⟩ hcs0
  obtain ⟨hrc1,rfl⟩:=csTo_no hto1
  split at hy
  case h_2 => simp at hy
  next fn' nt' tmps' ps' assign' body' d' hex1 hdf1 hrow1 =>
  simp only at hex1 hdf1 hrow1
  subst hex1
  simp only [Option.bind_eq_some_iff] at hy
  obtain ⟨⟨ex2,s2⟩,hrec2,hy⟩:=hy
  have hm1 : E1.mu l 0 = some (some bl):=(hTr1.le.mu _ _ _ hm).1
  obtain ⟨_,bl1,L1,hmm1,hh1,hst1,hpd1,_,_,_,_,_,_,_⟩:=hF1.sim.row _ _ hrow1
  rw [hm1] at hmm1; cases hmm1
  have hB:=HTr.setLoop (st':=.busy) hF1.sim hrow1 hm1 hh1 .busy L1.pending rfl (by simp)
  have hstep1:=st_beginRound (P:=P) (b:=b) (a:=a1) (k:=[.code L.body]) (cs:=c :: cs) hbr hh1 hst1
  obtain ⟨hF2,hTr2⟩:=hF1.frame hB
  have hrc1' : (CsOK E1 s1.rc b.kind (c :: cs)):=hcs1
  obtain ⟨E3,w3,a3,cs3,hF3,hTr3,hfid3,hcs3,hto3,harr3⟩:=hs _ _ _ _ _ hrec2 E1 _ a1 b [] (c :: cs) hF2 ⟨rfl,bl,rfl,hm1⟩ hrc1'
  have hto3' : CsTo .no s2.rc (c :: cs) cs3:=by
    have : s1.rc = .no:=hrc1
    simp only at hto3
    rw [this] at hto3
    exact hto3
  obtain ⟨hrc3,rfl⟩:=csTo_no hto3'
  split at hy
  case h_2 => simp at hy
  next lst fn2 nt2 tmps2 ps2 assign2 body2 d2 hdf2 hrow2 =>
  simp only at hdf2 hrow2
  have hda3 : a3.defers = []:=by have:=hF3.df; rw [hdf2] at this; exact this.nil_inv
  have hm3 : E3.mu l 0 = some (some bl):=(hTr3.le.mu _ _ _ hm1).1
  obtain ⟨_,bl3,L3,hmm3,hh3,_⟩:=hF3.sim.row _ _ hrow2
  rw [hm3] at hmm3; cases hmm3
  have hAll : HTr E H w E3 s2.H w3:=by
    have e : s1.fid = s0.fid:=hfid1
    exact HTr.of_round (s0:=s0) (s1:=s2) rfl rfl rfl hF3.sim ((hTr1.trans (Tr.cast e hTr2)).trans (Tr.cast e hTr3))
  have hsteps : Steps P (lone (Fr b a0 [.code L.assign,.beginRound,.code L.body]) (c :: cs) w) (lone (Fr b a1 [.code L.body]) (c :: cs) { w1 with heap:=w1.heap.setIfInBounds bl (.loop { L1 with state:=.busy }) }):=
    Steps.trans harr1 (.one hstep1)
  rw [hframe]
  cases ex2 with
  | normal =>
    simp at hy
    obtain ⟨rfl,rfl⟩:=hy
    have hE:=HTr.setLoop (st':=.ready) hF3.sim hrow2 hm3 hh3 .ready none rfl (by simp [pendOf])
    exact ⟨E3,_,hAll.trans hE,.bool true,.bool _,hsteps.trans (Steps.trans harr3 (.one (st_endRound hbr hbk hh3)))⟩
  | ret =>
    simp at hy
    obtain ⟨rfl,rfl⟩:=hy
    obtain ⟨k0,harr3⟩:=harr3
    have hE:=HTr.setLoop (st':=.over (some .ret)) hF3.sim hrow2 hm3 hh3 .done (some .ret) rfl (by simp [pendOf])
    exact ⟨E3,_,hAll.trans hE,.bool false,.bool _,hsteps.trans (Steps.trans harr3 (.one (st_endRound_ret hbr hbk hh3)))⟩
  | exit id =>
    simp at hy
    obtain ⟨rfl,rfl⟩:=hy
    obtain ⟨k0,hek,harr3⟩:=harr3
    have hE:=HTr.setLoop (st':=.over (some (.exit id))) hF3.sim hrow2 hm3 hh3 .done (some (.exit id)) rfl (by simp [pendOf])
    exact ⟨E3,_,hAll.trans hE,.bool false,.bool _,hsteps.trans (Steps.trans harr3 (.one (st_endRound_exit hbr hbk hh3 (by rw [hek]; rfl))))⟩
  | pan v =>
    simp at hy
    obtain ⟨rfl,rfl⟩:=hy
    obtain ⟨todo,vC,hRv,harr3⟩:=harr3
    refine ⟨E3,w3,hAll,vC,hRv,hsteps.trans (Steps.trans harr3 (.one ?_))⟩
    refine step_leave_panicked ⟨rfl,hda3,fn0,?_⟩
    exact hfn0
end GoV
