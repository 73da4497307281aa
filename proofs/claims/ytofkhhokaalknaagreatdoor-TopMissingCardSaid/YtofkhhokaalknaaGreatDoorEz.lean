/-
  A reading of the machine's code over plain values, proved to say what the machine does (part 6).
-/
import Derived.Test.YtofkhhokaalknaaGreatDoorEe
import Derived.ProofKit
import Derived.ChangeSame
set_option linter.unusedSimpArgs false
set_option linter.unusedVariables false
set_option linter.unusedSectionVars false
namespace GoV
open Go
def aggB (P : Program) (t : TypeId) : Bool:=match P.underlying t with
  | some (.struct _) | some (.array _ _) => true
  | _ => false
def tileB (P : Program) : List Field → Nat → Nat → Bool
  | [],off,n => off == n
  | f :: r,off,n => f.offset == off && tileB P r (off + P.cellsOf f.type) n
def plainT (P : Program) : Nat → TypeId → Bool
  | 0,_ => false
  | g + 1,t => match P.underlying t with
    | some .bool | some (.int _) | some .string => true
    | some (.slice e) => plainT P g e && Nat.blt 0 (P.cellsOf e)
    | some (.struct fs) => tileB P fs.toList 0 (P.cellsOf t) && fs.toList.all fun f => plainT P g f.type
    | some (.array n e) => (n * P.cellsOf e == P.cellsOf t) && plainT P g e
    | _ => false
def ShF (S : TypeId → List PV → Prop) : List Field → List PV → Prop
  | [],cs => cs = []
  | f :: r,cs => ∃ a b,cs = a ++ b ∧ S f.type a ∧ ShF S r b
def ShA (S : List PV → Prop) : Nat → List PV → Prop
  | 0,cs => cs = []
  | n + 1,cs => ∃ a b,cs = a ++ b ∧ S a ∧ ShA S n b
def elOf (agg : Bool) (cs : List PV) : PV:=if agg then .agg cs else cs.headD .any
def Sh (N : TypeId → Bool) (P : Program) : Nat → TypeId → List PV → Prop
  | 0,_,_ => False
  | g + 1,t,cs => match P.underlying t with
    | some .bool => ∃ b,cs = [.bool b]
    | some (.int k) => ∃ n,cs = [.int k n] ∧ (Lit.int k n).wf = true
    | some .string => ∃ s,cs = [.str s] ∧ s.size ≤ maxLen
    | some (.slice e) => (N t = true ∧ (cs = [.nils] ∨ ∃ c,cs = [.vs (P.cellsOf e) [] (some c)])) ∨ ∃ es : List PV,cs = [.vs (P.cellsOf e) es none] ∧ (N t = true → es ≠ []) ∧ es.length ≤ maxLen ∧ ∀ x ∈ es,∃ ps,x = elOf (aggB P e) ps ∧ Sh N P g e ps
    | some (.struct fs) => ShF (Sh N P g) fs.toList cs
    | some (.array n e) => ShA (Sh N P g e) n cs
    | _ => False
theorem Sh_one {N : TypeId → Bool} {P : Program} {g : Nat} {t : TypeId} {ps : List PV} (ha : aggB P t = false) (h : Sh N P g t ps) : ∃ p,ps = [p] ∧ p.cells = [p]:=by
  cases g with
  | zero => simp [Sh] at h
  | succ g =>
    unfold Sh at h
    unfold aggB at ha
    cases hu : P.underlying t with
    | none => rw [hu] at h; exact h.elim
    | some u =>
      rw [hu] at h ha
      cases u <;> simp only [Bool.true_eq_false] at h ha
      · obtain ⟨b,rfl⟩:=h; exact ⟨_,rfl,rfl⟩
      · obtain ⟨b,rfl,_⟩:=h; exact ⟨_,rfl,rfl⟩
      · obtain ⟨b,rfl,_⟩:=h; exact ⟨_,rfl,rfl⟩
      · rcases h with ⟨_,rfl | ⟨c,rfl⟩⟩ | ⟨es,rfl,_⟩
        · exact ⟨_,rfl,rfl⟩
        · exact ⟨_,rfl,rfl⟩
        · exact ⟨_,rfl,rfl⟩
theorem el_cells {N : TypeId → Bool} {P : Program} {g : Nat} {t : TypeId} {ps : List PV} (h : Sh N P g t ps) : (elOf (aggB P t) ps).cells = ps:=by
  cases ha : aggB P t with
  | true => rfl
  | false =>
    obtain ⟨p,rfl,hp⟩:=Sh_one ha h
    simpa [elOf] using hp
section
variable {N : TypeId → Bool} {H : Type} {enc : TypeId × Value → H} {P : Program} {w : World} [Laid w] {base : Nat} {spare : Nat → Bool} {held : Bool}
theorem tile_RL {g : Nat} {fuel : Nat} {cs : List Value} (ih : ∀ fuel t cs d ps,plainT P g t = true → DataW.trod enc P w base spare held fuel t cs = some (d,ps) → ∃ pvs,RL (Env.start w) cs pvs ∧ Sh N P g t pvs ∧ ∀ c ∈ cs,c.oneCell' = true) :
    ∀ (fs : List Field) (off : Nat),tileB P fs off cs.length = true → (∀ f ∈ fs,plainT P g f.type = true) →
      (∀ f ∈ fs,∃ x,DataW.trod enc P w base spare held fuel f.type ((cs.drop f.offset).take (P.cellsOf f.type)) = some x) →
      off ≤ cs.length ∧ ∃ pvs,RL (Env.start w) (cs.drop off) pvs ∧ ShF (Sh N P g) fs pvs ∧ ∀ c ∈ cs.drop off,c.oneCell' = true
  | [],off,ht,_,_ => by
    simp only [tileB,beq_iff_eq] at ht
    subst ht
    exact ⟨Nat.le_refl _,[],by simpa using RL.nil,rfl,by simp⟩
  | f :: r,off,ht,hp,hm => by
    simp only [tileB,Bool.and_eq_true,beq_iff_eq] at ht
    obtain ⟨ho,ht⟩:=ht
    obtain ⟨⟨d,q⟩,h1⟩:=hm f (by simp)
    obtain ⟨hl,pr,r1,r2,r3⟩:=tile_RL ih r (off + P.cellsOf f.type) ht (fun f' hf => hp f' (by simp [hf])) fun f' hf => hm f' (by simp [hf])
    obtain ⟨pf,f1,f2,f3⟩:=ih fuel _ _ _ _ (hp f (by simp)) h1
    have e : cs.drop off = (cs.drop f.offset).take (P.cellsOf f.type) ++ cs.drop (off + P.cellsOf f.type):=by
      rw [ho,← List.drop_drop,List.take_append_drop]
    refine ⟨by omega,pf ++ pr,by rw [e]; exact f1.append r1,⟨pf,pr,rfl,f2,r2⟩,?_⟩
    rw [e]
    intro c hc
    rcases List.mem_append.1 hc with hc | hc
    · exact f3 c hc
    · exact r3 c hc
theorem arr_RL {g : Nat} {fuel : Nat} {cs : List Value} {e : TypeId} (he : plainT P g e = true) (ih : ∀ fuel t cs d ps,plainT P g t = true → DataW.trod enc P w base spare held fuel t cs = some (d,ps) → ∃ pvs,RL (Env.start w) cs pvs ∧ Sh N P g t pvs ∧ ∀ c ∈ cs,c.oneCell' = true) :
    ∀ (m k : Nat) (xs : List (DataW H × List MemPlace)),(k + m) * P.cellsOf e = cs.length →
      ((List.range' k m).mapM fun i => DataW.trod enc P w base spare held fuel e ((cs.drop (i * P.cellsOf e)).take (P.cellsOf e))) = some xs →
      ∃ pvs,RL (Env.start w) (cs.drop (k * P.cellsOf e)) pvs ∧ ShA (Sh N P g e) m pvs ∧ ∀ c ∈ cs.drop (k * P.cellsOf e),c.oneCell' = true
  | 0,k,xs,hl,_ => by
    have : cs.drop (k * P.cellsOf e) = []:=by simp at hl ⊢; omega
    rw [this]
    exact ⟨[],.nil,rfl,by simp⟩
  | m + 1,k,xs,hl,hm => by
    simp only [List.range'_succ,List.mapM_cons,Option.pure_def,Option.bind_eq_bind,Option.bind_eq_some_iff] at hm
    obtain ⟨⟨d,q⟩,h1,ys,h2,_⟩:=hm
    obtain ⟨pr,r1,r2,r3⟩:=arr_RL he ih m (k + 1) ys (by rw [← hl]; congr 1; omega) h2
    obtain ⟨pf,f1,f2,f3⟩:=ih fuel _ _ _ _ he h1
    have e' : cs.drop (k * P.cellsOf e) = (cs.drop (k * P.cellsOf e)).take (P.cellsOf e) ++ cs.drop ((k + 1) * P.cellsOf e):=by
      rw [Nat.succ_mul,← List.drop_drop,List.take_append_drop]
    refine ⟨pf ++ pr,by rw [e']; exact f1.append r1,⟨pf,pr,rfl,f2,r2⟩,?_⟩
    rw [e']
    intro c hc
    rcases List.mem_append.1 hc with hc | hc
    · exact f3 c hc
    · exact r3 c hc
theorem start_S {b o : Nat} {v : Value} (h : w.cell? ⟨b,o,none⟩ = some v) (h1 : v.oneCell' = true) : (Env.start w).S b o = some v:=by
  simp [Env.start,h,h1]
theorem addr_add_none (b o i : Nat) : (⟨b,o,none⟩ : Addr).add i = ⟨b,o + i,none⟩:=by
  unfold Addr.add; split <;> simp_all
theorem sl_RL {g : Nat} {fuel : Nat} {e : TypeId} {b o : Nat} (he : plainT P g e = true) (ih : ∀ fuel t cs d ps,plainT P g t = true → DataW.trod enc P w base spare held fuel t cs = some (d,ps) → ∃ pvs,RL (Env.start w) cs pvs ∧ Sh N P g t pvs ∧ ∀ c ∈ cs,c.oneCell' = true)
    : ∀ (n : Nat),(∀ i < n,∃ x,((w.cells? base ((⟨b,o,none⟩ : Addr).add (i * P.cellsOf e)) (P.cellsOf e)).bind (DataW.trod enc P w base spare held fuel e)) = some x) →
      ∃ (vals : List Value) (es : List PV),vals.length = n * P.cellsOf e ∧ es.length = n ∧ (∀ j < n * P.cellsOf e,w.cell? ⟨b,o + j,none⟩ = vals[j]?) ∧ RL (Env.start w) vals (flat es) ∧ (∀ c ∈ vals,c.oneCell' = true) ∧
        (∀ x ∈ es,x.cells.length = P.cellsOf e) ∧ ∀ x ∈ es,∃ ps,x = elOf (aggB P e) ps ∧ Sh N P g e ps
  | 0,_ => ⟨[],[],by simp,rfl,by simp,.nil,by simp,by simp,by simp⟩
  | n + 1,h => by
    obtain ⟨vals,es,h1,h2,h3,h4,h5,h6,h7⟩:=sl_RL he ih n fun i hi => h i (by omega)
    obtain ⟨x,hx⟩:=h n (by omega)
    simp only [Option.bind_eq_some_iff] at hx
    obtain ⟨cs,hc,hx⟩:=hx
    obtain ⟨_,hl,hcell⟩:=World.cells?_some hc
    obtain ⟨pvs,p1,p2,p3⟩:=ih fuel e cs x.1 x.2 he hx
    have hel:=el_cells p2
    refine ⟨vals ++ cs,es ++ [elOf (aggB P e) pvs],by simp [h1,hl,Nat.succ_mul],by simp [h2],?_,?_,?_,?_,?_⟩
    · intro j hj
      by_cases hlt : j < n * P.cellsOf e
      · rw [List.getElem?_append_left (by omega)]
        exact h3 j hlt
      · rw [Nat.succ_mul] at hj
        rw [List.getElem?_append_right (by omega),h1]
        have:=hcell (j - n * P.cellsOf e) (by omega)
        rw [addr_add_none,addr_add_none] at this
        rw [← this]
        congr 2
        omega
    · rw [flat_append]
      refine h4.append ?_
      simp only [flat_cons,flat_nil,List.append_nil,hel]
      exact p1
    · intro c hc
      rcases List.mem_append.1 hc with hc | hc
      · exact h5 c hc
      · exact p3 c hc
    · intro x hx
      rcases List.mem_append.1 hx with hx | hx
      · exact h6 x hx
      · simp at hx; subst hx
        rw [hel,← p1.length,hl]
    · intro x hx
      rcases List.mem_append.1 hx with hx | hx
      · exact h7 x hx
      · simp at hx; subst hx
        exact ⟨pvs,rfl,p2⟩
theorem trod_Sh : ∀ (g fuel : Nat) (t : TypeId) (cs : List Value) (d : DataW H) (ps : List MemPlace),plainT P g t = true → DataW.trod enc P w base spare held fuel t cs = some (d,ps) →
    ∃ pvs,RL (Env.start w) cs pvs ∧ Sh N P g t pvs ∧ ∀ c ∈ cs,c.oneCell' = true
  | 0,_,_,_,_,_,hp,_ => by simp [plainT] at hp
  | g + 1,0,_,_,_,_,_,h => by simp [DataW.trod] at h
  | g + 1,fuel + 1,t,cs,d,ps,hp,h => by
    have ih:=fun fuel t cs d ps => trod_Sh g fuel t cs d ps
    unfold plainT at hp
    unfold Sh
    cases hu : P.underlying t with
    | none => rw [hu] at hp; simp at hp
    | some u =>
      cases u <;> rw [hu] at hp <;> simp only [Bool.false_eq_true] at hp <;> simp only []
      case bool =>
        obtain ⟨b,rfl,_⟩:=DataW.trod_bool hu h
        exact ⟨[.bool b],.cons _ _ _ _ (.bool b) .nil,⟨b,rfl⟩,by simp [Value.oneCell']⟩
      case int k =>
        obtain ⟨n,rfl,_,hw⟩:=DataW.trod_int hu h
        exact ⟨[.int k n],.cons _ _ _ _ (.int k n) .nil,⟨n,rfl,hw⟩,by simp [Value.oneCell']⟩
      case string =>
        obtain ⟨s,rfl,_,hs⟩:=DataW.trod_string hu h
        exact ⟨[.str s],.cons _ _ _ _ (.str s) .nil,⟨s,rfl,hs⟩,by simp [Value.oneCell']⟩
      case slice e =>
        simp only [Bool.and_eq_true] at hp
        obtain ⟨he,hz⟩:=hp
        have hz : 0 < P.cellsOf e:=by simpa using hz
        rcases DataW.trod_slice hu h with ⟨rfl,_⟩ | ⟨a,len,cap,elems,rest,n,hn,rfl,_,_,hlc,hcm,hel,hel2,_⟩
        · by_cases hN : N t = true
          · exact ⟨[.nils],.cons _ _ _ _ .nils .nil,.inl ⟨hN,.inl rfl⟩,by simp [Value.oneCell']⟩
          · exact ⟨[.vs (P.cellsOf e) [] none],.cons _ _ _ _ (.vsE _ none 0 none (by simp) (by simp)) .nil,.inr ⟨[],rfl,fun h => absurd h hN,by simp,by simp⟩,by simp [Value.oneCell']⟩
        · have each : ∀ i < len,∃ x,((w.cells? base (a.add (i * P.cellsOf e)) (P.cellsOf e)).bind (DataW.trod enc P w base spare held n e)) = some x:=by
            intro i hi
            rw [hel2 i hi]
            exact ⟨elems[i]'(by omega),by simp⟩
          cases len with
          | zero =>
            by_cases hN : N t = true
            · exact ⟨[.vs (P.cellsOf e) [] (some cap)],.cons _ _ _ _ (.vsE _ (some a) cap (some cap) (by simp) (by simp)) .nil,.inl ⟨hN,.inr ⟨cap,rfl⟩⟩,by simp [Value.oneCell']⟩
            · exact ⟨[.vs (P.cellsOf e) [] none],.cons _ _ _ _ (.vsE _ (some a) cap none (by simp) (by simp)) .nil,.inr ⟨[],rfl,fun h => absurd h hN,by simp,by simp⟩,by simp [Value.oneCell']⟩
          | succ m =>
            have hsp : a.spot = none:=by
              obtain ⟨x,hx⟩:=each 0 (by omega)
              simp only [Option.bind_eq_some_iff,Nat.zero_mul] at hx
              obtain ⟨c0,hc0,_⟩:=hx
              obtain ⟨_,hl0,hcell⟩:=World.cells?_some hc0
              have:=hcell 0 hz
              simp only [Addr.add,if_true] at this
              have hs0 : c0[0]? = some (c0[0]'(by omega)):=by simp
              rw [hs0] at this
              unfold World.cell? at this
              split at this
              · split at this
                · simp at this
                · next hn => simpa using hn
              · simp at this
            obtain ⟨b,o,sp⟩:=a
            simp only at hsp; subst hsp
            obtain ⟨vals,es,h1,h2,h3,h4,h5,h6,h7⟩:=sl_RL he ih (m + 1) each
            refine ⟨[.vs (P.cellsOf e) es none],.cons _ _ _ _ (.vs _ b o cap none vals es (m + 1) h2.symm ?_ h4 h6 (by omega) (by simp)) .nil,.inr ⟨es,rfl,fun _ h0 => (by rw [h0] at h2; simp at h2),by omega,h7⟩,by simp [Value.oneCell']⟩
            intro i v hv
            obtain ⟨hi,_⟩:=List.getElem?_eq_some_iff.1 hv
            refine start_S ?_ (h5 v (List.mem_of_getElem? hv))
            rw [h3 i (by omega)]
            exact hv
      case struct fs =>
        simp only [Bool.and_eq_true,List.all_eq_true] at hp
        obtain ⟨xs,n,hn,_,hl,hxl,hx⟩:=DataW.trod_struct hu h
        obtain ⟨_,pvs,r1,r2,r3⟩:=tile_RL (fuel:=n) ih fs.toList 0 (by rw [hl]; exact hp.1) hp.2 (by
          intro f hf
          obtain ⟨i,hi,rfl⟩:=List.getElem_of_mem hf
          rw [hx i _ (by simp at hi ⊢)]
          simp at hi
          exact ⟨xs[i]'(by omega),by simp⟩)
        exact ⟨pvs,by simpa using r1,r2,by simpa using r3⟩
      case array n e =>
        simp only [Bool.and_eq_true,beq_iff_eq] at hp
        unfold DataW.trod at h
        simp only [hu] at h
        split at h
        · next hl =>
          simp only [Option.map_eq_some_iff] at h
          obtain ⟨xs,hm,_⟩:=h
          rw [List.range_eq_range'] at hm
          obtain ⟨pvs,r1,r2,r3⟩:=arr_RL hp.2 ih n 0 xs (by rw [Nat.zero_add,hl]; exact hp.1) hm
          exact ⟨pvs,by simpa using r1,r2,by simpa using r3⟩
        · simp at h
theorem open_arg {g : Nat} {t : TypeId} {v : Value} {d : DataW H} {ps : List MemPlace} {r : Reach} {b0 : Nat} (hp : plainT P g t = true) (hval : Value.okWide P w r b0 t v) (h : DataW.Trod enc P w base spare held t v d ps) :
    ∃ pvs,R (Env.start w) v (elOf (aggB P t) pvs) ∧ Sh N P g t pvs:=by
  obtain ⟨fuel,hf⟩:=h
  obtain ⟨pvs,h1,h2,h3⟩:=trod_Sh g fuel t _ d ps hp hf
  cases ha : aggB P t with
  | true =>
    unfold Value.okWide at hval
    unfold aggB at ha
    split at ha
    · next hu =>
      rw [hu] at hval
      obtain ⟨cs,rfl,_⟩:=hval
      simp only [Value.cells] at h1 h3
      exact ⟨pvs,by have:=R.agg (E:=Env.start w) cs.toList pvs h3 h1; simpa [elOf] using this,h2⟩
    · next hu =>
      rw [hu] at hval
      obtain ⟨cs,rfl,_⟩:=hval
      simp only [Value.cells] at h1 h3
      exact ⟨pvs,by have:=R.agg (E:=Env.start w) cs.toList pvs h3 h1; simpa [elOf] using this,h2⟩
    · simp at ha
  | false =>
    obtain ⟨p,rfl,hpc⟩:=Sh_one ha h2
    refine ⟨[p],?_,h2⟩
    have hc : v.cells = #[v]:=by
      cases v <;> try rfl
      case agg cs =>
        exfalso
        unfold Value.okWide at hval
        unfold aggB at ha
        split at hval
        · next hu => rw [hu] at ha; simp at ha
        · next hu => rw [hu] at ha; simp at ha
        · unfold Cell.okWide Cell.ok at hval
          cases hu : P.underlying t with
          | none => simp [hu] at hval
          | some u => cases u <;> simp [hu] at hval
    rw [hc] at h1
    simp only at h1
    cases h1 with
    | cons _ _ _ _ h _ => simpa [elOf] using h
theorem trodAll_below (hl : laidOutB P = true) {W W' : World} (hb : Go.RowKit.Below W.heap.size W W') {sp : Nat → Bool} : ∀ {ts : List TypeId} {vs : List Value} {ds : List (DataW H)} {ps : List MemPlace},(∀ t ∈ ts,P.readableRec t = true ∧ t < P.types.size) →
    DataW.TrodAll enc P W 0 (fun _ => true) true ts vs ds ps → (∀ x ∈ ps,x.block < W.heap.size) → (∀ x ∈ ps,sp x.block = true) → DataW.TrodAll enc P W' 0 sp true ts vs ds ps
  | [],[],[],_,_,h,_,_ => h
  | t :: ts,v :: vs,d :: ds,ps,ht,h,hlt,hsp => by
    obtain ⟨p,q,h1,h2,rfl⟩:=h
    exact ⟨p,q,WideElems.Trod_stays hl (ht t (by simp)).1 (ht t (by simp)).2 h1 (fun x hx => hb.same (hlt x (by simp [hx]))) (fun x hx => hsp x (by simp [hx])),trodAll_below hl hb (fun t' h' => ht t' (by simp [h'])) h2 (fun x hx => hlt x (by simp [hx])) (fun x hx => hsp x (by simp [hx])),rfl⟩
  | [],[],_ :: _,_,_,h,_,_ => by cases h
  | [],_ :: _,_,_,_,h,_,_ => by cases h
  | _ :: _,[],_,_,_,h,_,_ => by cases h
  | _ :: _,_ :: _,[],_,_,h,_,_ => by cases h
end
theorem Sh_slice {N : TypeId → Bool} {P : Program} {g : Nat} {t e : TypeId} {cs : List PV} (hu : P.underlying t = some (.slice e)) (hN : N t = false) (h : Sh N P (g + 1) t cs) : ∃ es : List PV,cs = [.vs (P.cellsOf e) es none] ∧ es.length ≤ maxLen ∧ ∀ x ∈ es,∃ ps,x = elOf (aggB P e) ps ∧ Sh N P g e ps:=by
  unfold Sh at h
  rw [hu] at h
  simp only [hN,Bool.false_eq_true,false_and,false_or,false_implies,true_and] at h
  exact h
end GoV
namespace GoV
open Go Go.RowKit Go.WideShapes Go.ChangeShapes
def Args (N : TypeId → Bool) (P : Program) (g : Nat) : List TypeId → List PV → Prop
  | [],ps => ps = []
  | t :: ts,ps => ∃ cs r,ps = elOf (aggB P t) cs :: r ∧ Sh N P g t cs ∧ Args N P g ts r
theorem strip2_true {H : Heap} {v : PV} (h : strip2 H v = .bool true) : v = .bool true:=by
  cases v
  case gsl sz id ver off len =>
    rw [strip2_gsl] at h
    cases hr : rowEs H id ver off len <;> rw [hr] at h <;> cases h
  all_goals first | exact h | (exfalso; cases h)
theorem ap_true {P : Program} {pol : Pol} {f : Nat} {args : List PV} (h : ap P pol f args = some (.ret (.bool true))) : ∃ H',callF G P pol f args .empty = some (.ret (.bool true),H'):=by
  unfold ap at h
  cases hc : callF G P pol f args .empty with
  | none => rw [hc] at h; cases h
  | some r =>
    obtain ⟨r,H'⟩:=r
    rw [hc] at h
    simp only [Option.map_some,Option.some.injEq] at h
    cases r with
    | pan v => simp at h
    | ret v =>
      simp only [CR.ret.injEq] at h
      rw [strip2_true h]
      exact ⟨H',rfl⟩
section
variable {N : TypeId → Bool} {H : Type} {enc : TypeId × Value → H} {P : Program}
theorem open_args {w : World} [Laid w] {base b0 : Nat} {spare : Nat → Bool} {held : Bool} {r : Reach} {g : Nat} : ∀ {ts : List TypeId} {vs : List Value} {ds : List (DataW H)} {ps : List MemPlace},(∀ t ∈ ts,plainT P g t = true) →
    (∀ (j : Nat) (t : TypeId) (v : Value),ts[j]? = some t → vs[j]? = some v → Value.okWide P w r b0 t v) → DataW.TrodAll enc P w base spare held ts vs ds ps → ∃ pvs,RL (Env.start w) vs pvs ∧ Args N P g ts pvs ∧ ds.length = ts.length
  | [],[],[],_,_,_,_ => ⟨[],.nil,rfl,rfl⟩
  | t :: ts,v :: vs,d :: ds,ps,hp,hv,h => by
    obtain ⟨p,q,h1,h2,rfl⟩:=h
    obtain ⟨cs,c1,c2⟩:=open_arg (hp t (by simp)) (hv 0 t v rfl rfl) h1
    obtain ⟨r,r1,r2,r3⟩:=open_args (ts:=ts) (vs:=vs) (fun t' h' => hp t' (by simp [h'])) (fun j t v hj hv' => hv (j + 1) t v (by simpa using hj) (by simpa using hv')) h2
    exact ⟨_,.cons _ _ _ _ c1 r1,⟨cs,r,rfl,c2,r2⟩,by simp [r3]⟩
  | [],[],_ :: _,_,_,_,h => by cases h
  | [],_ :: _,_,_,_,_,h => by cases h
  | _ :: _,[],_,_,_,_,h => by cases h
  | _ :: _,_ :: _,[],_,_,_,h => by cases h
theorem post_of_below {f : Func} {s : ChangeSpec} {apart fresh handsOn again : Bool} {W W' : World} {args : Array Value} {v : Value} {ds gs : List (DataW H)} {before pa pv : List MemPlace}
    (hW : DataW.Whole enc P f.params.toList s.vars apart W args.toList ds gs before)
    (hres : ∀ (b : Nat) (sp : Nat → Bool) (hd : Bool),DataW.TrodAll enc P W' b sp hd f.resultTypes.toList (v.resultList f.resultTypes.size) (s.fn H (ds ++ gs)).results [])
    (hargs : ∀ sp : Nat → Bool,(∀ p ∈ before,sp p.block = true) → DataW.TrodAll enc P W' 0 sp true f.params.toList args.toList (s.fn H (ds ++ gs)).args pa)
    (hvars : ∀ sp : Nat → Bool,(∀ p ∈ before,sp p.block = true) → DataW.TrodVars enc P W' sp s.vars (s.fn H (ds ++ gs)).vars pv)
    (hps : before = pa ++ pv) (hb : Below W.heap.size W W')
    (hok : ∀ (j : Nat) (t : TypeId) (r : Value),f.resultTypes[j]? = some t → (v.resultList f.resultTypes.size)[j]? = some r → Value.okWide P W' .any 0 t r) :
    s.post enc P f apart fresh handsOn again W args v W':=by
  have hlt : ∀ p ∈ before,p.block < W.heap.size:=fun p hp => hW.lt p hp
  have hold : ∀ p ∈ before,(fun b => decide (b < W.heap.size)) p.block = true:=fun p hp => by simpa using hlt p hp
  refine ⟨ds,gs,before,[],pa,pv,hW,hres _ _ _,hargs _ hold,hvars _ hold,World.keptBut_mono (fun p hp => ⟨hp,?_⟩) (hb.frame (· ∈ before)),fun _ => ?_⟩
  · rw [hps,List.mem_append] at hp
    exact Or.inr hp
  · obtain ⟨_,_,_,_,_,hz,hn⟩:=hW
    refine ⟨hok,_,_,([] ++ pa) ++ pv,⟨[] ++ pa,pv,trodAll_append (hargs _ (fun _ _ => rfl)) (hres _ _ _),hvars _ (fun _ _ => rfl),rfl,?_,?_⟩,?_⟩
    · intro b off hp
      have hin : MemPlace.cell b off ∈ before:=by rw [hps]; simpa using hp
      rw [hb.frozen (hlt _ hin)]
      exact hz b off hin
    · intro ha
      have:=hn ha
      rw [hps] at this
      simpa using this
    · intro p hp _
      rw [hps]
      simpa using hp
theorem law_calls {f : Func} {s : ChangeSpec} {k g : Nat} {pol : Pol} {tb : TypeId} (hvars : s.vars = []) (hl : laidOutB P = true) (hts : ∀ t ∈ f.params.toList,(P.readableRec t = true ∧ t < P.types.size) ∧ plainT P g t = true)
    (hres : f.resultTypes = #[tb]) (htb : P.underlying tb = some .bool)
    (hfn : ∀ ds : List (DataW H),ds.length = f.params.toList.length → (s.fn H ds).results = [.lit (.bool true)] ∧ (s.fn H ds).args = ds ∧ (s.fn H ds).vars = [])
    (walk : ∀ pvs,Args N P g f.params.toList pvs → ap P pol k pvs = some (.ret (.bool true)))
    {W : World} [Laid W] {base : Nat} {args : Array Value} {ds gs : List (DataW H)} {before : List MemPlace} (hval : ∀ (j : Nat) t v,f.params[j]? = some t → args[j]? = some v → Value.okWide P W .any base t v)
    (hW : DataW.Whole enc P f.params.toList s.vars false W args.toList ds gs before) :
    Calls P k args W fun e W' => ∃ v,e = .returned v ∧ s.post enc P f false true false false W args v W':=by
  have hW0:=hW
  obtain ⟨p,q,hA,hV,rfl,hfz,hnd⟩:=hW
  rw [hvars] at hV
  obtain ⟨rfl,rfl⟩:=trodVars_none hV
  obtain ⟨pvs,hR,hArgs,hlen⟩:=open_args (fun t ht => (hts t ht).2) (fun j t v hj hv => hval j t v (by simpa using hj) (by simpa using hv)) hA
  obtain ⟨H',hc⟩:=ap_true (walk pvs hArgs)
  have hcalls:=calls_true_W hc hR
  rw [Array.toArray_toList] at hcalls
  refine hcalls.mono fun e W' ⟨he,hb⟩ => ⟨.bool true,he,?_⟩
  obtain ⟨f1,f2,f3⟩:=hfn ds hlen
  have hlt : ∀ x ∈ p ++ [],x.block < W.heap.size:=fun x hx => hW0.lt x hx
  refine post_of_below (pa:=p) (pv:=[]) hW0 ?_ ?_ ?_ rfl hb ?_
  · intro b sp hd
    rw [List.append_nil,f1,hres]
    exact ⟨[],[],⟨1,by simp [DataW.trod,Value.cells,htb]⟩,rfl,rfl⟩
  · intro sp hsp
    rw [List.append_nil,f2]
    exact trodAll_below hl hb (fun t ht => (hts t ht).1) hA (fun x hx => hlt x (by simp [hx])) fun x hx => hsp x (by simp [hx])
  · intro sp hsp
    rw [List.append_nil,f3,hvars]
    rfl
  · rw [hres]
    intro j t r hj hr
    match j,hj,hr with
    | 0,hj,hr =>
      simp [Value.resultList] at hj hr
      subst hj; subst hr
      simp [Value.okWide,htb,Cell.okWide,Cell.ok]
end
end GoV
namespace GoV
open Go
def atL : List Oper → Nat → Option Oper
  | [],_ => none
  | o :: _,0 => some o
  | _ :: r,n + 1 => atL r n
def consP : Option Oper → List Oper → List Oper
  | some o,r => o :: r
  | none,r => r
def permL (ops : List Oper) : List Nat → List Oper
  | [] => []
  | i :: r => consP (atL ops i) (permL ops r)
theorem atL_zero (o : Oper) (r : List Oper) : atL (o :: r) 0 = some o:=rfl
theorem atL_succ (o : Oper) (r : List Oper) (n : Nat) : atL (o :: r) (n + 1) = atL r n:=rfl
theorem permL_nil (ops : List Oper) : permL ops [] = []:=rfl
theorem permL_cons (ops : List Oper) (i : Nat) (r : List Nat) : permL ops (i :: r) = consP (atL ops i) (permL ops r):=rfl
theorem consP_some (o : Oper) (r : List Oper) : consP (some o) r = o :: r:=rfl
theorem atL_get : ∀ (l : List Oper) (i : Nat),atL l i = l[i]?
  | [],_ => by simp [atL]
  | _ :: _,0 => by simp [atL]
  | _ :: r,n + 1 => by simp [atL,atL_get r n]
theorem runOps_perm (rec : Rec) (cx : Ctx) (ops : Array Oper) : ∀ (l : List Nat) (s : St),(l.all fun i => Nat.blt i ops.size) = true → runOps rec cx ops l s = runL rec cx ops (permL ops.toList l) s
  | [],s,_ => by simp [runOps,permL,runL]
  | i :: r,s,h => by
    simp only [List.all_cons,Bool.and_eq_true] at h
    have hi : i < ops.size:=by simpa using h.1
    have e : ops[i]? = some ops[i]:=Array.getElem?_eq_getElem hi
    have ea : atL ops.toList i = some ops[i]:=by rw [atL_get,Array.getElem?_toList]; exact e
    have ih:=fun s => runOps_perm rec cx ops r s h.2
    rw [permL_cons,ea,consP_some]
    simp only [runOps,runL,e,Option.bind_some,contL]
    congr 1
    funext w
    split
    · congr 1
      funext x
      cases x with
      | val v s' => simp only; congr 1; funext s; exact ih s
      | pan v s' => rfl
    · congr 1; funext s; exact ih s
def AllEq (cx : Ctx) (ops : Array Oper) (s : St) (x : Option (Option PV × St)) : List (List Nat) → Prop
  | [] => True
  | l :: r => runL G cx ops (permL ops.toList l) s = x ∧ AllEq cx ops s x r
theorem AllEq_nil (cx : Ctx) (ops : Array Oper) (s : St) (x : Option (Option PV × St)) : AllEq cx ops s x [] = True:=rfl
theorem AllEq_cons (cx : Ctx) (ops : Array Oper) (s : St) (x : Option (Option PV × St)) (l : List Nat) (r : List (List Nat)) : AllEq cx ops s x (l :: r) = (runL G cx ops (permL ops.toList l) s = x ∧ AllEq cx ops s x r):=rfl
def exK : Option (Option PV × St) → Option (Ex × St)
  | some (none,s) => some (.normal,s)
  | _ => none
theorem exK_none (s : St) : exK (some (none,s)) = some (.normal,s):=rfl
def inR (n : Nat) (L : List (List Nat)) : Bool:=L.all fun l => l.all fun i => Nat.blt i n
theorem AllEq_mem {cx : Ctx} {ops : Array Oper} {s : St} {x : Option (Option PV × St)} : ∀ {L : List (List Nat)},inR ops.size L = true → AllEq cx ops s x L → ∀ l ∈ L,runOps G cx ops l s = x
  | [],_,_,_,hl => by simp at hl
  | y :: r,hr,h,l,hl => by
    simp only [inR,List.all_cons,Bool.and_eq_true] at hr
    rcases List.mem_cons.1 hl with rfl | hl
    · rw [runOps_perm G cx ops l s (by simpa using hr.1)]; exact h.1
    · exact AllEq_mem (by simpa [inR] using hr.2) h.2 l hl
theorem brute_eq {cx : Ctx} {ops : Array Oper} {s : St} {L : List (List Nat)} (hL : orders ops = List.range ops.size :: L) (hr : inR ops.size L = true) (h : AllEq cx ops s (runL G cx ops ops.toList s) L) : bruteW G cx ops s = exK (runL G cx ops ops.toList s):=by
  have e0:=runOps_runL G cx ops ops.size 0 s (by omega)
  rw [List.drop_zero,← List.range_eq_range'] at e0
  have ha : ∀ l ∈ orders ops,runOps G cx ops l s = runL G cx ops ops.toList s:=by
    rw [hL]
    intro l hl
    rcases List.mem_cons.1 hl with rfl | hl
    · exact e0
    · exact AllEq_mem hr h l hl
  cases hx : runL G cx ops ops.toList s with
  | none =>
    unfold bruteW
    rw [dif_neg]; rfl
    rintro ⟨s',hs⟩
    have:=hs _ (List.mem_cons_self ..)
    rw [e0,hx] at this
    simp at this
  | some r =>
    obtain ⟨m,s'⟩:=r
    cases m with
    | none => exact bruteW_some fun l hl => (ha l hl).trans hx
    | some v =>
      unfold bruteW
      rw [dif_neg]; rfl
      rintro ⟨s'',hs⟩
      have:=hs _ (List.mem_cons_self ..)
      rw [e0,hx] at this
      simp at this
theorem dOp_mf (cx : Ctx) (ops : Array Oper) (i : Nat) (d : Option Nat) (r : List Oper) (l : List (Nat × MF)) (x : Option OpR) : dOp cx ops i d r l none x = none:=rfl
theorem tm_lf (t : Nat → PV) : tm t .lf = t:=by
  funext i
  rw [tm_apply,look_lf,tmK_none]
noncomputable def dfK (P : Program) (pol : Pol) (rs : List ResultVar) (m : Option PV) (f : Nat) (t : Nat → PV) (b : Nat → Option (Nat × List PV)) (ds : List VD) (rc : Rc) (x : Option (Ex × St)) : Option (CR × Heap):=x.bind fun r => match r.1,r.2.defers with
  | .normal,[] | .ret,[] => endK P pol rs (afterRc r.2.rc m) ⟨f,t,b,ds,r.2.H,rc⟩
  | _,_ => none
theorem endK_call {P : Program} {pol : Pol} {g : Nat} {fn : Func} {c : Code} {nt : Nat} (args : List PV) (hf : P.funcs[g]? = some fn) (hb : fn.body = some c) (hn : fn.ntmps = nt) (hr : fn.results = #[]) (hok : codeOK c = true) (hnm : (fn.name == "runtime.NumGoroutine") = false) (ha : args.length ≤ nt)
    (rs : List ResultVar) (m : Option PV) (f : Nat) (t : Nat → PV) (b : Nat → Option (Nat × List PV)) (ds : List VD) (H : Heap) (rc : Rc) :
    endK P pol rs m ⟨f,t,b,.call g args :: ds,H,rc⟩ = dfK P pol rs m f t b ds rc (W ⟨P,pol,g,nt,none⟩ c ⟨H.next,tm (fun i => args.getD i .any) .lf,fun _ => none,[],⟨H.rows,H.next + 1⟩,rcOf m⟩):=by
  subst hn
  rw [tm_lf]
  simp only [endK,unwindV,bodyOf,hf,Option.bind_some,hb]
  rw [if_pos ⟨ha,hnm⟩]
  have hG : G ⟨P,pol,g,fn.ntmps,none⟩ c = W ⟨P,pol,g,fn.ntmps,none⟩ c:=by
    funext s; simp only [G,guardR,hok,if_true]
  rw [hG]
  cases h : W ⟨P,pol,g,fn.ntmps,none⟩ c ⟨H.next,fun i => args.getD i .any,fun _ => none,[],⟨H.rows,H.next + 1⟩,rcOf m⟩ with
  | none => simp [dfK]
  | some x =>
    obtain ⟨ex,s⟩:=x
    have he : fn.results.isEmpty = true:=by rw [hr]; rfl
    cases ex <;> cases hd : s.defers <;> first
      | (simp only [dfK,hd,he,Option.bind_some,if_true]; rfl)
      | (simp only [dfK,hd,Option.bind_some,Option.bind_none]; try rfl)
section
variable (P : Program) (pol : Pol) (rs : List ResultVar) (m : Option PV) (f : Nat) (t : Nat → PV) (b : Nat → Option (Nat × List PV)) (ds : List VD) (rc : Rc) (f' : Nat) (t' : Nat → PV) (b' : Nat → Option (Nat × List PV)) (H : Heap) (rc' : Rc)
theorem dfK_normal : dfK P pol rs m f t b ds rc (some (.normal,⟨f',t',b',[],H,rc'⟩)) = endK P pol rs (afterRc rc' m) ⟨f,t,b,ds,H,rc⟩:=rfl
theorem dfK_ret : dfK P pol rs m f t b ds rc (some (.ret,⟨f',t',b',[],H,rc'⟩)) = endK P pol rs (afterRc rc' m) ⟨f,t,b,ds,H,rc⟩:=rfl
theorem dfK_ite (p : Prop) [Decidable p] (x y : Option (Ex × St)) : dfK P pol rs m f t b ds rc (if p then x else y) = if p then dfK P pol rs m f t b ds rc x else dfK P pol rs m f t b ds rc y:=by split <;> rfl
theorem afterRc_done : afterRc .done m = none:=rfl
theorem afterRc_no : afterRc .no m = m:=rfl
theorem afterRc_pan (v : PV) : afterRc (.pan v) m = m:=rfl
theorem rcOf_some (v : PV) : rcOf (some v) = .pan v:=rfl
theorem rcOf_none : rcOf none = .no:=rfl
end
def taK (t : Nat) (ok : Bool) (x : PV) : Option TypeDesc → Option PV
  | some (.interface _) | none => none
  | some _ => match x with
      | .iface u v => if u = t then some (if ok = true then .tup [v,.bool true] else v) else none
      | _ => none
theorem op_typeAssert (cx : Ctx) (s : St) (d : Option Nat) (ty : Nat) (pos : String) (aft : Array Edge) (g : Option (Nat × Bool)) (x : Operand) (u t : Nat) (ok : Bool) : opV G cx ⟨d,.typeAssert x u t ok,ty,pos,aft,g⟩ s = valO s (taK t ok (evS s x) (cx.P.underlying t)):=by
  simp only [opV,pureOp,valO,taK]
  cases cx.P.underlying t with
  | none => rfl
  | some a => cases a <;> rfl
theorem taK_int (t : Nat) (ok : Bool) (u : Nat) (v : PV) (k : IntKind) : taK t ok (.iface u v) (some (.int k)) = if u = t then some (if ok = true then .tup [v,.bool true] else v) else none:=rfl
theorem mf_typeAssert (cx : Ctx) (s : St) (d : Option Nat) (ty : Nat) (pos : String) (aft : Array Edge) (g : Option (Nat × Bool)) (x : Operand) (u t : Nat) (ok : Bool) : mf cx ⟨d,.typeAssert x u t ok,ty,pos,aft,g⟩ s = some ([],[]):=rfl
theorem BRU : (type_of% @atL_zero ∧ type_of% @atL_succ ∧ type_of% @permL_nil ∧ type_of% @permL_cons ∧ type_of% @consP_some ∧ type_of% @AllEq_nil ∧ type_of% @AllEq_cons ∧ type_of% @exK_none ∧ type_of% @dOp_mf) ∧
    (type_of% @dfK_normal ∧ type_of% @dfK_ret ∧ type_of% @dfK_ite ∧ type_of% @afterRc_done ∧ type_of% @afterRc_no ∧ type_of% @afterRc_pan ∧ type_of% @rcOf_some ∧ type_of% @rcOf_none ∧ type_of% @op_typeAssert ∧ type_of% @taK_int):=
  ⟨⟨@atL_zero,@atL_succ,@permL_nil,@permL_cons,@consP_some,@AllEq_nil,@AllEq_cons,@exK_none,@dOp_mf⟩,⟨@dfK_normal,@dfK_ret,@dfK_ite,@afterRc_done,@afterRc_no,@afterRc_pan,@rcOf_some,@rcOf_none,@op_typeAssert,@taK_int⟩⟩
end GoV
namespace GoV
open Go
section
variable {κ : Type} [DecidableEq κ]
def kmap (enc : κ → PV) (m : List (κ × PV)) : List (PV × PV):=m.map fun e => (enc e.1,e.2)
def aix : List (κ × PV) → κ → Nat → Option (Nat × PV)
  | [],_,_ => none
  | e :: es,k,i => if k = e.1 then some (i,e.2) else aix es k (i + 1)
def aget : List (κ × PV) → κ → Option PV
  | [],_ => none
  | e :: es,k => if k = e.1 then some e.2 else aget es k
def aset : List (κ × PV) → κ → PV → List (κ × PV)
  | [],k,v => [(k,v)]
  | e :: es,k,v => if k = e.1 then (k,v) :: es else e :: aset es k v
structure KeyT (P : Program) (t : Nat) (enc : κ → PV) : Prop where
  chk : ∀ k,keyChk P t (enc k) = true
  eq : ∀ a b,eqPV P Op.maxDepth t (enc a) (enc b) = some (decide (a = b))
  pl : ∀ a,plainEq (enc a) (enc a) = true
theorem find_kmap {P : Program} {t : Nat} {enc : κ → PV} (h : KeyT P t enc) (m : List (κ × PV)) (k : κ) : ∀ j,findPV P t (enc k) (kmap enc m) j = some (aix m k j):=by
  induction m with
  | nil => intro j; rfl
  | cons e es ih =>
    intro j
    show ((eqPV P Op.maxDepth t (enc k) (enc e.1)).bind fun b => if b = true then some (some (j,e.2)) else findPV P t (enc k) (kmap enc es) (j + 1)) = _
    rw [h.eq]
    by_cases hk : k = e.1
    · simp [hk,aix]
    · simp [hk,aix,ih]
theorem aix_get (m : List (κ × PV)) (k : κ) : ∀ j,(aix m k j).map (·.2) = aget m k:=by
  induction m with
  | nil => intro j; rfl
  | cons e es ih =>
    intro j
    by_cases hk : k = e.1
    · simp [hk,aix,aget]
    · simp [hk,aix,aget,ih]
theorem aix_none (m : List (κ × PV)) (k : κ) : ∀ j,aix m k j = none → ∀ v,aset m k v = m ++ [(k,v)]:=by
  induction m with
  | nil => intro j _ v; rfl
  | cons e es ih =>
    intro j h v
    by_cases hk : k = e.1
    · simp [hk,aix] at h
    · simp only [hk,aix,if_false] at h; simp [aset,hk,ih _ h]
theorem aix_some (m : List (κ × PV)) (k : κ) : ∀ j i w,aix m k j = some (i,w) → j ≤ i ∧ m[i - j]? = some (k,w) ∧ ∀ v,aset m k v = m.set (i - j) (k,v):=by
  induction m with
  | nil => intro j i w h; simp [aix] at h
  | cons e es ih =>
    intro j i w h
    by_cases hk : k = e.1
    · simp only [hk,aix,if_true,Option.some.injEq,Prod.mk.injEq] at h
      obtain ⟨rfl,rfl⟩:=h
      refine ⟨Nat.le_refl _,?_,?_⟩
      · simp [hk]
      · intro v; simp [aset,hk]
    · simp only [hk,aix,if_false] at h
      obtain ⟨h1,h2,h3⟩:=ih _ _ _ h
      have e1 : i - j = (i - (j + 1)) + 1:=by omega
      refine ⟨by omega,?_,?_⟩
      · rw [e1,List.getElem?_cons_succ]; exact h2
      · intro v; rw [e1,List.set_cons_succ]; simp [aset,hk,h3]
theorem aget_aset (m : List (κ × PV)) (k : κ) (v : PV) (k' : κ) : aget (aset m k v) k' = if k' = k then some v else aget m k':=by
  induction m with
  | nil => simp [aset,aget]
  | cons e es ih =>
    by_cases hk : k = e.1
    · simp only [aset,hk,if_true,aget]
      by_cases h2 : k' = e.1 <;> simp [h2]
    · simp only [aset,hk,if_false,aget,ih]
      by_cases h2 : k' = e.1
      · have : ¬ k' = k:=by intro h; exact hk (h ▸ h2)
        simp [h2,this]
        intro h; exact absurd h.symm hk
      · simp [h2]
def lookA (z : PV) (ok : Bool) : Option PV → PV
  | some v => if ok = true then .tup [v,.bool true] else v
  | none => if ok = true then .tup [z,.bool false] else z
theorem lookR_aix (z : PV) (ok : Bool) (m : List (κ × PV)) (k : κ) (j : Nat) : lookR z ok (aix m k j) = lookA z ok (aget m k):=by
  rw [← aix_get m k j]; cases aix m k j <;> rfl
theorem updR_aix {P : Program} {t : Nat} {enc : κ → PV} (h : KeyT P t enc) (m : List (κ × PV)) (k : κ) (v : PV) : updR (enc k) v (kmap enc m) (aix m k 0) = some (kmap enc (aset m k v)):=by
  cases hx : aix m k 0 with
  | none => rw [aix_none m k 0 hx]; simp [updR,kmap]
  | some r =>
    obtain ⟨i,w⟩:=r
    obtain ⟨-,h2,h3⟩:=aix_some m k 0 i w hx
    rw [Nat.sub_zero] at h2 h3
    have hg : (kmap enc m)[i]? = some (enc k,w):=by simp [kmap,h2]
    simp only [updR,hg,Option.bind_some,h.pl,if_true,h3]
    simp [kmap,List.map_set]
theorem lookF_kmap {P : Program} {t : Nat} {enc : κ → PV} (h : KeyT P t enc) (s : St) (z : PV) (ok : Bool) (k : κ) (m : List (κ × PV)) : lookF s z ok (findPV P t (enc k) (kmap enc m) 0) = some (.val (lookA z ok (aget m k)) s):=by
  rw [find_kmap h]; simp only [lookF,Option.map_some,lookR_aix]
theorem updG_kmap {P : Program} {t : Nat} {enc : κ → PV} (h : KeyT P t enc) (s : St) (id : Nat) (k : κ) (v : PV) (m : List (κ × PV)) : updG s id (enc k) v (kmap enc m) (findPV P t (enc k) (kmap enc m) 0) = updF s id (some (kmap enc (aset m k v))):=by
  rw [find_kmap h]; simp only [updG,Option.bind_some,updR_aix h]
end
theorem lookA_some (z v : PV) : lookA z true (some v) = .tup [v,.bool true] ∧ lookA z false (some v) = v:=⟨rfl,rfl⟩
theorem lookA_none (z : PV) : lookA z true none = .tup [z,.bool false] ∧ lookA z false none = z:=⟨rfl,rfl⟩
abbrev imap (m : List (Int × PV)) : List (PV × PV):=kmap (PV.int .i64) m
theorem keyT_int {P : Program} {t : Nat} (h : P.underlying t = some (.int .i64)) : KeyT P t (PV.int .i64):=by
  refine ⟨fun k => ?_,fun a b => ?_,fun a => ?_⟩
  · simp only [keyChk,h]
  · show eqPV P (_ + 1) t _ _ = _
    simp [eqPV,h,BEq.beq]
    try by_cases a = b <;> simp_all
  · simp [plainEq,plainC]
theorem keyChk_int {P : Program} {t : Nat} (h : P.underlying t = some (.int .i64)) (k : Int) : keyChk P t (.int .i64 k) = true:=(keyT_int h).chk k
theorem look_imap {P : Program} {t : Nat} (h : P.underlying t = some (.int .i64)) (s : St) (z : PV) (ok : Bool) (k : Int) (m : List (Int × PV)) : lookF s z ok (findPV P t (.int .i64 k) (kmap (PV.int .i64) m) 0) = some (.val (lookA z ok (aget m k)) s):=lookF_kmap (keyT_int h) s z ok k m
theorem upd_imap {P : Program} {t : Nat} (h : P.underlying t = some (.int .i64)) (s : St) (id : Nat) (k : Int) (v : PV) (m : List (Int × PV)) : updG s id (.int .i64 k) v (kmap (PV.int .i64) m) (findPV P t (.int .i64 k) (kmap (PV.int .i64) m) 0) = updF s id (some (kmap (PV.int .i64) (aset m k v))):=updG_kmap (keyT_int h) s id k v m
theorem MAPI : type_of% @keyChk_int ∧ type_of% @look_imap ∧ type_of% @upd_imap ∧ type_of% lookA_some ∧ type_of% lookA_none:=⟨@keyChk_int,@look_imap,@upd_imap,lookA_some,lookA_none⟩
end GoV
namespace GoV
open Go
def renV (f : Nat → Nat) : Vr → Vr
  | .row i => .row (f i)
  | v => v
def renM (f : Nat → Nat) (m : MF) : MF:=(m.1.map (renV f),m.2.map (renV f))
def renL (f : Nat → Nat) (l : List (Nat × MF)) : List (Nat × MF):=l.map fun p => (p.1,renM f p.2)
section
variable {f : Nat → Nat} (hf : ∀ a b,f a = f b → a = b)
include hf
theorem clash_ren (a b : Vr) : clash (renV f a) (renV f b) = clash a b:=by
  cases a <;> cases b <;> try rfl
  rename_i i j
  simp only [renV,clash,Vr.row.injEq]
  by_cases h : i = j
  · simp [h]
  · simp only [h,decide_false,decide_eq_false_iff_not]
    exact fun g => h (hf _ _ g)
theorem disj_ren (a b : List Vr) : disj (a.map (renV f)) (b.map (renV f)) = disj a b:=by
  unfold disj
  rw [List.all_map]
  congr 1
  funext x
  simp only [Function.comp_apply]
  rw [List.all_map]
  congr 1
  funext y
  simp only [Function.comp_apply,clash_ren hf]
theorem chk1_ren (ops : Array Oper) (j : Nat) (w : List Vr) : ∀ l : List (Nat × MF),chk1 ops j (w.map (renV f)) (renL f l) = chk1 ops j w l
  | [] => rfl
  | (i,m) :: r => by
    show ((Nat.beq i j || disj (w.map (renV f)) (m.1.map (renV f) ++ m.2.map (renV f)) || _) && chk1 ops j (w.map (renV f)) (renL f r)) = _
    rw [chk1_ren ops j w r,← List.map_append,disj_ren hf]; rfl
theorem chkL_ren (ops : Array Oper) (a : List (Nat × MF)) : ∀ l : List (Nat × MF),chkL ops (renL f a) (renL f l) = chkL ops a l
  | [] => rfl
  | (j,(q,w)) :: r => by
    have ih:=chkL_ren ops a r
    cases w with
    | nil => exact ih
    | cons x w =>
      show (chk1 ops j ((x :: w).map (renV f)) (renL f a) && chkL ops (renL f a) (renL f r)) = _
      rw [ih,chk1_ren hf]; rfl
end
def swp (k g i : Nat) : Nat:=if i = k then g else if i = g then k else i
theorem swp_inj (k g a b : Nat) (h : swp k g a = swp k g b) : a = b:=by
  unfold swp at h
  split at h <;> split at h <;> (try split at h) <;> (try split at h) <;> omega
theorem chkL_at (ops : Array Oper) (L : Nat → List (Nat × MF)) (k g : Nat) (h : renL (swp k g) (L k) = L g) (hk : chkL ops (L k) (L k) = true) : chkL ops (L g) (L g) = true:=by
  rw [← h,chkL_ren (swp_inj k g)]; exact hk
end GoV
namespace GoV
open Go
theorem BZ : ((∀ p : Prop,(p ∧ p) = p) ∧ (∀ p : Prop,(True ∧ p) = p) ∧ (∀ p : Prop,(p ∧ True) = p) ∧ (∀ p : Prop,(p ∨ False) = p) ∧ (∀ p : Prop,(False ∨ p) = p)) ∧
    ((∀ (p : Prop) [Decidable p],(decide p = true) = p) ∧ decide True = true ∧ decide False = false ∧ (¬ False) = True ∧ (¬ True) = False) ∧
    ((!true) = false ∧ (!false) = true ∧ (false = true) = False ∧ (∀ (α : Type) (a b : α),(a ≠ b) = ¬ (a = b))):=
  ⟨⟨and_self,true_and,and_true,or_false,false_or⟩,⟨@decide_eq_true_eq,rfl,rfl,not_false_eq_true,not_true_eq_false⟩,rfl,rfl,Bool.false_eq_true,fun _ _ _ => rfl⟩
def sliceO : Option TypeDesc → Option Bool → Option PV
  | some (.slice _),some b => some (.bool b)
  | _,_ => none
def sliceN : Option TypeDesc → Option Bool → Option PV
  | some (.slice _),some b => some (.bool !b)
  | _,_ => none
theorem sliceO_some (e : TypeId) (b : Bool) : sliceO (some (.slice e)) (some b) = some (.bool b):=rfl
theorem sliceN_some (e : TypeId) (b : Bool) : sliceN (some (.slice e)) (some b) = some (.bool !b):=rfl
section
variable {P : Program} {t : TypeId} {xo yo : Operand}
theorem eqPV_nil (x : PV) (hx : ∀ a,x = .agg a → False) : eqOp P t xo yo x .nils = match P.underlying t with
    | some (.slice _) => nilq x
    | _ => none:=by
  have e : eqOp P t xo yo x .nils = eqPV P (9999 + 1) t x .nils:=by
    unfold eqOp
    split
    · next h => cases h
    · next h => cases h
    · rfl
  rw [e]
  cases h : P.underlying t with
  | none => simp [eqPV,h]
  | some d => cases d <;> cases x <;> simp [eqPV,h]
theorem bin_nil_nils : binPV P .eql t xo yo .nils .nils = sliceO (P.underlying t) (some true) ∧ binPV P .neq t xo yo .nils .nils = sliceN (P.underlying t) (some true):=by
  simp only [binPV,eqPV_nil (P:=P) .nils (by simp)]
  cases h : P.underlying t with
  | none => simp [sliceO,sliceN]
  | some d => cases d <;> simp [sliceO,sliceN,nilq]
theorem bin_nil_vs (sz : Nat) (e : PV) (es : List PV) (c : Option Nat) : binPV P .eql t xo yo (.vs sz (e :: es) c) .nils = sliceO (P.underlying t) (some false) ∧ binPV P .neq t xo yo (.vs sz (e :: es) c) .nils = sliceN (P.underlying t) (some false):=by
  simp only [binPV,eqPV_nil (P:=P) (.vs sz (e :: es) c) (by simp)]
  cases h : P.underlying t with
  | none => simp [sliceO,sliceN]
  | some d => cases d <;> simp [sliceO,sliceN,nilq]
theorem bin_nil_vs0 (sz k : Nat) : binPV P .eql t xo yo (.vs sz [] (some k)) .nils = sliceO (P.underlying t) (some false) ∧ binPV P .neq t xo yo (.vs sz [] (some k)) .nils = sliceN (P.underlying t) (some false):=by
  simp only [binPV,eqPV_nil (P:=P) (.vs sz [] (some k)) (by simp)]
  cases h : P.underlying t with
  | none => simp [sliceO,sliceN]
  | some d => cases d <;> simp [sliceO,sliceN,nilq]
end
theorem NILC : type_of% sliceO_some ∧ type_of% sliceN_some ∧ type_of% @bin_nil_nils ∧ type_of% @bin_nil_vs ∧ type_of% @bin_nil_vs0:=⟨sliceO_some,sliceN_some,@bin_nil_nils,@bin_nil_vs,@bin_nil_vs0⟩
end GoV
namespace GoV
open Go
def isAllB : MF → Bool
  | ([.all],[.all]) => true
  | _ => false
def notIn (K : List Nat) : Vr → Bool
  | .row r => !K.contains r
  | _ => true
def dropM (K : List Nat) (m : MF) : MF:=(m.1.filter (notIn K),m.2.filter (notIn K))
def dropL (K : List Nat) (l : List (Nat × MF)) : List (Nat × MF):=l.map fun p => (p.1,dropM K p.2)
def chkK (ops : Array Oper) (K : List Nat) (all : List (Nat × MF)) : List (Nat × MF) → Bool
  | [] => true
  | (_,(_,[])) :: r => chkK ops K all r
  | (j,m) :: r => chk1 ops j m.2 (if isAllB m = true then dropL K all else all) && chkK ops K all r
theorem isAllB_iff {m : MF} (h : isAllB m = true) : m = ([.all],[.all]):=by
  unfold isAllB at h
  split at h
  · rfl
  · cases h
theorem chkK_spec {ops : Array Oper} {K : List Nat} {all : List (Nat × MF)} : ∀ {l : List (Nat × MF)},chkK ops K all l = true → ∀ j m,(j,m) ∈ l → m.2 ≠ [] → chk1 ops j m.2 (if isAllB m = true then dropL K all else all) = true
  | [],_,_,_,hm,_ => by simp at hm
  | (a,(b,c)) :: r,h,j,m,hm,hne => by
    cases c with
    | nil =>
      simp only [chkK] at h
      rcases List.mem_cons.1 hm with e | hm
      · cases e; exact absurd rfl hne
      · exact chkK_spec h j m hm hne
    | cons c cs =>
      simp only [chkK,Bool.and_eq_true] at h
      rcases List.mem_cons.1 hm with e | hm
      · cases e; exact h.1
      · exact chkK_spec h.2 j m hm hne
theorem inM_drop {K : List Nat} {l : List Vr} {x : Vr} (h : inM l x) (hx : ∀ r ∈ K,x ≠ .row r) : inM (l.filter (notIn K)) x:=by
  have key : notIn K x = true:=by
    cases x with
    | row r =>
      simp only [notIn,Bool.not_eq_true',List.contains_eq_mem,decide_eq_false_iff_not]
      exact fun h => hx r h rfl
    | _ => rfl
  rcases h with h | ⟨h,hm⟩
  · exact .inl (List.mem_filter.2 ⟨h,key⟩)
  · exact .inr ⟨List.mem_filter.2 ⟨h,rfl⟩,hm⟩
variable {rec : Rec} {cx : Ctx} {ops : Array Oper}
theorem runD_cons {o : Oper} {r : List Oper} {i : Nat} {s s' : St} {g g' : List (Nat × MF)} (h : runD rec cx ops i (o :: r) s g = some (s',g')) :
    ∃ s1 g1,stepO rec cx ops o s = some s1 ∧ runD rec cx ops (i + 1) r s1 g1 = some (s',g') ∧ ∀ r',runD rec cx ops i (o :: r') s g = runD rec cx ops (i + 1) r' s1 g1:=by
  simp only [runD,Option.bind_eq_some_iff] at h
  obtain ⟨w,hw,h⟩:=h
  cases w with
  | false =>
    simp only [Bool.false_eq_true,if_false,Option.bind_eq_some_iff] at h
    obtain ⟨s1,hp,h⟩:=h
    refine ⟨s1,g,?_,h,fun r' => ?_⟩
    · simp only [stepO,hw,Option.bind_some,Bool.false_eq_true,if_false,hp]
    · simp only [runD,hw,Option.bind_some,Bool.false_eq_true,if_false,hp]
  | true =>
    simp only [if_true,Option.bind_eq_some_iff] at h
    obtain ⟨m,hm,a,ha,h⟩:=h
    cases a with
    | pan v s1 => simp at h
    | val v s1 =>
      simp only [Option.bind_eq_some_iff] at h
      obtain ⟨s2,hp,h⟩:=h
      refine ⟨s2,addL i m g,?_,h,fun r' => ?_⟩
      · simp only [stepO,hw,Option.bind_some,if_true,ha,hp]
      · simp only [runD,hw,Option.bind_some,if_true,hm,ha,hp]
theorem runD_prefix : ∀ (l : List Oper) (i : Nat) (s : St) (g : List (Nat × MF)) (s' : St) (g' : List (Nat × MF)),runD rec cx ops i l s g = some (s',g') → ∀ S : Nat → St,S 0 = s → (∀ k o,l[k]? = some o → stepO rec cx ops o (S k) = some (S (k + 1))) →
    ∀ k,k ≤ l.length → ∃ gk,runD rec cx ops i (l.take k) s g = some (S k,gk)
  | _,_,s,g,_,_,_,S,h0,_,0,_ => ⟨g,by simp [runD,h0]⟩
  | [],_,_,_,_,_,_,_,_,_,k + 1,hk => by simp at hk
  | o :: r,i,s,g,s',g',h,S,h0,hS,k + 1,hk => by
    obtain ⟨s1,g1,h1,h2,h3⟩:=runD_cons h
    have e : S 1 = s1:=by
      have:=hS 0 o rfl
      rw [h0,h1] at this
      exact (Option.some.inj this).symm
    obtain ⟨gk,hgk⟩:=runD_prefix r (i + 1) s1 g1 s' g' h2 (fun n => S (n + 1)) e (fun n o' hn => hS (n + 1) o' (by simpa using hn)) k (by simpa using hk)
    refine ⟨gk,?_⟩
    rw [List.take_succ_cons,h3]
    exact hgk
theorem draw_keep {s s' : St} {g : List (Nat × MF)} (K J : List Nat) (hO : orderOK ops (masks ops) = true) (h : runD rec cx ops 0 ops.toList s [] = some (s',g))
    (hJ : (g.all fun p => !isAllB p.2 || J.contains p.1) = true)
    (hK : ∀ j ∈ J,∀ σ σ' g1 g2,runD rec cx ops 0 (ops.toList.take j) s [] = some (σ,g1) → runD rec cx ops 0 (ops.toList.take (j + 1)) s [] = some (σ',g2) → ∀ r ∈ K,σ'.H.rows r = σ.H.rows r)
    (hc : chkK ops K g g = true) (t : Nat) :
    runOps rec cx ops (Region.linearise .any ops t) s = some (none,s'):=by
  obtain ⟨S,M,e1,e2,e3,e4,_⟩:=runD_states _ _ _ _ _ _ h
  have hpre:=runD_prefix _ _ _ _ _ _ h S e1 fun k o hk => (e3 k o hk).1
  have hsp:=orderOK_spec' hO
  have e2' : S ops.size = s':=by simpa using e2
  have hop : ∀ i < ops.size,∃ o,ops[i]? = some o ∧ ops.toList[i]? = some o:=fun i hi => ⟨ops[i],by simp [hi],by simp [hi]⟩
  have keep : ∀ i < ops.size,isAllB (M i) = true → ∀ r ∈ K,(S (i + 1)).H.rows r = (S i).H.rows r:=by
    intro i hi ha r hr
    have hne : M i ≠ ([],[]):=by rw [isAllB_iff ha]; simp
    have hg:=e4 i (by simpa using hi) hne
    rw [Nat.zero_add] at hg
    have hj : i ∈ J:=by
      have:=List.all_eq_true.1 hJ _ hg
      simp only [ha,Bool.not_true,Bool.false_or,List.contains_eq_mem,decide_eq_true_eq] at this
      exact this
    obtain ⟨g1,h1⟩:=hpre i (by simp; omega)
    obtain ⟨g2,h2⟩:=hpre (i + 1) (by simp; omega)
    exact hK i hj _ _ _ _ h1 h2 r hr
  rw [← e1,← e2']
  refine orders_F (R:=fun i x => ∃ o,ops[i]? = some o ∧ rdO ops o (M i) x) (W:=fun i x => ∃ o,ops[i]? = some o ∧ wrO o (M i) x ∧ ¬ (isAllB (M i) = true ∧ ∃ r ∈ K,x = .row r)) (pre:=preO ops) ?_ ?_ t
  · intro i hi
    obtain ⟨o,ho,h1,h2,h3⟩:=hsp i hi
    obtain ⟨o',ho',hl⟩:=hop i hi
    rw [ho] at ho'; cases ho'
    obtain ⟨s1,s2,s3⟩:=e3 i o hl
    refine ⟨o,ho,s1,?_,h1,h2⟩
    intro σ hr hx
    obtain ⟨σ1,f1,f2,f3,f4⟩:=framed_of s2 s3 s1 σ hr fun x hx' => hx x ⟨o,ho,hx'⟩
    refine ⟨σ1,f1,f2,fun x hn => ?_,?_⟩
    · by_cases hw : wrO o (M i) x
      · by_cases hk : isAllB (M i) = true ∧ ∃ r ∈ K,x = .row r
        · obtain ⟨ha,r,hr',rfl⟩:=hk
          have a1 : σ1.H.rows r = (S (i + 1)).H.rows r:=f4 _ hw
          have a2 : σ.H.rows r = (S i).H.rows r:=hx (.row r) ⟨o,ho,.inr (by rw [isAllB_iff ha]; exact .inr ⟨by simp,trivial⟩)⟩
          show σ1.H.rows r = σ.H.rows r
          rw [a1,a2,keep i hi ha r hr']
        · exact absurd ⟨o,ho,hw,hk⟩ hn
      · exact f3 x hw
    · rintro x ⟨o',ho',hw,_⟩
      rw [ho] at ho'; cases ho'
      exact f4 x hw
  · rintro i hi j hj hne x ⟨oj,hoj,hwj,hkj⟩ hri
    obtain ⟨o,ho,h1,h2,h3⟩:=hsp i hi
    have mem : ∀ k < ops.size,∀ x ∈ (M k).1 ++ (M k).2,∀ d,x ≠ .tmp d:=by
      intro k hk
      obtain ⟨ok,_,hl⟩:=hop k hk
      obtain ⟨s1,s2,s3⟩:=e3 k ok hl
      cases hw : wantedV ops (S k) ok with
      | none => simp [stepO,hw] at s1
      | some w =>
        cases w with
        | true => exact mf_mem (s2 hw)
        | false => rw [s3 hw]; simp
    have hri' : rdO ops o (M i) x ∨ wrO o (M i) x:=by
      rcases hri with ⟨o',ho',hh⟩ | ⟨o',ho',hh,_⟩
      · rw [ho] at ho'; cases ho'; exact .inl hh
      · rw [ho] at ho'; cases ho'; exact .inr hh
    rcases hwj with ⟨d,hd,rfl⟩ | ⟨hm,hd⟩
    · refine h3 j hj hne d (by rw [hoj]; simpa using hd) ?_
      rcases hri' with (⟨e,he,hx⟩ | hx) | (⟨e,he,hx⟩ | ⟨hx,_⟩)
      · cases hx; exact .inl he
      · rcases hx with hx | ⟨_,hx⟩
        · exact absurd rfl (mem i hi _ (List.mem_append_left _ hx) d)
        · exact hx.elim
      · cases hx; exact .inr he
      · rcases hx with hx | ⟨_,hx⟩
        · exact absurd rfl (mem i hi _ (List.mem_append_right _ hx) d)
        · exact hx.elim
    · have hxi : inM ((M i).1 ++ (M i).2) x:=by
        rcases hri' with (⟨e,he,hx⟩ | hx) | (⟨e,he,hx⟩ | ⟨hx,_⟩)
        · exact absurd hx (hd e)
        · exact hx.imp (List.mem_append_left _) fun h => ⟨List.mem_append_left _ h.1,h.2⟩
        · exact absurd hx (hd e)
        · exact hx.imp (List.mem_append_right _) fun h => ⟨List.mem_append_right _ h.1,h.2⟩
      have hne1 : M j ≠ ([],[]):=by intro e; rw [e] at hm; simp [inM] at hm
      have hne2 : M i ≠ ([],[]):=by intro e; rw [e] at hxi; simp [inM] at hxi
      have g1:=e4 j (by simpa using hj) hne1
      have g2:=e4 i (by simpa using hi) hne2
      rw [Nat.zero_add] at g1 g2
      have k1:=chkK_spec hc j _ g1 (by intro e; rw [e] at hm; simp [inM] at hm)
      by_cases ha : isAllB (M j) = true
      · rw [if_pos ha] at k1
        have hxK : ∀ r ∈ K,x ≠ .row r:=fun r hr e => hkj ⟨ha,r,hr,e⟩
        refine chk1_spec k1 i (dropM K (M i)) (List.mem_map.2 ⟨_,g2,rfl⟩) hne x hm ?_
        simp only [dropM,← List.filter_append]
        exact inM_drop hxi hxK
      · rw [if_neg ha] at k1
        exact chk1_spec k1 i _ g2 hne x hm hxi
theorem mem_lin {ops : Array Oper} : ∀ (f : Nat) (listed : Array Bool) (acc l : List Nat),l ∈ linAll ops f listed acc → ∃ t,Region.linearise.go .any ops f t listed acc = l
  | 0,listed,acc,l,h => by
    simp only [linAll,List.mem_singleton] at h
    exact ⟨0,by simp [Region.linearise.go,h]⟩
  | f + 1,listed,acc,l,h => by
    simp only [linAll] at h
    cases hr : Region.ready .any ops listed with
    | nil =>
      rw [hr] at h
      simp only [List.mem_singleton] at h
      refine ⟨0,?_⟩
      simp only [Region.linearise.go]
      change (match (Region.ready .any ops listed)[0 % (Region.ready .any ops listed).length]? with
        | some i => Region.linearise.go .any ops f (0 / (Region.ready .any ops listed).length) (listed.setIfInBounds i true) (i :: acc)
        | none => acc.reverse) = _
      rw [hr]; simp [h]
    | cons x xs =>
      rw [hr] at h
      simp only [List.mem_flatMap] at h
      obtain ⟨i,hi,hl⟩:=h
      obtain ⟨t,ht⟩:=mem_lin f _ _ l hl
      obtain ⟨q,hq,hqi⟩:=List.getElem_of_mem hi
      refine ⟨q + (x :: xs).length * t,?_⟩
      simp only [Region.linearise.go]
      change (match (Region.ready .any ops listed)[(q + (x :: xs).length * t) % (Region.ready .any ops listed).length]? with
        | some i => Region.linearise.go .any ops f ((q + (x :: xs).length * t) / (Region.ready .any ops listed).length) (listed.setIfInBounds i true) (i :: acc)
        | none => acc.reverse) = _
      rw [hr,Nat.add_mul_mod_self_left,Nat.mod_eq_of_lt hq,List.getElem?_eq_getElem hq,hqi]
      simp only
      rw [Nat.add_mul_div_left _ _ (by simp),Nat.div_eq_of_lt hq,Nat.zero_add]
      exact ht
theorem brute_keep {s s' : St} {g : List (Nat × MF)} (K J : List Nat) (hO : orderOK ops (masks ops) = true) (h : runD rec cx ops 0 ops.toList s [] = some (s',g))
    (hJ : (g.all fun p => !isAllB p.2 || J.contains p.1) = true)
    (hK : ∀ j ∈ J,∀ σ σ' g1 g2,runD rec cx ops 0 (ops.toList.take j) s [] = some (σ,g1) → runD rec cx ops 0 (ops.toList.take (j + 1)) s [] = some (σ',g2) → ∀ r ∈ K,σ'.H.rows r = σ.H.rows r)
    (hc : chkK ops K g g = true) : bruteW rec cx ops s = some (.normal,s'):=by
  have hall:=draw_keep K J hO h hJ hK hc
  refine bruteW_some fun l hl => ?_
  rcases List.mem_cons.1 hl with rfl | hl
  · have e:=runD_text (rec:=rec) (cx:=cx) (ops:=ops) ops.size 0 s [] s' g (by omega) (by simpa using h)
    rw [List.range_eq_range']; exact e
  · obtain ⟨t,ht⟩:=mem_lin _ _ _ _ hl
    have:=hall t
    unfold Region.linearise at this
    rw [ht] at this
    exact this
end GoV
