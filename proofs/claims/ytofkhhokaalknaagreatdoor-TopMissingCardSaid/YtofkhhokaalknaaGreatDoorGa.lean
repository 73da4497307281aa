/-
  Evidence, suspects and probes (part 1).
-/
import Derived.Test.YtofkhhokaalknaaGreatDoorFa
import Derived.IntWalk
set_option linter.unusedSimpArgs false
set_option linter.unusedVariables false
set_option linter.unusedSectionVars false
namespace Go.Proofs.YtofkhhokaalknaaGreatDoor
open Go GoV
set_option maxRecDepth 100000
def heapF (f : Nat) : List Nat:=if f = 60 then [2] else if f = 114 then [4] else if f = 116 then [2,3] else if f = 52 then [1000002] else if f = 53 then [1000002] else if f = 77 then [1000002,1000003] else if f = 7 then [4] else if f = 10 then [8] else if f = 30 then [1000002,1000003,4,5,25,1000028,1000033,1000035,1000037,1000042] else if f = 51 then [4] else if f = 76 then [1000002,1000003] else if f = 50 then [1000001] else if f = 22 then [1000001] else if f = 26 then [1000005,8,9] else if f = 31 then [27] else if f = 58 then [1000002,1000003] else if f = 34 then [1000002,5] else if f = 57 then [1000003,7] else if f = 36 then [6,7] else if f = 66 then [9] else if f = 67 then [11] else []
def accsF (f : Nat) : List Nat:=if f = 7 then [4] else if f = 21 then [4,7] else if f = 23 then [2] else if f = 47 then [4] else if f = 26 then [6] else if f = 56 then [2] else if f = 16 then [2] else if f = 3 then [17] else []
def inF (f : Nat) : Bool:=f == 60 || f == 86 || f == 106 || f == 83 || f == 116 || f == 117 || f == 18 || f == 19 || f == 20 || f == 40 || f == 54 || f == 28 || f == 49 || f == 29 || f == 30 || f == 50 || f == 75 || f == 51 || f == 76 || f == 98 || f == 37 || f == 22 || f == 43 || f == 47 || f == 48 || f == 31 || f == 32 || f == 33 || f == 34 || f == 57 || f == 58 || f == 82 || f == 36 || f == 24 || f == 44 || f == 64 || f == 65 || f == 66 || f == 67 || f == 68 || f == 69 || f == 70 || f == 71 || f == 93 || f == 96 || f == 97 || f == 112 || f == 95
def pol : Pol:=⟨heapF,accsF,fun _ => [],fun f => !inF f⟩
theorem POL : (∀ f,pol.accs f = accsF f) ∧ (∀ f,pol.heap f = heapF f) ∧ (∀ f,pol.muts f = []) ∧ (∀ f,pol.iso f = !inF f) ∧
    (∀ f,heapF f = if f = 60 then [2] else if f = 114 then [4] else if f = 116 then [2,3] else if f = 52 then [1000002] else if f = 53 then [1000002] else if f = 77 then [1000002,1000003] else if f = 7 then [4] else if f = 10 then [8] else if f = 30 then [1000002,1000003,4,5,25,1000028,1000033,1000035,1000037,1000042] else if f = 51 then [4] else if f = 76 then [1000002,1000003] else if f = 50 then [1000001] else if f = 22 then [1000001] else if f = 26 then [1000005,8,9] else if f = 31 then [27] else if f = 58 then [1000002,1000003] else if f = 34 then [1000002,5] else if f = 57 then [1000003,7] else if f = 36 then [6,7] else if f = 66 then [9] else if f = 67 then [11] else []) ∧
    (∀ f,accsF f = if f = 7 then [4] else if f = 21 then [4,7] else if f = 23 then [2] else if f = 47 then [4] else if f = 26 then [6] else if f = 56 then [2] else if f = 16 then [2] else if f = 3 then [17] else []) ∧
    (∀ f,inF f = (f == 60 || f == 86 || f == 106 || f == 83 || f == 116 || f == 117 || f == 18 || f == 19 || f == 20 || f == 40 || f == 54 || f == 28 || f == 49 || f == 29 || f == 30 || f == 50 || f == 75 || f == 51 || f == 76 || f == 98 || f == 37 || f == 22 || f == 43 || f == 47 || f == 48 || f == 31 || f == 32 || f == 33 || f == 34 || f == 57 || f == 58 || f == 82 || f == 36 || f == 24 || f == 44 || f == 64 || f == 65 || f == 66 || f == 67 || f == 68 || f == 69 || f == 70 || f == 71 || f == 93 || f == 96 || f == 97 || f == 112 || f == 95)):=
  ⟨fun _ => rfl,fun _ => rfl,fun _ => rfl,fun _ => rfl,fun _ => rfl,fun _ => rfl,fun _ => rfl⟩
theorem ROPS : (∀ cs,strip0 (.rop cs) = .rop (strip0L cs)) ∧ (∀ H cs,strip1 H (.rop cs) = .rop (strip1L H cs)) ∧ (∀ H cs,strip2 H (.rop cs) = .rop (strip2L H cs)):=⟨fun _ => rfl,fun _ _ => rfl,fun _ _ => rfl⟩
theorem E0 : type_of% RUN ∧ type_of% PATHS ∧ type_of% BASE ∧ type_of% BZ ∧ type_of% NILC ∧ type_of% FA ∧ type_of% POL ∧ type_of% ROPS ∧ Heap.empty = ⟨fun _ => none,0⟩:=⟨RUN,PATHS,BASE,BZ,NILC,FA,POL,ROPS,rfl⟩
abbrev I (n : Int) : PV:=.int .i64 n
def I64 (x : Int) : Prop:=-9223372036854775808 ≤ x ∧ x ≤ 9223372036854775807
theorem i64_in {x : Int} (h : I64 x) : IntKind.i64.wrap x = x:=IntWalk.i64_in x h
abbrev ints (l : List Int) (c : Option Nat) : PV:=.vs 1 (l.map I) c
theorem ints_len (l : List Int) : (l.map I).length = l.length:=by simp
theorem ints_get {l : List Int} {k : Nat} {x : Int} (h : l[k]? = some x) : (l.map I)[k]? = some (I x):=by simp [h]
theorem strip0_ints (l : List Int) : strip0L (l.map I) = l.map I:=by
  rw [strip0L_map]
  simp only [List.map_map]
  rfl
theorem map_strip0_ints (l : List Int) : (l.map I).map strip0 = l.map I:=by
  rw [← strip0L_map]; exact strip0_ints l
theorem map_strip1_ints (H : Heap) (l : List Int) : (l.map I).map (strip1 H) = l.map I:=by
  simp only [List.map_map]; rfl
theorem strip2_ints (H : Heap) (l : List Int) : strip2L H (l.map I) = l.map I:=by
  rw [strip2L_map]; simp only [List.map_map]; rfl
theorem strip1_ints (H : Heap) (l : List Int) : strip1L H (l.map I) = l.map I:=by
  rw [strip1L_map]; simp only [List.map_map]; rfl
theorem INTS : (∀ l : List Int,(l.map I).length = l.length) ∧ (∀ l : List Int,strip0L (l.map I) = l.map I) ∧ (∀ l : List Int,(l.map I).map strip0 = l.map I) ∧ (∀ H (l : List Int),(l.map I).map (strip1 H) = l.map I) ∧ (∀ H (l : List Int),strip2L H (l.map I) = l.map I) ∧ (∀ H (l : List Int),strip1L H (l.map I) = l.map I):=
  ⟨ints_len,strip0_ints,map_strip0_ints,map_strip1_ints,strip2_ints,strip1_ints⟩
abbrev well (f r d : Int) (k : List Int) (c : Option Nat) : PV:=.agg [I f,I r,I d,ints k c]
abbrev U (n : Int) : PV:=.int .u64 n
abbrev rat (n d : Int) : PV:=.agg [.int .i64 n,.int .i64 d]
theorem wrap_u64 (n : Int) : IntKind.u64.wrap n = n % 18446744073709551616:=by simp [IntKind.wrap,IntKind.bits,IntKind.signed]
theorem wrap_i64 (n : Int) : IntKind.i64.wrap n = (n + 9223372036854775808) % 18446744073709551616 - 9223372036854775808:=by rw [IntKind.wrap_i64]
def mag (x : Int) : Int:=if x < 0 then -x else x
def U64 (x : Int) : Prop:=0 ≤ x ∧ x ≤ 18446744073709551615
theorem u64_in {x : Int} (h : U64 x) : IntKind.u64.wrap x = x:=by
  unfold U64 at h; rw [wrap_u64]; omega
theorem c_mag (x : Int) (h : I64 x) : ap Tryz.prog pol 115 [I x] = some (.ret (U (mag x))):=by
  rw [ap_eq _ Tryz.func115 rfl Tryz.ntmps115 Tryz.results115 (by kernel_rfl) rfl (by exact Nat.le_of_ble_eq_true rfl)]
  simp (maxSteps:=999999) only [E0,seval,-Int.reduceNatCast']
  unfold I64 at h
  unfold mag
  split
  · rw [wrap_u64,wrap_u64]; congr 3; omega
  · rw [wrap_u64]; congr 3; omega
theorem gcd_step {a b : Int} (ha : 0 ≤ a) (hb : 0 < b) : Nat.gcd b.toNat (a % b).toNat = Nat.gcd a.toNat b.toNat:=by
  rw [Nat.gcd_comm,Int.toNat_emod ha (by omega),Nat.gcd_comm a.toNat,← Nat.gcd_rec]
theorem c_rem (x y : Int) (H : Heap) : callF G Tryz.prog pol 116 [U x,U y] H = some (.ret (.fn 117 [.ptr (H.next + 1) 1 0 0,.ptr (H.next + 2) 1 0 0]),((⟨H.rows,H.next + 1⟩ : Heap).add (.gro 1 [U x] 0)).add (.gro 1 [U y] 0)):=by
  rw [callF_eq _ _ Tryz.func116 rfl Tryz.ntmps116 Tryz.results116 (by kernel_rfl) rfl (by exact Nat.le_of_ble_eq_true rfl)]
  simp (maxSteps:=999999) only [E0,seval,-Int.reduceNatCast']
theorem c_div (x y : Int) (hx : U64 x) (hy : U64 y) : ap Tryz.prog pol 114 [U x,U y] = some (.ret (U (Nat.gcd x.toNat y.toNat))):=by
  rw [ap_eq _ Tryz.func114 rfl Tryz.ntmps114 Tryz.results114 (by kernel_rfl) rfl (by exact Nat.le_of_ble_eq_true rfl)]
  simp (maxSteps:=999999) only [E0,seval,-Int.reduceNatCast',c_rem]
  unfold U64 at hx hy
  split
  · next h => subst h; simp; omega
  · next h =>
    rw [callF_eq _ _ Tryz.func117 rfl Tryz.ntmps117 Tryz.results117 (by kernel_rfl) rfl (by exact Nat.le_of_ble_eq_true rfl)]
    simp (maxSteps:=999999) only [E0,seval,-Int.reduceNatCast']
    generalize hL : W _ (.loop _) _ = L
    obtain ⟨ex,s,rfl,hex,h1,h5,h6,hd⟩:=loop_at hL (α:=Int × Int × Int) (fun x => x.2.1.toNat)
      (fun s0 q s => 0 ≤ q.1 ∧ 0 < q.2.1 ∧ Nat.gcd q.1.toNat q.2.1.toNat = Nat.gcd x.toNat y.toNat ∧ (q.1 = 0 → q.2.2 = Nat.gcd x.toNat y.toNat) ∧ s.tmps 0 = .yield 6 ∧ s.tmps 1 = .ptr 3 1 0 0 ∧ s.tmps 2 = .ptr 4 1 0 0 ∧ s.defers = [] ∧
        s.H.rows 1 = some (.gro 1 [U q.2.2] 0) ∧ s.H.rows 3 = some (.gro 1 [U q.1] 0) ∧ s.H.rows 4 = some (.gro 1 [U q.2.1] 0) ∧ s.H.rows 5 = some .dfr ∧ s.H.rows 6 = s0.H.rows 6)
      (fun s0 ex s => (ex = .exit 0 ∨ ex = .ret) ∧ s.H.rows 1 = some (.gro 1 [U (Nat.gcd x.toNat y.toNat)] 0) ∧ s.H.rows 5 = some .dfr ∧ s.H.rows 6 = s0.H.rows 6 ∧ s.defers = []) (x,y,y)
      (by simp (maxSteps:=999999) only [E0,seval,-Int.reduceNatCast']
          refine ⟨by omega,by omega,?_⟩
          intro e; subst e; simp; omega) (by
        rintro ⟨a,b,d⟩ s r hW ⟨ha,hb,hg,h0d,h0,h1,h2,hd,r1,r3,r4,r5,r6⟩
        simp only at ha hb hg h0d h0 h1 h2 r1 r3 r4
        simp (maxSteps:=999999) only [E0,seval,-Int.reduceNatCast'] at r6
        simp (maxSteps:=999999) only [E0,seval,-Int.reduceNatCast',h0,h1,h2,hd,r1,r3,r4,r5,r6,Tryz.func114] at hW
        subst hW
        have hm : max b 1 = b:=by omega
        refine rd_ite (fun hp => ?_) (fun hp => ?_)
        · rw [if_neg (by omega),if_pos (by kernel_rfl),hm]
          have e : a.tmod b = a % b:=Int.tmod_eq_emod_of_nonneg ha
          have e1:=Int.emod_nonneg a (b:=b) (by omega)
          have e2:=Int.emod_lt_of_pos a hb
          have eg:=(gcd_step ha hb).trans hg
          rw [e]
          refine rd_ite (fun hz => ?_) (fun hz => ?_)
          · refine rd_ret ⟨.inr rfl,?_⟩
            rw [hz] at eg
            simp only [Int.toNat_zero,Nat.gcd_zero_right] at eg
            simp (maxSteps:=999999) only [E0,seval,-Int.reduceNatCast',r5,r6]
            congr 5
            omega
          · refine rd_next (b,a % b,a) ?_ (by simp only; omega)
            simp (maxSteps:=999999) only [E0,seval,-Int.reduceNatCast',r5,r6,eg]
            exact ⟨by omega,by omega,by omega,h0,h1,h2⟩
        · refine rd_exit ⟨.inl rfl,?_⟩
          simp (maxSteps:=999999) only [E0,seval,-Int.reduceNatCast',r1,r5,r6]
          rw [h0d (by omega)])
    simp (maxSteps:=999999) only [E0,seval,-Int.reduceNatCast'] at h6
    rcases hex with rfl | rfl <;> simp (maxSteps:=999999) only [E0,seval,-Int.reduceNatCast',h1,h5,h6,hd]
theorem U64_wrap (x : Int) : U64 (IntKind.u64.wrap x):=by unfold U64; rw [wrap_u64]; omega
theorem I64_wrap (x : Int) : I64 (IntKind.i64.wrap x):=by unfold I64; rw [wrap_i64]; omega
theorem U64_mag {x : Int} (h : I64 x) : U64 (mag x):=by unfold I64 at h; unfold U64 mag; split <;> omega
theorem mag_nat (x : Int) : mag x = x.natAbs:=by unfold mag; split <;> omega
def VALID (n d : Int) : Prop:=1 ≤ d ∧ d ≤ 1073741824 ∧ -1073741824 ≤ n ∧ n ≤ 1073741824 ∧ Nat.gcd n.natAbs d.natAbs = 1
instance (n d : Int) : Decidable (VALID n d):=by unfold VALID; infer_instance
theorem c_check (n d : Int) (hn : I64 n) (hd : I64 d) : ap Tryz.prog pol 110 [rat n d] = some (.ret (I (if VALID n d then 0 else 120))):=by
  rw [ap_eq _ Tryz.func110 rfl Tryz.ntmps110 Tryz.results110 (by kernel_rfl) rfl (by exact Nat.le_of_ble_eq_true rfl)]
  simp (maxSteps:=999999) only [E0,seval,-Int.reduceNatCast',c_mag n hn,c_div _ _ (U64_mag hn) (U64_wrap d)]
  unfold I64 at hn hd
  split
  · rw [if_neg (by unfold VALID; omega)]
  split
  · rw [if_neg (by unfold VALID; omega)]
  split
  · rw [if_neg (by unfold VALID; omega)]
  split
  · rw [if_neg (by unfold VALID; omega)]
  rw [u64_in (by unfold U64; omega),mag_nat]
  have e : d.toNat = d.natAbs:=by omega
  rw [e,Int.toNat_natCast]
  split
  · next h => rw [if_neg (by unfold VALID; omega)]
  · next h => rw [if_pos (by unfold VALID; omega)]
abbrev w64 (x : Int) : Int:=IntKind.i64.wrap x
section
variable (a b c d : Int) (ha : I64 a) (hb : I64 b) (hc : I64 c) (hd : I64 d)
include ha hb hc hd
def CMP (x y : Int) : Int:=if x < y then -1 else if y < x then 1 else 0
def CMPR (a b c d : Int) : Int × Int:=if VALID a b ∧ VALID c d then (CMP (w64 (a * d)) (w64 (c * b)),0) else (0,120)
omit ha hb hc hd in
theorem c_nan (x : Int) : ap Tryz.prog pol 74 [I x] = some (.ret (.bool false)):=by
  rw [ap_eq _ Tryz.func74 rfl Tryz.ntmps74 Tryz.results74 (by kernel_rfl) rfl (by exact Nat.le_of_ble_eq_true rfl)]
  simp (maxSteps:=999999) only [E0,seval,-Int.reduceNatCast']
omit ha hb hc hd in
theorem c_compare (x y : Int) : ap Tryz.prog pol 46 [I x,I y] = some (.ret (I (CMP x y))):=by
  rw [ap_eq _ Tryz.func46 rfl Tryz.ntmps46 Tryz.results46 (by kernel_rfl) rfl (by exact Nat.le_of_ble_eq_true rfl)]
  unfold CMP
  simp (maxSteps:=999999) only [E0,seval,-Int.reduceNatCast',c_nan]
  repeat' split
  all_goals rfl
theorem c_cmp : ap Tryz.prog pol 109 [rat a b,rat c d] = some (.ret (.tup [I (CMPR a b c d).1,I (CMPR a b c d).2])):=by
  rw [ap_eq _ Tryz.func109 rfl Tryz.ntmps109 Tryz.results109 (by kernel_rfl) rfl (by exact Nat.le_of_ble_eq_true rfl)]
  unfold CMPR
  by_cases h1 : VALID a b
  · by_cases h2 : VALID c d
    · simp (maxSteps:=999999) only [E0,seval,-Int.reduceNatCast',c_check a b ha hb,c_check c d hc hd,h1,h2,c_compare]
    · simp (maxSteps:=999999) only [E0,seval,-Int.reduceNatCast',c_check a b ha hb,c_check c d hc hd,h1,h2,(show ¬ (120 : Int) = 0 by omega)]
  · simp (maxSteps:=999999) only [E0,seval,-Int.reduceNatCast',c_check a b ha hb,h1,(show ¬ (120 : Int) = 0 by omega)]
    simp only [false_and,if_false]
end
theorem NUM : (((0 : Nat) : Int) = 0 ∧ ((1 : Nat) : Int) = 1 ∧ ((2 : Nat) : Int) = 2 ∧ ((3 : Nat) : Int) = 3 ∧ ((4 : Nat) : Int) = 4) ∧
    (IntKind.i64.wrap 0 = 0 ∧ IntKind.i64.wrap 1 = 1 ∧ IntKind.i64.wrap 2 = 2 ∧ IntKind.i64.wrap 3 = 3 ∧ IntKind.i64.wrap 4 = 4) ∧
    ((0 : Int).toNat = 0 ∧ (1 : Int).toNat = 1 ∧ (2 : Int).toNat = 2 ∧ (3 : Int).toNat = 3 ∧ (4 : Int).toNat = 4):=by
  refine ⟨⟨rfl,rfl,rfl,rfl,rfl⟩,⟨?_,?_,?_,?_,?_⟩,⟨rfl,rfl,rfl,rfl,rfl⟩⟩ <;> exact i64_in (by unfold I64; omega)
theorem mkiK_int (t : Nat) (v : PV) (k : IntKind) : mkiK t v (some (.int k)) = some (.iface t v):=rfl
theorem c_ris3 (a b c : Int) : ap Tryz.prog pol 103 [.vs 1 [I a,I b,I c] (some 3)] = some (.ret (.bool (decide (a ≤ b ∧ b ≤ c)))):=by
  rw [ap_eq _ Tryz.func103 rfl Tryz.ntmps103 Tryz.results103 (by kernel_rfl) rfl (by exact Nat.le_of_ble_eq_true rfl)]
  by_cases h1 : b < a
  · simp (maxSteps:=999999) only [E0,seval,-Int.reduceNatCast',WW_loop,NUM,List.getElem?_cons_zero,List.getElem?_cons_succ,h1,(show ¬ a ≤ b by omega),false_and]
  · by_cases h2 : c < b
    · simp (maxSteps:=999999) only [E0,seval,-Int.reduceNatCast',WW_loop,NUM,List.getElem?_cons_zero,List.getElem?_cons_succ,h1,h2,(show ¬ b ≤ c by omega),and_false]
    · simp (maxSteps:=999999) only [E0,seval,-Int.reduceNatCast',WW_loop,NUM,List.getElem?_cons_zero,List.getElem?_cons_succ,h1,h2,(show a ≤ b by omega),(show b ≤ c by omega)]
theorem c_ris4 (a b c d : Int) : ap Tryz.prog pol 103 [.vs 1 [I a,I b,I c,I d] (some 4)] = some (.ret (.bool (decide (a ≤ b ∧ b ≤ c ∧ c ≤ d)))):=by
  rw [ap_eq _ Tryz.func103 rfl Tryz.ntmps103 Tryz.results103 (by kernel_rfl) rfl (by exact Nat.le_of_ble_eq_true rfl)]
  by_cases h1 : b < a
  · simp (maxSteps:=999999) only [E0,seval,-Int.reduceNatCast',WW_loop,NUM,List.getElem?_cons_zero,List.getElem?_cons_succ,h1,(show ¬ a ≤ b by omega),false_and]
  · by_cases h2 : c < b
    · simp (maxSteps:=999999) only [E0,seval,-Int.reduceNatCast',WW_loop,NUM,List.getElem?_cons_zero,List.getElem?_cons_succ,h1,h2,(show ¬ b ≤ c by omega),and_false,false_and]
    · by_cases h3 : d < c
      · simp (maxSteps:=999999) only [E0,seval,-Int.reduceNatCast',WW_loop,NUM,List.getElem?_cons_zero,List.getElem?_cons_succ,h1,h2,h3,(show ¬ c ≤ d by omega),and_false]
      · simp (maxSteps:=999999) only [E0,seval,-Int.reduceNatCast',WW_loop,NUM,List.getElem?_cons_zero,List.getElem?_cons_succ,h1,h2,h3,(show a ≤ b by omega),(show b ≤ c by omega),(show c ≤ d by omega)]
theorem c_index (i n : Int) : ap Tryz.prog pol 105 [I i,I n] = some (.ret (.bool (decide (0 ≤ i ∧ i < n)))):=by
  rw [ap_eq _ Tryz.func105 rfl Tryz.ntmps105 Tryz.results105 (by kernel_rfl) rfl (by exact Nat.le_of_ble_eq_true rfl)]
  by_cases h : 0 ≤ i
  · simp (maxSteps:=999999) only [E0,seval,-Int.reduceNatCast',h]
  · simp (maxSteps:=999999) only [E0,seval,-Int.reduceNatCast',h,false_and]
theorem c_demand (b : Bool) (e : Int) : ap Tryz.prog pol 85 [.bool b,I e] = if b = true then some (.ret (.tup [])) else some (.pan (.iface 190 (I e))):=by
  rw [ap_eq _ Tryz.func85 rfl Tryz.ntmps85 Tryz.results85 (by kernel_rfl) rfl (by exact Nat.le_of_ble_eq_true rfl)]
  cases b
  · simp (maxSteps:=999999) only [E0,seval,-Int.reduceNatCast',mkiK_int,if_false]
  · simp (maxSteps:=999999) only [E0,seval,-Int.reduceNatCast',if_true]
def SHR (a b c d : Int) : Prop:=VALID a b ∧ VALID c d ∧ 0 ≤ a ∧ CMP (w64 (a * d)) (w64 (c * b)) ≤ 0 ∧ c ≤ d
instance (a b c d : Int) : Decidable (SHR a b c d):=by unfold SHR; infer_instance
theorem b_iff {p q : Prop} [Decidable p] [Decidable q] (h : p ↔ q) : some (CR.ret (PV.bool (decide p))) = some (CR.ret (PV.bool (decide q))):=by rw [decide_eq_decide.2 h]
theorem b_no {q : Prop} [Decidable q] (h : ¬ q) : some (CR.ret (PV.bool false)) = some (CR.ret (PV.bool (decide q))):=by rw [decide_eq_false h]
theorem b_yes {q : Prop} [Decidable q] (h : q) : some (CR.ret (PV.bool true)) = some (CR.ret (PV.bool (decide q))):=by rw [decide_eq_true h]
theorem b_and {p q : Prop} [Decidable p] [Decidable q] : (if p then some (CR.ret (PV.bool (decide q))) else some (CR.ret (PV.bool false))) = some (CR.ret (PV.bool (decide (p ∧ q)))):=by
  by_cases h : p <;> simp [h]
theorem b_nand {p q : Prop} [Decidable p] [Decidable q] : (if p then some (CR.ret (PV.bool false)) else some (CR.ret (PV.bool (decide q)))) = some (CR.ret (PV.bool (decide (¬ p ∧ q)))):=by
  by_cases h : p <;> simp [h]
theorem b_f : some (CR.ret (PV.bool false)) = some (CR.ret (PV.bool (decide False))):=by simp
theorem b_t : some (CR.ret (PV.bool true)) = some (CR.ret (PV.bool (decide True))):=by simp
theorem c_share (a b c d : Int) (ha : I64 a) (hb : I64 b) (hc : I64 c) (hd : I64 d) : ap Tryz.prog pol 113 [.agg [I a,I b,I c,I d]] = some (.ret (.bool (decide (SHR a b c d)))):=by
  rw [ap_eq _ Tryz.func113 rfl Tryz.ntmps113 Tryz.results113 (by kernel_rfl) rfl (by exact Nat.le_of_ble_eq_true rfl)]
  by_cases h1 : VALID a b ∧ VALID c d
  · have e : CMPR a b c d = (CMP (w64 (a * d)) (w64 (c * b)),0):=by simp only [CMPR,h1,and_self,if_true]
    by_cases h2 : 0 ≤ a
    · by_cases h3 : CMP (w64 (a * d)) (w64 (c * b)) ≤ 0
      · simp (maxSteps:=999999) only [E0,seval,-Int.reduceNatCast',NUM,c_cmp a b c d ha hb hc hd,e,h2,h3]
        exact b_iff ⟨fun h => ⟨h1.1,h1.2,h2,h3,h⟩,fun h => h.2.2.2.2⟩
      · simp (maxSteps:=999999) only [E0,seval,-Int.reduceNatCast',NUM,c_cmp a b c d ha hb hc hd,e,h2,h3]
        exact b_no fun h => h3 h.2.2.2.1
    · simp (maxSteps:=999999) only [E0,seval,-Int.reduceNatCast',NUM,c_cmp a b c d ha hb hc hd,e,h2]
      exact b_no fun h => h2 h.2.2.1
  · have e : CMPR a b c d = (0,120):=by simp only [CMPR,h1,if_false]
    simp (maxSteps:=999999) only [E0,seval,-Int.reduceNatCast',NUM,c_cmp a b c d ha hb hc hd,e]
    exact b_no fun h => h1 ⟨h.1,h.2.1⟩
structure Rch where
  (nm : ByteArray) (up dl cp bk si e0 e1 s0 s1 s2 s3 : Int)
def Rch.OK (x : Rch) : Prop:=I64 x.s0 ∧ I64 x.s1 ∧ I64 x.s2 ∧ I64 x.s3
abbrev rch (x : Rch) : PV:=.agg [.str x.nm,I x.up,I x.dl,I x.cp,I x.bk,I x.si,I x.e0,I x.e1,I x.s0,I x.s1,I x.s2,I x.s3]
def RIN (x : Rch) : Prop:=(1 ≤ x.dl ∧ x.dl ≤ 16) ∧ (0 ≤ x.si ∧ x.si ≤ x.cp ∧ x.cp ≤ 1073741824) ∧ (0 ≤ x.si ∧ x.si ≤ x.bk ∧ x.bk ≤ 1099511627776) ∧ (0 ≤ x.e0 ∧ x.e0 ≤ x.e1 ∧ x.e1 ≤ 1073741824) ∧ SHR x.s0 x.s1 x.s2 x.s3
instance (x : Rch) : Decidable (RIN x):=by unfold RIN; infer_instance
def RUP (i : Nat) (x : Rch) : Prop:=(i = 0 ∧ x.up = -1) ∨ (0 < i ∧ 0 ≤ x.up ∧ x.up < i)
instance (i : Nat) (x : Rch) : Decidable (RUP i x):=by unfold RUP; infer_instance
theorem c_reach (i : Nat) (x : Rch) (h : x.OK) : ap Tryz.prog pol 104 [I i,rch x] = some (.ret (.bool (decide (RUP i x ∧ RIN x)))):=by
  obtain ⟨nm,up,dl,cp,bk,si,e0,e1,s0,s1,s2,s3⟩:=x
  obtain ⟨ha,hb,hc,hd⟩:=h
  simp only at ha hb hc hd
  rw [ap_eq _ Tryz.func104 rfl Tryz.ntmps104 Tryz.results104 (by kernel_rfl) rfl (by exact Nat.le_of_ble_eq_true rfl)]
  by_cases hi : i = 0
  · subst hi
    have e : RUP 0 ⟨nm,up,dl,cp,bk,si,e0,e1,s0,s1,s2,s3⟩ ↔ up = -1:=by simp [RUP]
    simp (maxSteps:=999999) only [E0,seval,-Int.reduceNatCast',NUM,c_ris3,c_ris4,c_share s0 s1 s2 s3 ha hb hc hd,b_and]
    refine b_iff ?_
    rw [e]
    unfold RIN
    simp only [and_assoc]
  · have e : RUP i ⟨nm,up,dl,cp,bk,si,e0,e1,s0,s1,s2,s3⟩ ↔ (0 ≤ up ∧ up < i):=by unfold RUP; simp only; omega
    simp (maxSteps:=999999) only [E0,seval,-Int.reduceNatCast',NUM,c_ris3,c_ris4,c_share s0 s1 s2 s3 ha hb hc hd,c_index,(show (0 : Int) < i by omega),b_and]
    refine b_iff ?_
    rw [e]
    unfold RIN
    simp only [and_assoc]
structure Frm where
  (nm : ByteArray) (at_ ar cr : Int)
abbrev frm (x : Frm) : PV:=.agg [.str x.nm,I x.at_,I x.ar,I x.cr]
structure Crp where
  (nm : ByteArray) (n : Int)
structure Rgt where
  (nm : ByteArray) (kd fm rc a b c d e f : Int)
abbrev rgt (x : Rgt) : PV:=.agg [.str x.nm,I x.kd,I x.fm,I x.rc,I x.a,I x.b,I x.c,I x.d,I x.e,I x.f]
theorem eq_rgt (x : Rgt) (c' d' : Int) (xo yo : Operand) : binPV Tryz.prog .eql 196 xo yo (rgt x) (rgt ⟨x.nm,x.kd,x.fm,x.rc,0,0,c',d',0,0⟩) = some (.bool (decide (x.a = 0 ∧ x.b = 0 ∧ x.c = c' ∧ x.d = d' ∧ x.e = 0 ∧ x.f = 0))):=by
  refine (bin_agg (by kernel_rfl) (fun n => ?_) xo yo).1
  have g2 : Tryz.prog.stoodInHeld 196 = false:=by kernel_rfl
  simp only [eqPV,Tryz.underlying196,g2,eqFs,partPV,FA,Option.bind_some,Bool.false_eq_true,if_false,List.getElem?_cons_zero,List.getElem?_cons_succ,if_true,String.reduceEq,beq_self_eq_true]
  have hn : (x.nm == x.nm) = true:=by
    show x.nm.beq x.nm = true
    unfold ByteArray.beq
    simp
  by_cases h1 : x.a = 0
  case neg => simp [hn,h1]
  by_cases h2 : x.b = 0
  case neg => simp [hn,h1,h2]
  by_cases h3 : x.c = c'
  case neg => simp [hn,h1,h2,h3]
  by_cases h4 : x.d = d'
  case neg => simp [hn,h1,h2,h3,h4]
  by_cases h5 : x.e = 0
  case neg => simp [hn,h1,h2,h3,h4,h5]
  by_cases h6 : x.f = 0
  case neg => simp [hn,h1,h2,h3,h4,h5,h6]
  simp [hn,h1,h2,h3,h4,h5,h6]
def RGT (hours nf nr : Int) (x : Rgt) : Prop:=(0 ≤ x.fm ∧ x.fm < nf) ∧ (0 ≤ x.rc ∧ x.rc < nr) ∧ (0 ≤ x.c ∧ x.c ≤ x.d ∧ x.d ≤ hours - 1) ∧
  (if x.kd = 1 then x.rc = 0 ∧ (0 ≤ x.a ∧ x.a ≤ 1048576) ∧ (1 ≤ x.b ∧ x.b ≤ 1073741824) ∧ (1 ≤ x.f ∧ x.f ≤ x.e ∧ x.e ≤ hours)
   else if x.kd = 2 then x.a = 0 ∧ x.b = 0 ∧ x.c = 0 ∧ x.d = hours - 1 ∧ x.e = 0 ∧ x.f = 0
   else if x.kd = 3 then x.a = 0 ∧ x.b = 0 ∧ x.e = 0 ∧ x.f = 0 else False)
instance (h nf nr : Int) (x : Rgt) : Decidable (RGT h nf nr x):=by unfold RGT; infer_instance
section
variable {p q : Prop} [Decidable p] [Decidable q] {H : Heap}
theorem h_and : (if p then some (CR.ret (PV.bool (decide q)),H) else some (CR.ret (PV.bool false),H)) = some (CR.ret (PV.bool (decide (p ∧ q))),H):=by
  by_cases h : p <;> simp [h]
theorem h_nand : (if p then some (CR.ret (PV.bool false),H) else some (CR.ret (PV.bool (decide q)),H)) = some (CR.ret (PV.bool (decide (¬ p ∧ q))),H):=by
  by_cases h : p <;> simp [h]
theorem h_iff (h : p ↔ q) : some (CR.ret (PV.bool (decide p)),H) = some (CR.ret (PV.bool (decide q)),H):=by rw [decide_eq_decide.2 h]
theorem h_f : some (CR.ret (PV.bool false),H) = some (CR.ret (PV.bool (decide False)),H):=by simp
end
abbrev dist (nm : ByteArray) (hours cap start : Int) (rs fs cs gs ds ws : PV) : PV:=.agg [.str nm,I hours,I cap,I start,rs,fs,cs,gs,ds,ws]
theorem c_right (nm : ByteArray) (hours cap start : Int) (rs fs : List PV) (rc fc : Option Nat) (cs gs ds ws : PV) (x : Rgt) (h1 : 1 ≤ hours) (h2 : hours ≤ 4096) (H : Heap) :
    callF G Tryz.prog pol 106 [dist nm hours cap start (.vs 12 rs rc) (.vs 4 fs fc) cs gs ds ws,rgt x] H = some (.ret (.bool (decide (RGT hours fs.length rs.length x))),⟨H.rows,H.next + 1⟩):=by
  have e2:=eq_rgt x 0 (hours - 1)
  have e3:=eq_rgt x x.c x.d
  obtain ⟨n,kd,fm,rc,a,b,c,d,e,f⟩:=x
  simp only at e2 e3
  rw [callF_eq _ _ Tryz.func106 rfl Tryz.ntmps106 Tryz.results106 (by kernel_rfl) rfl (by exact Nat.le_of_ble_eq_true rfl)]
  by_cases k1 : kd = 1
  · subst k1
    simp (maxSteps:=999999) only [E0,seval,-Int.reduceNatCast',NUM,c_index,c_ris3,c_ris4,i64_in (x:=hours - 1) (by unfold I64; omega),h_and,h_nand]
    refine h_iff ?_
    unfold RGT
    simp only [Int.reduceEq,if_true,Decidable.not_not]
  · by_cases k2 : kd = 2
    · subst k2
      simp (maxSteps:=999999) only [E0,seval,-Int.reduceNatCast',NUM,c_index,c_ris3,c_ris4,i64_in (x:=hours - 1) (by unfold I64; omega),e2,h_and,h_nand]
      refine h_iff ?_
      unfold RGT
      simp only [Int.reduceEq,if_true,if_false,Decidable.not_not]
    · by_cases k3 : kd = 3
      · subst k3
        simp (maxSteps:=999999) only [E0,seval,-Int.reduceNatCast',NUM,c_index,c_ris3,c_ris4,i64_in (x:=hours - 1) (by unfold I64; omega),e3,h_and,h_nand]
        refine h_iff ?_
        unfold RGT
        simp only [Int.reduceEq,if_true,if_false,Decidable.not_not,true_and]
      · simp (maxSteps:=999999) only [E0,seval,-Int.reduceNatCast',NUM,c_index,c_ris3,c_ris4,i64_in (x:=hours - 1) (by unfold I64; omega),k1,k2,k3]
        rw [decide_eq_false (p:=RGT ..) (by unfold RGT; simp only [k1,k2,k3,if_false,and_false]; exact id)]
        simp only [ite_self]
structure SL (sz : Nat) (l : List PV) (v : PV) : Prop where
  len : ∀ e,lenK (some (.slice e)) v = some (.int .i64 l.length)
  at_ : ∀ k : Int,iAddrK (some sz) v (some k) = if 0 ≤ k ∧ k < l.length then rowC l[k.toNat]? else none
theorem SL_vs (sz : Nat) (l : List PV) (c : Option Nat) : SL sz l (.vs sz l c):=
  ⟨fun _ => rfl,fun k => by rw [iAddrK_vs]; simp⟩
theorem SL_nils (sz : Nat) : SL sz [] .nils:=
  ⟨fun _ => rfl,fun k => by rw [iAddrK_nils,if_neg (by rw [List.length_nil]; omega)]⟩
abbrev crp (x : Crp) : PV:=.agg [.str x.nm,I x.n]
structure Dty where
  (nm : ByteArray) (fm rc due : Int)
abbrev dty (x : Dty) : PV:=.agg [.str x.nm,I x.fm,I x.rc,I x.due]
def CRPK (x : Crp) : Prop:=0 ≤ x.n ∧ x.n ≤ 1048576
instance (x : Crp) : Decidable (CRPK x):=by unfold CRPK; infer_instance
def FRMK (nr nc : Int) (x : Frm) : Prop:=(0 ≤ x.at_ ∧ x.at_ < nr) ∧ (0 ≤ x.ar ∧ x.ar ≤ 1048576) ∧ (if 0 < x.ar then 0 ≤ x.cr ∧ x.cr < nc else x.cr = -1)
instance (a b : Int) (x : Frm) : Decidable (FRMK a b x):=by unfold FRMK; infer_instance
def DTYK (hours nf nr : Int) (x : Dty) : Prop:=(0 ≤ x.fm ∧ x.fm < nf) ∧ (0 ≤ x.rc ∧ x.rc < nr) ∧ (0 ≤ x.due ∧ x.due ≤ hours)
instance (a b c : Int) (x : Dty) : Decidable (DTYK a b c x):=by unfold DTYK; infer_instance
def ALLI {α : Type} (P : Nat → α → Prop) (l : List α) : Prop:=∀ i x,l[i]? = some x → P i x
theorem ALLI_take {α : Type} {P : Nat → α → Prop} {l : List α} {j : Nat} {x : α} (h : ALLI P (l.take j)) (e : l[j]? = some x) (hx : P j x) : ALLI P (l.take (j + 1)):=by
  intro i y hy
  rw [List.getElem?_take] at hy
  split at hy
  · by_cases hi : i = j
    · subst hi
      rw [e] at hy
      cases hy; exact hx
    · exact h i y (by rw [List.getElem?_take,if_pos (by omega)]; exact hy)
  · simp at hy
structure Dis where
  (nm : ByteArray) (hours cap start : Int) (rs : List Rch) (fs : List Frm) (cs : List Crp) (gs : List Rgt) (ds : List Dty)
def Dis.K (D : Dis) : Prop:=(1 ≤ D.hours ∧ D.hours ≤ 4096) ∧ (0 ≤ D.start ∧ D.start ≤ D.cap ∧ D.cap ≤ 1099511627776) ∧ 0 < D.rs.length ∧
  ALLI (fun i x => RUP i x ∧ RIN x) D.rs ∧ ALLI (fun _ x => CRPK x) D.cs ∧ ALLI (fun _ x => FRMK D.rs.length D.cs.length x) D.fs ∧
  ALLI (fun _ x => RGT D.hours D.fs.length D.rs.length x) D.gs ∧ ALLI (fun _ x => DTYK D.hours D.fs.length D.rs.length x) D.ds
def EX (D : List PV) (e : Int) (H : Heap) (s : St) : Prop:=s.tmps 2 = .bptr H.next 2 0 0 ∧ s.tmps 1 = I e ∧ s.boxes 2 = some (0,D) ∧ s.defers = [] ∧ s.fid = H.next ∧ s.H.rows = H.rows ∧ H.next ≤ s.H.next
def PEX (e : Int) (H : Heap) (ex : Ex) (s : St) : Prop:=ex = .pan (.iface 190 (I e)) ∧ s.defers = [] ∧ s.H.rows = H.rows ∧ H.next ≤ s.H.next
theorem endK_p {P : Program} {pol : Pol} {rs : List ResultVar} {v : PV} {s : St} (h : s.defers = []) : endK P pol rs (some v) s = some (.pan v,s.H):=by
  obtain ⟨f,t,b,d,H,rc⟩:=s
  simp only at h; subst h; rfl
theorem c_examine (D : Dis) (hr : ∀ x ∈ D.rs,x.OK) (l1 : D.rs.length ≤ 10000) (l2 : D.fs.length ≤ 10000) (l3 : D.cs.length ≤ 10000) (l4 : D.gs.length ≤ 10000) (l5 : D.ds.length ≤ 10000)
    (rc fc : Option Nat) (cs gs ds ws : PV) (hcs : SL 2 (D.cs.map crp) cs) (hgs : SL 10 (D.gs.map rgt) gs) (hds : SL 4 (D.ds.map dty) ds) (e : Int) (H : Heap) (X : Option (CR × Heap))
    (hX : callF G Tryz.prog pol 86 [dist D.nm D.hours D.cap D.start (.vs 12 (D.rs.map rch) rc) (.vs 4 (D.fs.map frm) fc) cs gs ds ws,I e] H = X) :
    ∃ H' r,X = some (r,H') ∧ H'.rows = H.rows ∧ H.next ≤ H'.next ∧ ((D.K ∧ r = .ret (.tup [])) ∨ (¬ D.K ∧ r = .pan (.iface 190 (I e)))):=by
  subst hX
  obtain ⟨nm,hours,cap,start,rs,fs,cl,gl,dl⟩:=D
  simp only at *
  rw [callF_eq _ _ Tryz.func86 rfl Tryz.ntmps86 Tryz.results86 (by kernel_rfl) rfl (by exact Nat.le_of_ble_eq_true rfl)]
  by_cases a1 : 1 ≤ hours ∧ hours ≤ 4096
  rotate_left
  · simp (maxSteps:=999999) only [E0,seval,-Int.reduceNatCast',NUM,c_ris3,a1,c_demand]
    exact ⟨_,_,rfl,rfl,by simp,.inr ⟨fun h => a1 h.1,rfl⟩⟩
  by_cases a2 : 0 ≤ start ∧ start ≤ cap ∧ cap ≤ 1099511627776
  rotate_left
  · simp (maxSteps:=999999) only [E0,seval,-Int.reduceNatCast',NUM,c_ris3,c_ris4,a1,a2,c_demand]
    exact ⟨_,_,rfl,rfl,by simp,.inr ⟨fun h => a2 h.2.1,rfl⟩⟩
  by_cases a3 : 0 < rs.length
  rotate_left
  · simp (maxSteps:=999999) only [E0,seval,-Int.reduceNatCast',NUM,c_ris3,c_ris4,a1,a2,c_demand,List.length_map,(show ¬ 0 < (rs.length : Int) by omega)]
    exact ⟨_,_,rfl,rfl,by simp,.inr ⟨fun h => a3 h.2.2.1,rfl⟩⟩
  simp (maxSteps:=999999) only [E0,seval,-Int.reduceNatCast',NUM,c_ris3,c_ris4,a1,a2,c_demand,List.length_map,(show 0 < (rs.length : Int) by omega)]
  generalize hL : W _ (.loop _) _ = L
  obtain ⟨ex,s,rfl,hex⟩:=loop_at hL (α:=Nat) (fun j => rs.length - j)
    (fun s0 j s => j ≤ rs.length ∧ ALLI (fun i x => RUP i x ∧ RIN x) (rs.take j) ∧ s.tmps 40 = I j ∧ s.tmps 39 = I rs.length ∧ s.tmps 38 = (.vs 12 (rs.map rch) rc) ∧ EX [.str nm,I hours,I cap,I start,.vs 12 (rs.map rch) rc,.vs 4 (fs.map frm) fc,cs,gs,ds,ws] e H s)
    (fun s0 ex s => (ex = .exit 0 ∧ ALLI (fun i x => RUP i x ∧ RIN x) rs ∧ EX [.str nm,I hours,I cap,I start,.vs 12 (rs.map rch) rc,.vs 4 (fs.map frm) fc,cs,gs,ds,ws] e H s) ∨ (PEX e H ex s ∧ ¬ ALLI (fun i x => RUP i x ∧ RIN x) rs)) 0
    (by simp (maxSteps:=999999) only [E0,seval,-Int.reduceNatCast',EX,start_tm,List.take_zero]
        refine ⟨Nat.zero_le _,fun i x h => by simp at h,?_⟩
        simp) (by
      rintro j s r hW ⟨hj,ht,h40,h39,h38,x2,x1,xb,xd,xf,xh,xn⟩
      by_cases hp : j < rs.length
      · have e0 : rs[j]? = some rs[j]:=List.getElem?_eq_getElem hp
        have e1 : (rs.map rch)[j]? = some (rch rs[j]):=by simp [e0]
        generalize rs[j] = x at e0 e1
        by_cases hx : (RUP j x ∧ RIN x)
        · simp (maxSteps:=999999) only [E0,seval,-Int.reduceNatCast',NUM,h40,h39,h38,x2,x1,xb,xd,xf,e1,c_demand,List.length_map,hcs.len,hgs.len,hds.len,c_reach j x (hr x (List.mem_of_getElem? e0)),hx,Int.toNat_natCast,(show (j : Int) < rs.length by omega),(show (0 : Int) ≤ j by omega),(i64_in (x:=(j : Int) + 1) (by unfold I64; omega))] at hW
          subst hW
          refine rd_next (j + 1) ?_ (show rs.length - (j + 1) < rs.length - j by omega)
          refine ⟨by omega,ALLI_take ht e0 hx,?_⟩
          simp (maxSteps:=999999) only [E0,seval,-Int.reduceNatCast',EX,h39,h38,x2,x1,xb,xh]
          exact ⟨by congr 1,by omega⟩
        · simp (maxSteps:=999999) only [E0,seval,-Int.reduceNatCast',NUM,h40,h39,h38,x2,x1,xb,xd,xf,e1,c_demand,List.length_map,hcs.len,hgs.len,hds.len,c_reach j x (hr x (List.mem_of_getElem? e0)),hx,Int.toNat_natCast,(show (j : Int) < rs.length by omega),(show (0 : Int) ≤ j by omega),(i64_in (x:=(j : Int) + 1) (by unfold I64; omega))] at hW
          subst hW
          refine rd_pan (.inr ⟨⟨rfl,?_⟩,fun h => hx (h j x e0)⟩)
          simp (maxSteps:=999999) only [E0,seval,-Int.reduceNatCast',xh]
          omega
      · simp (maxSteps:=999999) only [E0,seval,-Int.reduceNatCast',h40,h39,h38,x2,x1,xb,xd,xf,(show ¬ (j : Int) < rs.length by omega)] at hW
        subst hW
        rw [List.take_of_length_le (by omega)] at ht
        refine rd_exit (.inl ⟨rfl,ht,?_⟩)
        simp (maxSteps:=999999) only [E0,seval,-Int.reduceNatCast',EX,x2,x1,xb,xh]
        exact xn)
  rcases hex with ⟨rfl,b0,x2,x1,xb,xd,xf,xh,xn⟩ | ⟨⟨rfl,xd,xh,xn⟩,hbad⟩
  rotate_left
  · simp (maxSteps:=999999) only [E0,seval,-Int.reduceNatCast',xd,endK_p xd]
    exact ⟨_,_,rfl,xh,xn,.inr ⟨fun h => hbad h.2.2.2.1,rfl⟩⟩
  simp (maxSteps:=999999) only [E0,seval,-Int.reduceNatCast',x2,x1,xb,xd,xf,List.length_map,hcs.len,hgs.len,hds.len]
  clear hL
  generalize hL : W _ (.loop _) _ = L
  obtain ⟨ex,s,rfl,hex⟩:=loop_at hL (α:=Nat) (fun j => cl.length - j)
    (fun s0 j s => j ≤ cl.length ∧ ALLI (fun _ x => CRPK x) (cl.take j) ∧ s.tmps 54 = I j ∧ s.tmps 53 = I cl.length ∧ s.tmps 52 = cs ∧ EX [.str nm,I hours,I cap,I start,.vs 12 (rs.map rch) rc,.vs 4 (fs.map frm) fc,cs,gs,ds,ws] e H s)
    (fun s0 ex s => (ex = .exit 2 ∧ ALLI (fun _ x => CRPK x) cl ∧ EX [.str nm,I hours,I cap,I start,.vs 12 (rs.map rch) rc,.vs 4 (fs.map frm) fc,cs,gs,ds,ws] e H s) ∨ (PEX e H ex s ∧ ¬ ALLI (fun _ x => CRPK x) cl)) 0
    (by simp (maxSteps:=999999) only [E0,seval,-Int.reduceNatCast',EX,x2,x1,xb,xd,xf,xh,List.take_zero]
        refine ⟨Nat.zero_le _,fun i x h => by simp at h,?_⟩
        simp [xn]) (by
      rintro j s r hW ⟨hj,ht,h54,h53,h52,x2,x1,xb,xd,xf,xh,xn⟩
      by_cases hp : j < cl.length
      · have e0 : cl[j]? = some cl[j]:=List.getElem?_eq_getElem hp
        have e1 : (cl.map crp)[j]? = some (crp cl[j]):=by simp [e0]
        generalize cl[j] = x at e0 e1
        simp (maxSteps:=999999) only [E0,seval,-Int.reduceNatCast',NUM,h54,h53,h52,x2,x1,xb,xd,xf,e1,c_demand,List.length_map,hcs.len,hgs.len,hds.len,c_ris3,hcs.at_,Int.toNat_natCast,(show (j : Int) < cl.length by omega),(show (0 : Int) ≤ j by omega),(i64_in (x:=(j : Int) + 1) (by unfold I64; omega))] at hW
        subst hW
        refine rd_ite (fun y1 => ?_) (fun y1 => ?_)
        · refine rd_next (j + 1) ?_ (show cl.length - (j + 1) < cl.length - j by omega)
          refine ⟨by omega,ALLI_take ht e0 y1,?_⟩
          simp (maxSteps:=999999) only [E0,seval,-Int.reduceNatCast',EX,h53,h52,x2,x1,xb,xh]
          exact ⟨by congr 1,by omega⟩
        · refine rd_pan (.inr ⟨⟨rfl,?_⟩,fun h => y1 (h j x e0)⟩)
          simp (maxSteps:=999999) only [E0,seval,-Int.reduceNatCast',xh]
          omega
      · simp (maxSteps:=999999) only [E0,seval,-Int.reduceNatCast',h54,h53,h52,x2,x1,xb,xd,xf,(show ¬ (j : Int) < cl.length by omega)] at hW
        subst hW
        rw [List.take_of_length_le (by omega)] at ht
        refine rd_exit (.inl ⟨rfl,ht,?_⟩)
        simp (maxSteps:=999999) only [E0,seval,-Int.reduceNatCast',EX,x2,x1,xb,xh]
        exact xn)
  rcases hex with ⟨rfl,b1,x2,x1,xb,xd,xf,xh,xn⟩ | ⟨⟨rfl,xd,xh,xn⟩,hbad⟩
  rotate_left
  · simp (maxSteps:=999999) only [E0,seval,-Int.reduceNatCast',xd,endK_p xd]
    exact ⟨_,_,rfl,xh,xn,.inr ⟨fun h => hbad h.2.2.2.2.1,rfl⟩⟩
  simp (maxSteps:=999999) only [E0,seval,-Int.reduceNatCast',x2,x1,xb,xd,xf,List.length_map,hcs.len,hgs.len,hds.len]
  clear hL
  generalize hL : W _ (.loop _) _ = L
  obtain ⟨ex,s,rfl,hex⟩:=loop_at hL (α:=Nat) (fun j => fs.length - j)
    (fun s0 j s => j ≤ fs.length ∧ ALLI (fun _ x => FRMK rs.length cl.length x) (fs.take j) ∧ s.tmps 68 = I j ∧ s.tmps 67 = I fs.length ∧ s.tmps 66 = (.vs 4 (fs.map frm) fc) ∧ EX [.str nm,I hours,I cap,I start,.vs 12 (rs.map rch) rc,.vs 4 (fs.map frm) fc,cs,gs,ds,ws] e H s)
    (fun s0 ex s => (ex = .exit 4 ∧ ALLI (fun _ x => FRMK rs.length cl.length x) fs ∧ EX [.str nm,I hours,I cap,I start,.vs 12 (rs.map rch) rc,.vs 4 (fs.map frm) fc,cs,gs,ds,ws] e H s) ∨ (PEX e H ex s ∧ ¬ ALLI (fun _ x => FRMK rs.length cl.length x) fs)) 0
    (by simp (maxSteps:=999999) only [E0,seval,-Int.reduceNatCast',EX,x2,x1,xb,xd,xf,xh,List.take_zero]
        refine ⟨Nat.zero_le _,fun i x h => by simp at h,?_⟩
        simp [xn]) (by
      rintro j s r hW ⟨hj,ht,h68,h67,h66,x2,x1,xb,xd,xf,xh,xn⟩
      by_cases hp : j < fs.length
      · have e0 : fs[j]? = some fs[j]:=List.getElem?_eq_getElem hp
        have e1 : (fs.map frm)[j]? = some (frm fs[j]):=by simp [e0]
        generalize fs[j] = x at e0 e1
        by_cases hx0 : 0 < x.ar
        · have ek : FRMK rs.length cl.length x ↔ ((0 ≤ x.at_ ∧ x.at_ < rs.length) ∧ (0 ≤ x.ar ∧ x.ar ≤ 1048576) ∧ (0 ≤ x.cr ∧ x.cr < cl.length)):=by unfold FRMK; simp only [hx0,if_true,if_false]
          simp (maxSteps:=999999) only [E0,seval,-Int.reduceNatCast',NUM,h68,h67,h66,x2,x1,xb,xd,xf,e1,c_demand,List.length_map,hcs.len,hgs.len,hds.len,c_ris3,c_index,hcs.len,hx0,Int.toNat_natCast,(show (j : Int) < fs.length by omega),(show (0 : Int) ≤ j by omega),(i64_in (x:=(j : Int) + 1) (by unfold I64; omega))] at hW
          subst hW
          refine rd_ite (fun y1 => ?_) (fun y1 => ?_)
          · refine rd_ite (fun y2 => ?_) (fun y2 => ?_)
            · refine rd_ite (fun y3 => ?_) (fun y3 => ?_)
              · refine rd_next (j + 1) ?_ (show fs.length - (j + 1) < fs.length - j by omega)
                refine ⟨by omega,ALLI_take ht e0 (ek.2 ⟨y2,y3,y1⟩),?_⟩
                simp (maxSteps:=999999) only [E0,seval,-Int.reduceNatCast',EX,h67,h66,x2,x1,xb,xh]
                exact ⟨by congr 1,by omega⟩
              · refine rd_pan (.inr ⟨⟨rfl,?_⟩,fun h => y3 (ek.1 (h j x e0)).2.1⟩)
                simp (maxSteps:=999999) only [E0,seval,-Int.reduceNatCast',xh]
                omega
            · refine rd_pan (.inr ⟨⟨rfl,?_⟩,fun h => y2 (ek.1 (h j x e0)).1⟩)
              simp (maxSteps:=999999) only [E0,seval,-Int.reduceNatCast',xh]
              omega
          · refine rd_pan (.inr ⟨⟨rfl,?_⟩,fun h => y1 (ek.1 (h j x e0)).2.2⟩)
            simp (maxSteps:=999999) only [E0,seval,-Int.reduceNatCast',xh]
            omega
        · have ek : FRMK rs.length cl.length x ↔ ((0 ≤ x.at_ ∧ x.at_ < rs.length) ∧ (0 ≤ x.ar ∧ x.ar ≤ 1048576) ∧ (x.cr = -1)):=by unfold FRMK; simp only [hx0,if_true,if_false]
          simp (maxSteps:=999999) only [E0,seval,-Int.reduceNatCast',NUM,h68,h67,h66,x2,x1,xb,xd,xf,e1,c_demand,List.length_map,hcs.len,hgs.len,hds.len,c_ris3,c_index,hcs.len,hx0,Int.toNat_natCast,(show (j : Int) < fs.length by omega),(show (0 : Int) ≤ j by omega),(i64_in (x:=(j : Int) + 1) (by unfold I64; omega))] at hW
          subst hW
          refine rd_ite (fun y1 => ?_) (fun y1 => ?_)
          · refine rd_ite (fun y2 => ?_) (fun y2 => ?_)
            · refine rd_ite (fun y3 => ?_) (fun y3 => ?_)
              · refine rd_next (j + 1) ?_ (show fs.length - (j + 1) < fs.length - j by omega)
                refine ⟨by omega,ALLI_take ht e0 (ek.2 ⟨y2,y3,y1⟩),?_⟩
                simp (maxSteps:=999999) only [E0,seval,-Int.reduceNatCast',EX,h67,h66,x2,x1,xb,xh]
                exact ⟨by congr 1,by omega⟩
              · refine rd_pan (.inr ⟨⟨rfl,?_⟩,fun h => y3 (ek.1 (h j x e0)).2.1⟩)
                simp (maxSteps:=999999) only [E0,seval,-Int.reduceNatCast',xh]
                omega
            · refine rd_pan (.inr ⟨⟨rfl,?_⟩,fun h => y2 (ek.1 (h j x e0)).1⟩)
              simp (maxSteps:=999999) only [E0,seval,-Int.reduceNatCast',xh]
              omega
          · refine rd_pan (.inr ⟨⟨rfl,?_⟩,fun h => y1 (ek.1 (h j x e0)).2.2⟩)
            simp (maxSteps:=999999) only [E0,seval,-Int.reduceNatCast',xh]
            omega
      · simp (maxSteps:=999999) only [E0,seval,-Int.reduceNatCast',h68,h67,h66,x2,x1,xb,xd,xf,(show ¬ (j : Int) < fs.length by omega)] at hW
        subst hW
        rw [List.take_of_length_le (by omega)] at ht
        refine rd_exit (.inl ⟨rfl,ht,?_⟩)
        simp (maxSteps:=999999) only [E0,seval,-Int.reduceNatCast',EX,x2,x1,xb,xh]
        exact xn)
  rcases hex with ⟨rfl,b2,x2,x1,xb,xd,xf,xh,xn⟩ | ⟨⟨rfl,xd,xh,xn⟩,hbad⟩
  rotate_left
  · simp (maxSteps:=999999) only [E0,seval,-Int.reduceNatCast',xd,endK_p xd]
    exact ⟨_,_,rfl,xh,xn,.inr ⟨fun h => hbad h.2.2.2.2.2.1,rfl⟩⟩
  simp (maxSteps:=999999) only [E0,seval,-Int.reduceNatCast',x2,x1,xb,xd,xf,List.length_map,hcs.len,hgs.len,hds.len]
  clear hL
  generalize hL : W _ (.loop _) _ = L
  obtain ⟨ex,s,rfl,hex⟩:=loop_at hL (α:=Nat) (fun j => gl.length - j)
    (fun s0 j s => j ≤ gl.length ∧ ALLI (fun _ x => RGT hours fs.length rs.length x) (gl.take j) ∧ s.tmps 105 = I j ∧ s.tmps 104 = I gl.length ∧ s.tmps 103 = gs ∧ EX [.str nm,I hours,I cap,I start,.vs 12 (rs.map rch) rc,.vs 4 (fs.map frm) fc,cs,gs,ds,ws] e H s)
    (fun s0 ex s => (ex = .exit 6 ∧ ALLI (fun _ x => RGT hours fs.length rs.length x) gl ∧ EX [.str nm,I hours,I cap,I start,.vs 12 (rs.map rch) rc,.vs 4 (fs.map frm) fc,cs,gs,ds,ws] e H s) ∨ (PEX e H ex s ∧ ¬ ALLI (fun _ x => RGT hours fs.length rs.length x) gl)) 0
    (by simp (maxSteps:=999999) only [E0,seval,-Int.reduceNatCast',EX,x2,x1,xb,xd,xf,xh,List.take_zero]
        refine ⟨Nat.zero_le _,fun i x h => by simp at h,?_⟩
        simp [xn]) (by
      rintro j s r hW ⟨hj,ht,h105,h104,h103,x2,x1,xb,xd,xf,xh,xn⟩
      by_cases hp : j < gl.length
      · have e0 : gl[j]? = some gl[j]:=List.getElem?_eq_getElem hp
        have e1 : (gl.map rgt)[j]? = some (rgt gl[j]):=by simp [e0]
        generalize gl[j] = x at e0 e1
        by_cases hx : RGT hours fs.length rs.length x
        · simp (maxSteps:=999999) only [E0,seval,-Int.reduceNatCast',NUM,h105,h104,h103,x2,x1,xb,xd,xf,e1,c_demand,List.length_map,hcs.len,hgs.len,hds.len,c_right nm hours cap start _ _ rc fc cs gs ds ws x a1.1 a1.2,hgs.at_,hx,Int.toNat_natCast,(show (j : Int) < gl.length by omega),(show (0 : Int) ≤ j by omega),(i64_in (x:=(j : Int) + 1) (by unfold I64; omega))] at hW
          subst hW
          refine rd_next (j + 1) ?_ (show gl.length - (j + 1) < gl.length - j by omega)
          refine ⟨by omega,ALLI_take ht e0 hx,?_⟩
          simp (maxSteps:=999999) only [E0,seval,-Int.reduceNatCast',EX,h104,h103,x2,x1,xb,xh]
          exact ⟨by congr 1,by omega⟩
        · simp (maxSteps:=999999) only [E0,seval,-Int.reduceNatCast',NUM,h105,h104,h103,x2,x1,xb,xd,xf,e1,c_demand,List.length_map,hcs.len,hgs.len,hds.len,c_right nm hours cap start _ _ rc fc cs gs ds ws x a1.1 a1.2,hgs.at_,hx,Int.toNat_natCast,(show (j : Int) < gl.length by omega),(show (0 : Int) ≤ j by omega),(i64_in (x:=(j : Int) + 1) (by unfold I64; omega))] at hW
          subst hW
          refine rd_pan (.inr ⟨⟨rfl,?_⟩,fun h => hx (h j x e0)⟩)
          simp (maxSteps:=999999) only [E0,seval,-Int.reduceNatCast',xh]
          omega
      · simp (maxSteps:=999999) only [E0,seval,-Int.reduceNatCast',h105,h104,h103,x2,x1,xb,xd,xf,(show ¬ (j : Int) < gl.length by omega)] at hW
        subst hW
        rw [List.take_of_length_le (by omega)] at ht
        refine rd_exit (.inl ⟨rfl,ht,?_⟩)
        simp (maxSteps:=999999) only [E0,seval,-Int.reduceNatCast',EX,x2,x1,xb,xh]
        exact xn)
  rcases hex with ⟨rfl,b3,x2,x1,xb,xd,xf,xh,xn⟩ | ⟨⟨rfl,xd,xh,xn⟩,hbad⟩
  rotate_left
  · simp (maxSteps:=999999) only [E0,seval,-Int.reduceNatCast',xd,endK_p xd]
    exact ⟨_,_,rfl,xh,xn,.inr ⟨fun h => hbad h.2.2.2.2.2.2.1,rfl⟩⟩
  simp (maxSteps:=999999) only [E0,seval,-Int.reduceNatCast',x2,x1,xb,xd,xf,List.length_map,hcs.len,hgs.len,hds.len]
  clear hL
  generalize hL : W _ (.loop _) _ = L
  obtain ⟨ex,s,rfl,hex⟩:=loop_at hL (α:=Nat) (fun j => dl.length - j)
    (fun s0 j s => j ≤ dl.length ∧ ALLI (fun _ x => DTYK hours fs.length rs.length x) (dl.take j) ∧ s.tmps 118 = I j ∧ s.tmps 117 = I dl.length ∧ s.tmps 116 = ds ∧ EX [.str nm,I hours,I cap,I start,.vs 12 (rs.map rch) rc,.vs 4 (fs.map frm) fc,cs,gs,ds,ws] e H s)
    (fun s0 ex s => (ex = .exit 8 ∧ ALLI (fun _ x => DTYK hours fs.length rs.length x) dl ∧ EX [.str nm,I hours,I cap,I start,.vs 12 (rs.map rch) rc,.vs 4 (fs.map frm) fc,cs,gs,ds,ws] e H s) ∨ (PEX e H ex s ∧ ¬ ALLI (fun _ x => DTYK hours fs.length rs.length x) dl)) 0
    (by simp (maxSteps:=999999) only [E0,seval,-Int.reduceNatCast',EX,x2,x1,xb,xd,xf,xh,List.take_zero]
        refine ⟨Nat.zero_le _,fun i x h => by simp at h,?_⟩
        simp [xn]) (by
      rintro j s r hW ⟨hj,ht,h118,h117,h116,x2,x1,xb,xd,xf,xh,xn⟩
      by_cases hp : j < dl.length
      · have e0 : dl[j]? = some dl[j]:=List.getElem?_eq_getElem hp
        have e1 : (dl.map dty)[j]? = some (dty dl[j]):=by simp [e0]
        generalize dl[j] = x at e0 e1
        simp (maxSteps:=999999) only [E0,seval,-Int.reduceNatCast',NUM,h118,h117,h116,x2,x1,xb,xd,xf,e1,c_demand,List.length_map,hcs.len,hgs.len,hds.len,c_ris3,c_index,hds.at_,Int.toNat_natCast,(show (j : Int) < dl.length by omega),(show (0 : Int) ≤ j by omega),(i64_in (x:=(j : Int) + 1) (by unfold I64; omega))] at hW
        subst hW
        refine rd_ite (fun y1 => ?_) (fun y1 => ?_)
        · refine rd_ite (fun y2 => ?_) (fun y2 => ?_)
          · refine rd_ite (fun y3 => ?_) (fun y3 => ?_)
            · refine rd_next (j + 1) ?_ (show dl.length - (j + 1) < dl.length - j by omega)
              refine ⟨by omega,ALLI_take ht e0 ⟨y1,y2,y3⟩,?_⟩
              simp (maxSteps:=999999) only [E0,seval,-Int.reduceNatCast',EX,h117,h116,x2,x1,xb,xh]
              exact ⟨by congr 1,by omega⟩
            · refine rd_pan (.inr ⟨⟨rfl,?_⟩,fun h => y3 (h j x e0).2.2⟩)
              simp (maxSteps:=999999) only [E0,seval,-Int.reduceNatCast',xh]
              omega
          · refine rd_pan (.inr ⟨⟨rfl,?_⟩,fun h => y2 (h j x e0).2.1⟩)
            simp (maxSteps:=999999) only [E0,seval,-Int.reduceNatCast',xh]
            omega
        · refine rd_pan (.inr ⟨⟨rfl,?_⟩,fun h => y1 (h j x e0).1⟩)
          simp (maxSteps:=999999) only [E0,seval,-Int.reduceNatCast',xh]
          omega
      · simp (maxSteps:=999999) only [E0,seval,-Int.reduceNatCast',h118,h117,h116,x2,x1,xb,xd,xf,(show ¬ (j : Int) < dl.length by omega)] at hW
        subst hW
        rw [List.take_of_length_le (by omega)] at ht
        refine rd_exit (.inl ⟨rfl,ht,?_⟩)
        simp (maxSteps:=999999) only [E0,seval,-Int.reduceNatCast',EX,x2,x1,xb,xh]
        exact xn)
  rcases hex with ⟨rfl,b4,x2,x1,xb,xd,xf,xh,xn⟩ | ⟨⟨rfl,xd,xh,xn⟩,hbad⟩
  rotate_left
  · simp (maxSteps:=999999) only [E0,seval,-Int.reduceNatCast',xd,endK_p xd]
    exact ⟨_,_,rfl,xh,xn,.inr ⟨fun h => hbad h.2.2.2.2.2.2.2,rfl⟩⟩
  simp (maxSteps:=999999) only [E0,seval,-Int.reduceNatCast',x2,x1,xb,xd,xf,List.length_map,hcs.len,hgs.len,hds.len]
  clear hL
  exact ⟨_,_,rfl,xh,xn,.inl ⟨⟨a1,a2,a3,b0,b1,b2,b3,b4⟩,rfl⟩⟩
theorem c_caught (e : Int) : ap Tryz.prog pol 84 [.iface 190 (I e)] = some (.ret (I e)):=by
  rw [ap_eq _ Tryz.func84 rfl Tryz.ntmps84 Tryz.results84 (by kernel_rfl) rfl (by exact Nat.le_of_ble_eq_true rfl)]
  simp (maxSteps:=999999) only [E0,seval,-Int.reduceNatCast',BRU]
theorem neq_nil (xo : Operand) (k : Value) : binPV Tryz.prog .neq 20 xo (.const k) .nili .nili = some (.bool false):=by
  have e : (isC xo || isC (.const k)) = true:=by simp [isC]
  have : eqPV Tryz.prog Op.maxDepth 20 .nili .nili = some true:=by kernel_rfl
  simp only [binPV,eqOp]
  rw [this,if_pos e]; rfl
theorem neq_iface (xo yo : Operand) (t : Nat) (v : PV) : binPV Tryz.prog .neq 20 xo yo (.iface t v) .nili = some (.bool true):=by
  simp only [binPV,eqOp]
  have : ∀ n,eqPV Tryz.prog (n + 1) 20 (.iface t v) .nili = some false:=by
    intro n
    simp only [eqPV,Tryz.underlying20]
  rw [show Op.maxDepth = 9999 + 1 from rfl,this]; rfl
def Dis.LEN (D : Dis) : Prop:=D.rs.length ≤ 64 ∧ D.fs.length ≤ 600 ∧ D.cs.length ≤ 32 ∧ D.gs.length ≤ 256 ∧ D.ds.length ≤ 256
instance (D : Dis) : Decidable D.LEN:=by unfold Dis.LEN; infer_instance
theorem c_xcheck (D : Dis) (hr : ∀ x ∈ D.rs,x.OK)
    (rc fc : Option Nat) (cs gs ds ws : PV) (hcs : SL 2 (D.cs.map crp) cs) (hgs : SL 10 (D.gs.map rgt) gs) (hds : SL 4 (D.ds.map dty) ds) (H : Heap) (X : Option (CR × Heap))
    (hX : callF G Tryz.prog pol 60 [dist D.nm D.hours D.cap D.start (.vs 12 (D.rs.map rch) rc) (.vs 4 (D.fs.map frm) fc) cs gs ds ws] H = X) :
    ∃ H' c,X = some (.ret (I c),H') ∧ (∀ i < H.next,H'.rows i = H.rows i) ∧ H.next ≤ H'.next ∧ ((¬ D.LEN ∧ c = 2) ∨ (D.LEN ∧ D.K ∧ c = 0) ∨ (D.LEN ∧ ¬ D.K ∧ c = 191)):=by
  subst hX
  have ne : ∀ i < H.next,¬ i = H.next + 1:=by omega
  rw [callF_eq _ _ Tryz.func60 rfl Tryz.ntmps60 Tryz.results60 (by kernel_rfl) rfl (by exact Nat.le_of_ble_eq_true rfl)]
  have l1 : D.rs.length ≤ 64 ↔ (D.rs.length : Int) ≤ 64:=by omega
  have l2 : D.fs.length ≤ 600 ↔ (D.fs.length : Int) ≤ 600:=by omega
  have l3 : D.cs.length ≤ 32 ↔ (D.cs.length : Int) ≤ 32:=by omega
  have l4 : D.gs.length ≤ 256 ↔ (D.gs.length : Int) ≤ 256:=by omega
  have l5 : D.ds.length ≤ 256 ↔ (D.ds.length : Int) ≤ 256:=by omega
  by_cases hL : D.LEN
  · have hL':=hL
    obtain ⟨a1,a2,a3,a4,a5⟩:=hL'
    simp (maxSteps:=999999) only [E0,seval,-Int.reduceNatCast',BRU,hcs.len,hgs.len,hds.len,List.length_map,l1.1 a1,l2.1 a2,l3.1 a3,l4.1 a4,l5.1 a5,c_demand]
    generalize hE : callF _ _ _ _ _ _ = E
    obtain ⟨H',r,rfl,hh,hn,hk⟩:=c_examine D hr (by omega) (by omega) (by omega) (by omega) (by omega) rc fc cs gs ds ws hcs hgs hds 191 _ _ hE
    simp only [heap_set_rows,heap_add_rows,heap_set_next,heap_add_next] at hh hn
    rcases hk with ⟨hk,rfl⟩ | ⟨hk,rfl⟩
    · simp (maxSteps:=999999) only [E0,seval,-Int.reduceNatCast',BRU,hh]
      rw [endK_call _ Tryz.func83 rfl Tryz.ntmps83 Tryz.results83 (by kernel_rfl) rfl (by exact Nat.le_of_ble_eq_true rfl)]
      simp (maxSteps:=999999) only [E0,seval,-Int.reduceNatCast',BRU,hh,neq_nil]
      refine ⟨_,_,rfl,fun i hi => ?_,?_,.inr (.inl ⟨hL,hk,rfl⟩)⟩
      · simp (maxSteps:=999999) only [E0,seval,-Int.reduceNatCast',hh,ne i hi]
      · simp (maxSteps:=999999) only [E0,seval,-Int.reduceNatCast']
        omega
    · simp (maxSteps:=999999) only [E0,seval,-Int.reduceNatCast',BRU,hh]
      rw [endK_call _ Tryz.func83 rfl Tryz.ntmps83 Tryz.results83 (by kernel_rfl) rfl (by exact Nat.le_of_ble_eq_true rfl)]
      simp (maxSteps:=999999) only [E0,seval,-Int.reduceNatCast',BRU,hh,neq_iface,c_caught]
      refine ⟨_,_,rfl,fun i hi => ?_,?_,.inr (.inr ⟨hL,hk,rfl⟩)⟩
      · simp (maxSteps:=999999) only [E0,seval,-Int.reduceNatCast',hh,ne i hi]
      · simp (maxSteps:=999999) only [E0,seval,-Int.reduceNatCast']
        omega
  by_cases a1 : D.rs.length ≤ 64
  rotate_left
  · simp (maxSteps:=999999) only [E0,seval,-Int.reduceNatCast',BRU,hcs.len,hgs.len,hds.len,List.length_map,(mt l1.2 a1),c_demand]
    rw [endK_call _ Tryz.func83 rfl Tryz.ntmps83 Tryz.results83 (by kernel_rfl) rfl (by exact Nat.le_of_ble_eq_true rfl)]
    simp (maxSteps:=999999) only [E0,seval,-Int.reduceNatCast',BRU,neq_iface,c_caught]
    refine ⟨_,_,rfl,fun i hi => ?_,?_,.inl ⟨hL,rfl⟩⟩
    · simp (maxSteps:=999999) only [E0,seval,-Int.reduceNatCast',ne i hi]
    · simp (maxSteps:=999999) only [E0,seval,-Int.reduceNatCast']
      omega
  by_cases a2 : D.fs.length ≤ 600
  rotate_left
  · simp (maxSteps:=999999) only [E0,seval,-Int.reduceNatCast',BRU,hcs.len,hgs.len,hds.len,List.length_map,l1.1 a1,(mt l2.2 a2),c_demand]
    rw [endK_call _ Tryz.func83 rfl Tryz.ntmps83 Tryz.results83 (by kernel_rfl) rfl (by exact Nat.le_of_ble_eq_true rfl)]
    simp (maxSteps:=999999) only [E0,seval,-Int.reduceNatCast',BRU,neq_iface,c_caught]
    refine ⟨_,_,rfl,fun i hi => ?_,?_,.inl ⟨hL,rfl⟩⟩
    · simp (maxSteps:=999999) only [E0,seval,-Int.reduceNatCast',ne i hi]
    · simp (maxSteps:=999999) only [E0,seval,-Int.reduceNatCast']
      omega
  by_cases a3 : D.cs.length ≤ 32
  rotate_left
  · simp (maxSteps:=999999) only [E0,seval,-Int.reduceNatCast',BRU,hcs.len,hgs.len,hds.len,List.length_map,l1.1 a1,l2.1 a2,(mt l3.2 a3),c_demand]
    rw [endK_call _ Tryz.func83 rfl Tryz.ntmps83 Tryz.results83 (by kernel_rfl) rfl (by exact Nat.le_of_ble_eq_true rfl)]
    simp (maxSteps:=999999) only [E0,seval,-Int.reduceNatCast',BRU,neq_iface,c_caught]
    refine ⟨_,_,rfl,fun i hi => ?_,?_,.inl ⟨hL,rfl⟩⟩
    · simp (maxSteps:=999999) only [E0,seval,-Int.reduceNatCast',ne i hi]
    · simp (maxSteps:=999999) only [E0,seval,-Int.reduceNatCast']
      omega
  by_cases a4 : D.gs.length ≤ 256
  rotate_left
  · simp (maxSteps:=999999) only [E0,seval,-Int.reduceNatCast',BRU,hcs.len,hgs.len,hds.len,List.length_map,l1.1 a1,l2.1 a2,l3.1 a3,(mt l4.2 a4),c_demand]
    rw [endK_call _ Tryz.func83 rfl Tryz.ntmps83 Tryz.results83 (by kernel_rfl) rfl (by exact Nat.le_of_ble_eq_true rfl)]
    simp (maxSteps:=999999) only [E0,seval,-Int.reduceNatCast',BRU,neq_iface,c_caught]
    refine ⟨_,_,rfl,fun i hi => ?_,?_,.inl ⟨hL,rfl⟩⟩
    · simp (maxSteps:=999999) only [E0,seval,-Int.reduceNatCast',ne i hi]
    · simp (maxSteps:=999999) only [E0,seval,-Int.reduceNatCast']
      omega
  by_cases a5 : D.ds.length ≤ 256
  rotate_left
  · simp (maxSteps:=999999) only [E0,seval,-Int.reduceNatCast',BRU,hcs.len,hgs.len,hds.len,List.length_map,l1.1 a1,l2.1 a2,l3.1 a3,l4.1 a4,(mt l5.2 a5),c_demand]
    rw [endK_call _ Tryz.func83 rfl Tryz.ntmps83 Tryz.results83 (by kernel_rfl) rfl (by exact Nat.le_of_ble_eq_true rfl)]
    simp (maxSteps:=999999) only [E0,seval,-Int.reduceNatCast',BRU,neq_iface,c_caught]
    refine ⟨_,_,rfl,fun i hi => ?_,?_,.inl ⟨hL,rfl⟩⟩
    · simp (maxSteps:=999999) only [E0,seval,-Int.reduceNatCast',ne i hi]
    · simp (maxSteps:=999999) only [E0,seval,-Int.reduceNatCast']
      omega
  exact absurd ⟨a1,a2,a3,a4,a5⟩ hL
section
variable {α : Type} (f : α → PV)
theorem STR (h0 : ∀ x,strip0 (f x) = f x) (h1 : ∀ H x,strip1 H (f x) = f x) (h2 : ∀ H x,strip2 H (f x) = f x) :
    (∀ l : List α,strip0L (l.map f) = l.map f) ∧ (∀ l : List α,(l.map f).map strip0 = l.map f) ∧ (∀ H (l : List α),(l.map f).map (strip1 H) = l.map f) ∧ (∀ H (l : List α),(l.map f).map (strip2 H) = l.map f) ∧ (∀ H (l : List α),strip1L H (l.map f) = l.map f) ∧ (∀ H (l : List α),strip2L H (l.map f) = l.map f):=by
  refine ⟨fun l => ?_,fun l => ?_,fun H l => ?_,fun H l => ?_,fun H l => ?_,fun H l => ?_⟩
  · rw [strip0L_map]; simp [h0]
  · simp [h0]
  · simp [h1]
  · simp [h2]
  · rw [strip1L_map]; simp [h1]
  · rw [strip2L_map]; simp [h2]
end
theorem SRCH : (∀ l : List Rch,strip0L (l.map rch) = l.map rch) ∧ (∀ l : List Rch,(l.map rch).map strip0 = l.map rch) ∧ (∀ H (l : List Rch),(l.map rch).map (strip1 H) = l.map rch) ∧ (∀ H (l : List Rch),(l.map rch).map (strip2 H) = l.map rch) ∧ (∀ H (l : List Rch),strip1L H (l.map rch) = l.map rch) ∧ (∀ H (l : List Rch),strip2L H (l.map rch) = l.map rch):=STR rch (fun _ => rfl) (fun _ _ => rfl) (fun _ _ => rfl)
theorem SFRM : (∀ l : List Frm,strip0L (l.map frm) = l.map frm) ∧ (∀ l : List Frm,(l.map frm).map strip0 = l.map frm) ∧ (∀ H (l : List Frm),(l.map frm).map (strip1 H) = l.map frm) ∧ (∀ H (l : List Frm),(l.map frm).map (strip2 H) = l.map frm) ∧ (∀ H (l : List Frm),strip1L H (l.map frm) = l.map frm) ∧ (∀ H (l : List Frm),strip2L H (l.map frm) = l.map frm):=STR frm (fun _ => rfl) (fun _ _ => rfl) (fun _ _ => rfl)
theorem SCRP : (∀ l : List Crp,strip0L (l.map crp) = l.map crp) ∧ (∀ l : List Crp,(l.map crp).map strip0 = l.map crp) ∧ (∀ H (l : List Crp),(l.map crp).map (strip1 H) = l.map crp) ∧ (∀ H (l : List Crp),(l.map crp).map (strip2 H) = l.map crp) ∧ (∀ H (l : List Crp),strip1L H (l.map crp) = l.map crp) ∧ (∀ H (l : List Crp),strip2L H (l.map crp) = l.map crp):=STR crp (fun _ => rfl) (fun _ _ => rfl) (fun _ _ => rfl)
theorem SRGT : (∀ l : List Rgt,strip0L (l.map rgt) = l.map rgt) ∧ (∀ l : List Rgt,(l.map rgt).map strip0 = l.map rgt) ∧ (∀ H (l : List Rgt),(l.map rgt).map (strip1 H) = l.map rgt) ∧ (∀ H (l : List Rgt),(l.map rgt).map (strip2 H) = l.map rgt) ∧ (∀ H (l : List Rgt),strip1L H (l.map rgt) = l.map rgt) ∧ (∀ H (l : List Rgt),strip2L H (l.map rgt) = l.map rgt):=STR rgt (fun _ => rfl) (fun _ _ => rfl) (fun _ _ => rfl)
theorem SDTY : (∀ l : List Dty,strip0L (l.map dty) = l.map dty) ∧ (∀ l : List Dty,(l.map dty).map strip0 = l.map dty) ∧ (∀ H (l : List Dty),(l.map dty).map (strip1 H) = l.map dty) ∧ (∀ H (l : List Dty),(l.map dty).map (strip2 H) = l.map dty) ∧ (∀ H (l : List Dty),strip1L H (l.map dty) = l.map dty) ∧ (∀ H (l : List Dty),strip2L H (l.map dty) = l.map dty):=STR dty (fun _ => rfl) (fun _ _ => rfl) (fun _ _ => rfl)
structure Wel where
  (f r d : Int) (k : List Int)
abbrev wel (x : Wel) : PV:=well x.f x.r x.d x.k none
theorem SWEL : (∀ l : List Wel,strip0L (l.map wel) = l.map wel) ∧ (∀ l : List Wel,(l.map wel).map strip0 = l.map wel) ∧ (∀ H (l : List Wel),(l.map wel).map (strip1 H) = l.map wel) ∧ (∀ H (l : List Wel),(l.map wel).map (strip2 H) = l.map wel) ∧ (∀ H (l : List Wel),strip1L H (l.map wel) = l.map wel) ∧ (∀ H (l : List Wel),strip2L H (l.map wel) = l.map wel):=STR wel
  (fun x => by show PV.agg [I x.f,I x.r,I x.d,.vs 1 (strip0L (x.k.map I)) none] = _; rw [strip0_ints])
  (fun H x => by show PV.agg [I x.f,I x.r,I x.d,.vs 1 (strip1L H (x.k.map I)) none] = _; rw [strip1_ints])
  (fun H x => by show PV.agg [I x.f,I x.r,I x.d,.vs 1 (strip2L H (x.k.map I)) none] = _; rw [strip2_ints])
abbrev dv (D : Dis) (ws : List Wel) : PV:=dist D.nm D.hours D.cap D.start (.vs 12 (D.rs.map rch) none) (.vs 4 (D.fs.map frm) none) (.vs 2 (D.cs.map crp) none) (.vs 10 (D.gs.map rgt) none) (.vs 4 (D.ds.map dty) none) (.vs 4 (ws.map wel) none)
theorem ALLI_not {α : Type} {P : Nat → α → Prop} {l : List α} {j : Nat} {x : α} (e : l[j]? = some x) (h : ¬ P j x) : ¬ ALLI P l:=fun g => h (g j x e)
theorem ALLI_full {α : Type} {P : Nat → α → Prop} {l : List α} {j : Nat} (h : ALLI P (l.take j)) (hj : l.length ≤ j) : ALLI P l:=by rwa [List.take_of_length_le hj] at h
theorem ALLI_0 {α : Type} {P : Nat → α → Prop} (l : List α) : ALLI P (l.take 0):=fun i x h => by simp at h
theorem map_get {α : Type} {f : α → PV} {l : List α} {k : Nat} {x : α} (h : l[k]? = some x) : (l.map f)[k]? = some (f x):=by simp [h]
def UPD (x d : Int) : Int:=(x + d - 1) / d
theorem UPD_neg {x d : Int} (hd : 1 ≤ d) : -((-x) / d) = UPD x d:=by
  unfold UPD
  have h1:=Int.mul_ediv_add_emod (-x) d
  have a1:=Int.emod_nonneg (-x) (show d ≠ 0 by omega)
  have a2:=Int.emod_lt_of_pos (-x) (show 0 < d by omega)
  generalize (-x) / d = q at *
  generalize (-x) % d = m at *
  have e : x + d - 1 = (d - 1 - m) + d * (-q):=by rw [Int.mul_neg]; omega
  have z : (d - 1 - m) / d = 0:=Int.ediv_eq_zero_of_lt (by omega) (by omega)
  rw [e,Int.add_mul_ediv_left _ _ (by omega),z]; omega
theorem UPD_le {x d B : Int} (hd : 1 ≤ d) (h : x ≤ B * d) : UPD x d ≤ B:=by
  unfold UPD
  have : (x + d - 1) / d < B + 1:=Int.ediv_lt_of_lt_mul (by omega) (by rw [Int.add_mul]; omega)
  omega
theorem UPD_nonneg {x d : Int} (hd : 1 ≤ d) (h : 0 ≤ x) : 0 ≤ UPD x d:=Int.ediv_nonneg (by omega) (by omega)
theorem UPD_mono {x y d : Int} (hd : 1 ≤ d) (h : x ≤ y) : UPD x d ≤ UPD y d:=Int.ediv_le_ediv (by omega) (by omega)
theorem UPD_step {x y d k : Int} (hd : 1 ≤ d) (h : y ≤ x + d * k) : UPD y d ≤ UPD x d + k:=by
  unfold UPD
  have : (y + d - 1) / d ≤ (x + d - 1 + d * k) / d:=Int.ediv_le_ediv (by omega) (by omega)
  rw [Int.add_mul_ediv_left _ _ (by omega)] at this
  omega
theorem DIV_step {x y d k : Int} (hd : 1 ≤ d) (h : y ≤ x + d * k) : y / d ≤ x / d + k:=by
  have : y / d ≤ (x + d * k) / d:=Int.ediv_le_ediv (by omega) h
  rw [Int.add_mul_ediv_left _ _ (by omega)] at this
  exact this
theorem UPD_add {x y d : Int} (hd : 1 ≤ d) : UPD (x + y) d ≤ UPD x d + UPD y d:=by
  rw [← UPD_neg hd,← UPD_neg hd,← UPD_neg hd]
  have : (-x) / d + (-y) / d ≤ (-x + -y) / d:=by
    have h1:=Int.mul_ediv_add_emod (-x) d
    have h2:=Int.mul_ediv_add_emod (-y) d
    have a1:=Int.emod_nonneg (-x) (show d ≠ 0 by omega)
    have b1:=Int.emod_nonneg (-y) (show d ≠ 0 by omega)
    refine (Int.le_ediv_iff_mul_le (by omega)).2 ?_
    rw [Int.mul_comm,Int.mul_add]; omega
  rw [show -(x + y) = -x + -y by omega]
  omega
structure Los where
  (e0 e1 n0 d0 n1 d1 : Int)
structure Los.RT (r : Los) : Prop where
  (ea : 0 ≤ r.e0) (eb : r.e0 ≤ r.e1) (ec : r.e1 ≤ 1073741824) (na : 0 ≤ r.n0) (nb : r.n0 ≤ r.d0) (nc : 0 ≤ r.n1) (nd : r.n1 ≤ r.d1) (da : 1 ≤ r.d0) (db : 1 ≤ r.d1) (dc : r.d0 ≤ 1073741824) (dd : r.d1 ≤ 1073741824) (cr : r.n0 * r.d1 ≤ r.n1 * r.d0)
def LO (r : Los) (v : Int) : Int:=if v = 0 then 0 else min v (r.e0 + r.n0 * v / r.d0)
def HI (r : Los) (v : Int) : Int:=if v = 0 then 0 else min v (r.e1 + UPD (r.n1 * v) r.d1)
def WO (r : Los) (v : Int) : Int:=v - HI r v
def BE (r : Los) (v : Int) : Int:=v - LO r v
section
variable {r : Los} (h : r.RT)
include h
theorem LO_bd {v : Int} (hv : 0 ≤ v) : 0 ≤ LO r v ∧ LO r v ≤ v:=by
  have:=Int.ediv_nonneg (Int.mul_nonneg h.na hv) (show (0 : Int) ≤ r.d0 by have:=h.da; omega)
  have:=h.ea
  unfold LO; split <;> omega
theorem HI_bd {v : Int} (hv : 0 ≤ v) : 0 ≤ HI r v ∧ HI r v ≤ v:=by
  have:=UPD_nonneg h.db (Int.mul_nonneg h.nc hv)
  have:=h.ea
  have:=h.eb
  unfold HI; split <;> omega
theorem lo_part {v : Int} (hv : 0 ≤ v) : 0 ≤ r.n0 * v / r.d0 ∧ r.n0 * v / r.d0 ≤ v:=by
  have h0:=h.da
  refine ⟨Int.ediv_nonneg (Int.mul_nonneg h.na hv) (by omega),?_⟩
  have:=Int.mul_le_mul_of_nonneg_right h.nb hv
  have:=DIV_step (x:=0) (y:=r.n0 * v) (d:=r.d0) (k:=v) h0 (by omega)
  simpa using this
theorem hi_part {v : Int} (hv : 0 ≤ v) : 0 ≤ UPD (r.n1 * v) r.d1 ∧ UPD (r.n1 * v) r.d1 ≤ v:=by
  have h0:=h.db
  refine ⟨UPD_nonneg h0 (Int.mul_nonneg h.nc hv),UPD_le h0 ?_⟩
  have:=Int.mul_le_mul_of_nonneg_right h.nd hv
  rw [Int.mul_comm v]; omega
theorem lo_hi {v : Int} (hv : 0 ≤ v) : r.n0 * v / r.d0 ≤ UPD (r.n1 * v) r.d1:=by
  have h0:=h.da
  have h1:=h.db
  refine (Int.le_ediv_iff_mul_le (by omega)).2 ?_
  have q:=Int.mul_ediv_add_emod (r.n0 * v) r.d0
  have q1:=Int.emod_nonneg (r.n0 * v) (show r.d0 ≠ 0 by omega)
  generalize r.n0 * v / r.d0 = a at *
  have s1 : r.d0 * a ≤ r.n0 * v:=by omega
  have s2 : r.d0 * a * r.d1 ≤ r.n0 * v * r.d1:=Int.mul_le_mul_of_nonneg_right s1 (by omega)
  have s3 : r.n0 * r.d1 * v ≤ r.n1 * r.d0 * v:=Int.mul_le_mul_of_nonneg_right h.cr hv
  have s4 : r.d0 * (a * r.d1) ≤ r.d0 * (r.n1 * v):=by
    calc r.d0 * (a * r.d1) = r.d0 * a * r.d1:=by rw [Int.mul_assoc]
      _ ≤ r.n0 * v * r.d1:=s2
      _ = r.n0 * r.d1 * v:=by rw [Int.mul_right_comm]
      _ ≤ r.n1 * r.d0 * v:=s3
      _ = r.d0 * (r.n1 * v):=by rw [Int.mul_comm r.n1,Int.mul_assoc]
  have s5:=Int.le_of_mul_le_mul_left s4 (by omega)
  omega
theorem LO_HI {v : Int} (hv : 0 ≤ v) : LO r v ≤ HI r v:=by
  have:=lo_hi h hv
  have:=h.eb
  unfold LO HI; split <;> omega
theorem WO_mono {a b : Int} (ha : 0 ≤ a) (hab : a ≤ b) : WO r a ≤ WO r b:=by
  have s : r.n1 * b ≤ r.n1 * a + r.d1 * (b - a):=by
    have:=Int.mul_le_mul_of_nonneg_right h.nd (show 0 ≤ b - a by omega)
    rw [Int.mul_sub] at this
    omega
  have:=UPD_step h.db s
  have:=HI_bd h ha
  have:=HI_bd h (show 0 ≤ b by omega)
  have:=h.ea
  have:=h.eb
  unfold WO HI at *
  by_cases h1 : a = 0
  · simp only [h1,if_true] at *; omega
  · rw [if_neg h1] at *; rw [if_neg (show ¬ b = 0 by omega)] at *; omega
theorem BE_mono {a b : Int} (ha : 0 ≤ a) (hab : a ≤ b) : BE r a ≤ BE r b:=by
  have s : r.n0 * b ≤ r.n0 * a + r.d0 * (b - a):=by
    have:=Int.mul_le_mul_of_nonneg_right h.nb (show 0 ≤ b - a by omega)
    rw [Int.mul_sub] at this
    omega
  have:=DIV_step h.da s
  have:=LO_bd h ha
  have:=LO_bd h (show 0 ≤ b by omega)
  have:=h.ea
  unfold BE LO at *
  by_cases h1 : a = 0
  · simp only [h1,if_true] at *; omega
  · rw [if_neg h1] at *; rw [if_neg (show ¬ b = 0 by omega)] at *; omega
theorem WO_add {a b : Int} (ha : 0 ≤ a) (hb : 0 ≤ b) : WO r a + WO r b ≤ WO r (a + b):=by
  have m1:=WO_mono h ha (show a ≤ a + b by omega)
  have m2:=WO_mono h hb (show b ≤ a + b by omega)
  have s:=UPD_add (x:=r.n1 * a) (y:=r.n1 * b) h.db
  rw [← Int.mul_add] at s
  have p1:=HI_bd h ha
  have p2:=HI_bd h hb
  have p3:=HI_bd h (show 0 ≤ a + b by omega)
  have:=h.ea
  have:=h.eb
  unfold WO HI at *
  by_cases h1 : a = 0
  · subst h1; simp only [Int.zero_add,if_true] at *; omega
  · by_cases h2 : b = 0
    · subst h2; simp only [Int.add_zero,if_true] at *; omega
    · rw [if_neg h1,if_neg h2] at *; rw [if_neg (show ¬ a + b = 0 by omega)] at *; omega
end
structure IsL (p : Int → Prop) (n r : Int) : Prop where
  (lo : 0 ≤ r) (hi : r ≤ n) (no : ∀ i,0 ≤ i → i < r → ¬ p i) (yes : ∀ i,r ≤ i → i < n → p i)
theorem IsL_one {p : Int → Prop} {n r s : Int} (h : IsL p n r) (h' : IsL p n s) : r = s:=by
  have a:=h.lo; have b:=h.hi; have c:=h'.lo; have d:=h'.hi
  by_cases h1 : r < s
  · exact absurd (h.yes r (Int.le_refl _) (by omega)) (h'.no r a h1)
  · by_cases h2 : s < r
    · exact absurd (h'.yes s (Int.le_refl _) (by omega)) (h.no s c h2)
    · omega
theorem c_down (n d : Int) (hn : -4611686018427387904 ≤ n ∧ n ≤ 4611686018427387904) (hd : 1 ≤ d ∧ d ≤ 1073741824) : ap Tryz.prog pol 111 [I n,I d] = some (.ret (I (n / d))):=by
  rw [ap_eq _ Tryz.func111 rfl Tryz.ntmps111 Tryz.results111 (by kernel_rfl) rfl (by exact Nat.le_of_ble_eq_true rfl)]
  simp (maxSteps:=999999) only [E0,seval,-Int.reduceNatCast',(show ¬ d = 0 by omega)]
  have e1 : (n.tmod d + d).tmod d = n % d:=by
    rw [Int.tmod_eq_emod_of_nonneg (by have:=Int.lt_tmod_of_pos n (b:=d) (by omega); omega)]
    rw [Int.add_emod_right]
    have:=Int.tmod_eq_emod (a:=n) (b:=d)
    rw [this]
    split
    · simp
    · rw [Int.sub_emod]; simp
      rw [show (d.natAbs : Int) = d by omega]
      simp
  have b1:=Int.lt_tmod_of_pos n (b:=d) (by omega)
  have b2:=Int.tmod_lt_of_pos n (b:=d) (by omega)
  rw [i64_in (x:=n.tmod d + d) (by unfold I64; omega),e1]
  have b3:=Int.emod_nonneg n (b:=d) (by omega)
  have b4:=Int.emod_lt_of_pos n (b:=d) (by omega)
  rw [i64_in (x:=n - n % d) (by unfold I64; omega)]
  have e2 : n - n % d = d * (n / d):=by have:=Int.mul_ediv_add_emod n d; omega
  rw [e2,Int.mul_tdiv_cancel_left _ (by omega)]
  have b5 : n / d ≤ 4611686018427387904:=by
    apply Int.ediv_le_of_le_mul (by omega)
    omega
  have b6 : -4611686018427387904 ≤ n / d:=by
    apply Int.le_ediv_of_mul_le (by omega)
    omega
  rw [i64_in (by unfold I64; omega)]
theorem ediv_bd {n d B : Int} (hd : 1 ≤ d) (hB : 0 ≤ B) (h : -B ≤ n ∧ n ≤ B) : -B ≤ n / d ∧ n / d ≤ B:=by
  constructor
  · apply Int.le_ediv_of_mul_le (by omega)
    have:=Int.mul_le_mul_of_nonneg_left hd hB
    rw [Int.neg_mul]; omega
  · apply Int.ediv_le_of_le_mul (by omega)
    have:=Int.mul_le_mul_of_nonneg_left hd hB
    omega
theorem mul_bd {a n M N : Int} (ha : -M ≤ a ∧ a ≤ M) (hn : -N ≤ n ∧ n ≤ N) : -(M * N) ≤ a * n ∧ a * n ≤ M * N:=by
  have h : (a * n).natAbs ≤ (M * N).natAbs:=by
    rw [Int.natAbs_mul,Int.natAbs_mul]
    exact Nat.mul_le_mul (by omega) (by omega)
  have : 0 ≤ M * N:=Int.mul_nonneg (by omega) (by omega)
  omega
abbrev tup3 (r : Int × Int × Int) : PV:=.tup [I r.1,I r.2.1,I r.2.2]
def TIMES (a b n : Int) : Int × Int × Int:=if VALID a b then (if n < -1073741824 ∨ 1073741824 < n then (0,0,1) else ((a * n) / b,-((-a * n) / b),0)) else (0,0,120)
theorem c_times (a b n : Int) (ha : I64 a) (hb : I64 b) (hn : I64 n) : ap Tryz.prog pol 92 [rat a b,I n] = some (.ret (tup3 (TIMES a b n))):=by
  rw [ap_eq _ Tryz.func92 rfl Tryz.ntmps92 Tryz.results92 (by kernel_rfl) rfl (by exact Nat.le_of_ble_eq_true rfl)]
  unfold TIMES
  by_cases h : VALID a b
  · by_cases h1 : n < -1073741824
    · simp (maxSteps:=999999) only [E0,seval,-Int.reduceNatCast',c_check a b ha hb,h,h1,true_or]
    · by_cases h2 : 1073741824 < n
      · simp (maxSteps:=999999) only [E0,seval,-Int.reduceNatCast',c_check a b ha hb,h,h1,h2]
      · obtain ⟨v1,v2,v3,v4,v5⟩:=h
        have m1:=mul_bd (a:=a) (n:=n) (M:=1073741824) (N:=1073741824) ⟨v3,v4⟩ ⟨by omega,by omega⟩
        have m2:=mul_bd (a:=-a) (n:=n) (M:=1073741824) (N:=1073741824) ⟨by omega,by omega⟩ ⟨by omega,by omega⟩
        have b2:=ediv_bd (n:=-a * n) v1 (B:=4611686018427387904) (by omega) (by omega)
        simp (maxSteps:=999999) only [E0,seval,-Int.reduceNatCast',c_check a b ha hb,(show VALID a b from ⟨v1,v2,v3,v4,v5⟩),h1,h2,Int.zero_sub,(i64_in (x:=a * n) (by unfold I64; omega)),(i64_in (x:=-a) (by unfold I64; omega)),(i64_in (x:=-a * n) (by unfold I64; omega)),
          c_down (a * n) b (by omega) ⟨v1,v2⟩,c_down (-a * n) b (by omega) ⟨v1,v2⟩,(i64_in (x:=-(-a * n / b)) (by unfold I64; omega))]
  · simp (maxSteps:=999999) only [E0,seval,-Int.reduceNatCast',c_check a b ha hb,h,(show ¬ (120 : Int) = 0 by omega)]
theorem wrap_prod {a b c d : Int} (h : VALID a b ∧ VALID c d) : w64 (a * d) = a * d ∧ w64 (c * b) = c * b ∧ w64 (b * d) = b * d ∧ w64 (a * c) = a * c:=by
  obtain ⟨⟨a1,a2,a3,a4,_⟩,⟨b1,b2,b3,b4,_⟩⟩:=h
  have m1:=mul_bd (a:=a) (n:=d) (M:=1073741824) (N:=1073741824) ⟨by omega,by omega⟩ ⟨by omega,by omega⟩
  have m2:=mul_bd (a:=c) (n:=b) (M:=1073741824) (N:=1073741824) ⟨by omega,by omega⟩ ⟨by omega,by omega⟩
  have m3:=mul_bd (a:=b) (n:=d) (M:=1073741824) (N:=1073741824) ⟨by omega,by omega⟩ ⟨by omega,by omega⟩
  have m4:=mul_bd (a:=a) (n:=c) (M:=1073741824) (N:=1073741824) ⟨by omega,by omega⟩ ⟨by omega,by omega⟩
  exact ⟨i64_in (by unfold I64; omega),i64_in (by unfold I64; omega),i64_in (by unfold I64; omega),i64_in (by unfold I64; omega)⟩
theorem c_in (n lo hi : Int) : ap Tryz.prog pol 91 [I n,I lo,I hi] = some (.ret (.bool (decide (lo ≤ n ∧ n ≤ hi)))):=by
  rw [ap_eq _ Tryz.func91 rfl Tryz.ntmps91 Tryz.results91 (by kernel_rfl) rfl (by exact Nat.le_of_ble_eq_true rfl)]
  simp (maxSteps:=999999) only [E0,seval,-Int.reduceNatCast',b_and]
def SH (n d : Int) : Prop:=VALID n d ∧ 0 ≤ n ∧ n ≤ d
instance (n d : Int) : Decidable (SH n d):=by unfold SH; infer_instance
def SHS (a b c d : Int) : Prop:=SH a b ∧ SH c d ∧ a * d ≤ c * b
instance (a b c d : Int) : Decidable (SHS a b c d):=by unfold SHS; infer_instance
theorem c_sh (n d : Int) (hn : I64 n) (hd : I64 d) : ap Tryz.prog pol 108 [rat n d] = some (.ret (.bool (decide (SH n d)))):=by
  rw [ap_eq _ Tryz.func108 rfl Tryz.ntmps108 Tryz.results108 (by kernel_rfl) rfl (by exact Nat.le_of_ble_eq_true rfl)]
  by_cases h : VALID n d
  · simp (maxSteps:=999999) only [E0,seval,-Int.reduceNatCast',NUM,c_check n d hn hd,h,c_in]
    refine b_iff ?_
    simp only [SH,h,true_and]
  · simp (maxSteps:=999999) only [E0,seval,-Int.reduceNatCast',NUM,c_check n d hn hd,h]
    exact b_no fun g => h g.1
theorem CMP_le (x y : Int) : CMP x y ≤ 0 ↔ x ≤ y:=by
  unfold CMP; split
  · omega
  · split <;> omega
theorem c_shares (a b c d : Int) (ha : I64 a) (hb : I64 b) (hc : I64 c) (hd : I64 d) : ap Tryz.prog pol 90 [.agg [I a,I b,I c,I d]] = some (.ret (.bool (decide (SHS a b c d)))):=by
  rw [ap_eq _ Tryz.func90 rfl Tryz.ntmps90 Tryz.results90 (by kernel_rfl) rfl (by exact Nat.le_of_ble_eq_true rfl)]
  by_cases h1 : SH a b
  rotate_left
  · simp (maxSteps:=999999) only [E0,seval,-Int.reduceNatCast',NUM,c_sh a b ha hb,h1]
    exact b_no fun g => h1 g.1
  by_cases h2 : SH c d
  rotate_left
  · simp (maxSteps:=999999) only [E0,seval,-Int.reduceNatCast',NUM,c_sh a b ha hb,c_sh c d hc hd,h1,h2]
    exact b_no fun g => h2 g.2.1
  have w:=wrap_prod ⟨h1.1,h2.1⟩
  have e : CMPR a b c d = (CMP (a * d) (c * b),0):=by simp only [CMPR,h1.1,h2.1,and_self,if_true,w]
  simp (maxSteps:=999999) only [E0,seval,-Int.reduceNatCast',NUM,c_sh a b ha hb,c_sh c d hc hd,h1,h2,c_cmp a b c d ha hb hc hd,e]
  refine b_iff ?_
  rw [CMP_le]
  simp only [SHS,h1,h2,true_and]
theorem c_ordered (lo hi most : Int) : ap Tryz.prog pol 89 [.agg [I lo,I hi],I most] = some (.ret (.bool (decide (0 ≤ lo ∧ lo ≤ hi ∧ hi ≤ most)))):=by
  rw [ap_eq _ Tryz.func89 rfl Tryz.ntmps89 Tryz.results89 (by kernel_rfl) rfl (by exact Nat.le_of_ble_eq_true rfl)]
  simp (maxSteps:=999999) only [E0,seval,-Int.reduceNatCast',b_and]
def los (x : Rch) : Los:=⟨x.e0,x.e1,x.s0,x.s1,x.s2,x.s3⟩
def RIGHT (x : Rch) : Prop:=(0 ≤ x.e0 ∧ x.e0 ≤ x.e1 ∧ x.e1 ≤ 1073741824) ∧ SHS x.s0 x.s1 x.s2 x.s3
instance (x : Rch) : Decidable (RIGHT x):=by unfold RIGHT; infer_instance
theorem RIGHT.RT {x : Rch} (h : RIGHT x) : (los x).RT:=by
  obtain ⟨⟨h1,h2,h3⟩,⟨⟨v1,v2,_⟩,a2,a3⟩,⟨⟨w1,w2,_⟩,b2,b3⟩,h4⟩:=h
  exact ⟨h1,h2,h3,a2,a3,b2,b3,v1,w1,v2,w2,h4⟩
def VC (x : Rch) (n : Int) : Int:=if RIGHT x then (if 0 ≤ n ∧ n ≤ 1073741824 then 0 else 1) else 210
theorem c_valid47 (x : Rch) (hx : x.OK) (n : Int) : ap Tryz.prog pol 62 [rch x,I n] = some (.ret (I (VC x n))):=by
  obtain ⟨nm,up,dl,cp,bk,si,e0,e1,s0,s1,s2,s3⟩:=x
  obtain ⟨ha,hb,hc,hd⟩:=hx
  simp only at ha hb hc hd
  rw [ap_eq _ Tryz.func62 rfl Tryz.ntmps62 Tryz.results62 (by kernel_rfl) rfl (by exact Nat.le_of_ble_eq_true rfl)]
  unfold VC RIGHT
  simp only
  by_cases h1 : 0 ≤ e0 ∧ e0 ≤ e1 ∧ e1 ≤ 1073741824
  rotate_left
  · simp (maxSteps:=999999) only [E0,seval,-Int.reduceNatCast',NUM,c_ordered,h1]
    simp only [false_and,if_false]
  by_cases h2 : SHS s0 s1 s2 s3
  rotate_left
  · simp (maxSteps:=999999) only [E0,seval,-Int.reduceNatCast',NUM,c_ordered,h1,c_shares s0 s1 s2 s3 ha hb hc hd,h2]
  by_cases h3 : 0 ≤ n ∧ n ≤ 1073741824
  · simp (maxSteps:=999999) only [E0,seval,-Int.reduceNatCast',NUM,c_ordered,h1,c_shares s0 s1 s2 s3 ha hb hc hd,h2,c_in,h3]
  · simp (maxSteps:=999999) only [E0,seval,-Int.reduceNatCast',NUM,c_ordered,h1,c_shares s0 s1 s2 s3 ha hb hc hd,h2,c_in,h3]
section
variable (x : Rch) (h : RIGHT x) (v : Int) (hv : 0 ≤ v ∧ v ≤ 1073741824)
include h hv
theorem c_lost (hx : x.OK) : ap Tryz.prog pol 63 [rch x,I v] = some (.ret (.agg [I (LO (los x) v),I (HI (los x) v)])):=by
  have p1:=lo_part h.RT hv.1
  have p2:=hi_part h.RT hv.1
  have hr:=h.RT
  have v1:=h.2.1.1
  have v2:=h.2.2.1.1
  obtain ⟨nm,up,dl,cp,bk,si,e0,e1,s0,s1,s2,s3⟩:=x
  obtain ⟨ha,hb,hc,hd⟩:=hx
  have he:=h.1
  simp only [los] at *
  have u:=UPD_neg (x:=s2 * v) (d:=s3) hr.db
  rw [← Int.neg_mul] at u
  have vi : I64 v:=by unfold I64; omega
  have t1:=c_times s0 s1 v ha hb vi
  have t2:=c_times s2 s3 v hc hd vi
  simp only [TIMES,v1,v2,if_true,if_neg (show ¬ (v < -1073741824 ∨ 1073741824 < v) by omega)] at t1 t2
  rw [u] at t2
  rw [ap_eq _ Tryz.func63 rfl Tryz.ntmps63 Tryz.results63 (by kernel_rfl) rfl (by exact Nat.le_of_ble_eq_true rfl)]
  by_cases h0 : v = 0
  · subst h0
    simp (maxSteps:=999999) only [E0,seval,-Int.reduceNatCast',NUM]
    simp [LO,HI]
  · simp (maxSteps:=999999) only [E0,seval,-Int.reduceNatCast',NUM,h0,t1,t2,i64_in (x:=e0 + s0 * v / s1) (by unfold I64; omega),i64_in (x:=e1 + UPD (s2 * v) s3) (by unfold I64; omega)]
    simp [LO,HI,h0]
end
def ARR (f : Nat) (r : Los) (v : Int) : Int:=if f = 78 then BE r v else WO r v
theorem ARR_mono {f : Nat} {r : Los} (h : r.RT) {a b : Int} (ha : 0 ≤ a) (hab : a ≤ b) : ARR f r a ≤ ARR f r b:=by
  unfold ARR; split
  · exact BE_mono h ha hab
  · exact WO_mono h ha hab
abbrev rchc (x : Rch) : List PV:=[.str x.nm,I x.up,I x.dl,I x.cp,I x.bk,I x.si,I x.e0,I x.e1,I x.s0,I x.s1,I x.s2,I x.s3]
theorem strip_rchc (x : Rch) : strip0 (.rop (rchc x)) = .rop (rchc x):=rfl
theorem c_arr (f : Nat) (hf : f = 78 ∨ f = 79) (x : Rch) (hx : x.OK) (h : RIGHT x) (v : Int) (hv : 0 ≤ v ∧ v ≤ 1073741824) :
    ap Tryz.prog pol f [I v,.rop (rchc x)] = some (.ret (I (ARR f (los x) v))):=by
  have cl:=c_lost x h v hv hx
  have b1:=LO_bd h.RT hv.1
  have b2:=HI_bd h.RT hv.1
  rcases hf with rfl | rfl
  · rw [ap_eq _ Tryz.func78 rfl Tryz.ntmps78 Tryz.results78 (by kernel_rfl) rfl (by exact Nat.le_of_ble_eq_true rfl)]
    simp (maxSteps:=999999) only [E0,seval,-Int.reduceNatCast',NUM,cl,i64_in (x:=v - LO (los x) v) (by unfold I64; omega)]
    rfl
  · rw [ap_eq _ Tryz.func79 rfl Tryz.ntmps79 Tryz.results79 (by kernel_rfl) rfl (by exact Nat.le_of_ble_eq_true rfl)]
    simp (maxSteps:=999999) only [E0,seval,-Int.reduceNatCast',NUM,cl,i64_in (x:=v - HI (los x) v) (by unfold I64; omega)]
    rfl
theorem c_least1 (f : Nat) (hf : f = 78 ∨ f = 79) (x : Rch) (hx : x.OK) (h : RIGHT x) (w : Int) (v : Int) (hv : 0 ≤ v ∧ v ≤ 1073741824) :
    ap Tryz.prog pol 100 [I v,.rop [.fn f [.rop (rchc x)]],.rop [I w]] = some (.ret (.bool (decide (w < ARR f (los x) v)))):=by
  have ca:=c_arr f hf x hx h v hv
  rcases hf with rfl | rfl
  · rw [ap_eq _ Tryz.func100 rfl Tryz.ntmps100 Tryz.results100 (by kernel_rfl) rfl (by exact Nat.le_of_ble_eq_true rfl)]
    simp (maxSteps:=999999) only [E0,seval,-Int.reduceNatCast',NUM,ca,strip_rchc]
  · rw [ap_eq _ Tryz.func100 rfl Tryz.ntmps100 Tryz.results100 (by kernel_rfl) rfl (by exact Nat.le_of_ble_eq_true rfl)]
    simp (maxSteps:=999999) only [E0,seval,-Int.reduceNatCast',NUM,ca,strip_rchc]
theorem c_search (f : Nat) (hf : f = 78 ∨ f = 79) (x : Rch) (hx : x.OK) (h : RIGHT x) (w : Int) :
    ∃ r,ap Tryz.prog pol 99 [I 1073741825,.fn 100 [.rop [.fn f [.rop (rchc x)]],.rop [I w]]] = some (.ret (I r)) ∧ IsL (fun v => w < ARR f (los x) v) 1073741825 r:=by
  rw [ap_eq _ Tryz.func99 rfl Tryz.ntmps99 Tryz.results99 (by kernel_rfl) rfl (by exact Nat.le_of_ble_eq_true rfl)]
  simp (maxSteps:=999999) only [E0,seval,-Int.reduceNatCast']
  generalize hL : W _ (.loop _) _ = L
  obtain ⟨ex,s,rfl,rfl,r,h5,hd,hfi,hl⟩:=loop_at hL (α:=Int × Int) (fun p => (p.2 - p.1).toNat)
    (fun s0 p s => 0 ≤ p.1 ∧ p.1 ≤ p.2 ∧ p.2 ≤ 1073741825 ∧ s.tmps 5 = I p.1 ∧ s.tmps 6 = I p.2 ∧ s.tmps 1 = .fn 100 [.rop [.fn f [.rop (rchc x)]],.rop [I w]] ∧ s.defers = [] ∧ s.fid = 0 ∧ (∀ i,0 ≤ i → i < p.1 → ¬ w < ARR f (los x) i) ∧ (∀ i,p.2 ≤ i → i < 1073741825 → w < ARR f (los x) i))
    (fun s0 ex s => ex = .exit 0 ∧ ∃ r,s.tmps 5 = I r ∧ s.defers = [] ∧ s.fid = 0 ∧ IsL (fun v => w < ARR f (los x) v) 1073741825 r) (0,1073741825)
    (by simp (maxSteps:=999999) only [E0,seval,-Int.reduceNatCast']; exact ⟨fun i h1 h2 => by omega,fun i h1 h2 => by omega⟩) (by
      rintro ⟨a,b⟩ s r0 hW ⟨h0a,hab,hb,q5,q6,q1,hd,hfi,no,yes⟩
      simp only at *
      by_cases hp : a < b
      · obtain ⟨m,em,hm⟩ : ∃ m,(a + b) / 2 = m ∧ (a ≤ m ∧ m < b):=⟨_,rfl,by omega⟩
        have cl:=c_least1 f hf x hx h w m (by omega)
        have mid : (IntKind.u64.wrap (a + b)).fdiv (2 ^ min 1 IntKind.u64.bits) = m:=by
          rw [u64_in (by unfold U64; omega),show (2 : Int) ^ min 1 IntKind.u64.bits = 2 by decide,Int.fdiv_eq_ediv_of_nonneg _ (by decide),em]
        by_cases hm' : w < ARR f (los x) m
        · simp (maxSteps:=999999) only [E0,seval,-Int.reduceNatCast',NUM,q5,q6,q1,hd,hfi,hp,i64_in (x:=a + b) (by unfold I64; omega),mid,i64_in (x:=m) (by unfold I64; omega),cl,hm',strip_rchc] at hW
          subst hW
          refine rd_next (a,m) ?_ (show (m - a).toNat < (b - a).toNat by omega)
          simp (maxSteps:=999999) only [E0,seval,-Int.reduceNatCast',q5,q1]
          refine ⟨h0a,hm.1,by omega,no,fun i h1 h2 => ?_⟩
          have:=ARR_mono (f:=f) h.RT (show 0 ≤ m by omega) h1
          omega
        · simp (maxSteps:=999999) only [E0,seval,-Int.reduceNatCast',NUM,q5,q6,q1,hd,hfi,hp,i64_in (x:=a + b) (by unfold I64; omega),mid,i64_in (x:=m) (by unfold I64; omega),i64_in (x:=m + 1) (by unfold I64; omega),cl,hm',strip_rchc] at hW
          subst hW
          refine rd_next (m + 1,b) ?_ (show (b - (m + 1)).toNat < (b - a).toNat by omega)
          simp (maxSteps:=999999) only [E0,seval,-Int.reduceNatCast',q6,q1]
          refine ⟨by omega,by omega,hb,fun i h1 h2 => ?_,yes⟩
          have:=ARR_mono (f:=f) h.RT h1 (show i ≤ m by omega)
          omega
      · simp (maxSteps:=999999) only [E0,seval,-Int.reduceNatCast',NUM,q5,q6,q1,hd,hfi,hp] at hW
        subst hW
        have : a = b:=by omega
        subst this
        refine rd_exit ⟨rfl,a,?_⟩
        simp (maxSteps:=999999) only [E0,seval,-Int.reduceNatCast',q5]
        exact ⟨h0a,hb,no,yes⟩)
  simp (maxSteps:=999999) only [E0,seval,-Int.reduceNatCast',h5,hd,hfi]
  exact ⟨r,rfl,hl⟩
theorem VC_0 (x : Rch) (n : Int) : VC x n = 0 ↔ RIGHT x ∧ 0 ≤ n ∧ n ≤ 1073741824:=by
  unfold VC
  by_cases h : RIGHT x
  · by_cases h2 : 0 ≤ n ∧ n ≤ 1073741824 <;> simp [h,h2]
  · simp [h]
abbrev rng (a b : Int) : PV:=.agg [I a,I b]
theorem c_Worst (x : Rch) (hx : x.OK) (v : Int) : ap Tryz.prog pol 41 [rch x,I v] = some (.ret (if VC x v = 0 then .tup [I (WO (los x) v),I 0] else .tup [I 0,I (VC x v)])):=by
  rw [ap_eq _ Tryz.func41 rfl Tryz.ntmps41 Tryz.results41 (by kernel_rfl) rfl (by exact Nat.le_of_ble_eq_true rfl)]
  by_cases h : VC x v = 0
  · obtain ⟨h1,h2⟩:=(VC_0 x v).1 h
    have b:=HI_bd h1.RT h2.1
    simp (maxSteps:=999999) only [E0,seval,-Int.reduceNatCast',NUM,c_valid47 x hx v,c_lost x h1 v h2 hx,h,i64_in (x:=v - HI (los x) v) (by unfold I64; omega)]
    rfl
  · simp (maxSteps:=999999) only [E0,seval,-Int.reduceNatCast',NUM,c_valid47 x hx v,h]
theorem c_Best (x : Rch) (hx : x.OK) (v : Int) : ap Tryz.prog pol 42 [rch x,I v] = some (.ret (if VC x v = 0 then .tup [I (BE (los x) v),I 0] else .tup [I 0,I (VC x v)])):=by
  rw [ap_eq _ Tryz.func42 rfl Tryz.ntmps42 Tryz.results42 (by kernel_rfl) rfl (by exact Nat.le_of_ble_eq_true rfl)]
  by_cases h : VC x v = 0
  · obtain ⟨h1,h2⟩:=(VC_0 x v).1 h
    have b:=LO_bd h1.RT h2.1
    simp (maxSteps:=999999) only [E0,seval,-Int.reduceNatCast',NUM,c_valid47 x hx v,c_lost x h1 v h2 hx,h,i64_in (x:=v - LO (los x) v) (by unfold I64; omega)]
    rfl
  · simp (maxSteps:=999999) only [E0,seval,-Int.reduceNatCast',NUM,c_valid47 x hx v,h]
theorem c_least (f : Nat) (hf : f = 78 ∨ f = 79) (x : Rch) (hx : x.OK) (h : RIGHT x) (w : Int) :
    ∃ r,ap Tryz.prog pol 77 [I w,.fn f [.rop (rchc x)]] = some (.ret (I r)) ∧ IsL (fun v => w < ARR f (los x) v) 1073741825 r:=by
  obtain ⟨r,e,hl⟩:=c_search f hf x hx h w
  refine ⟨r,?_,hl⟩
  rw [ap_eq _ Tryz.func77 rfl Tryz.ntmps77 Tryz.results77 (by kernel_rfl) rfl (by exact Nat.le_of_ble_eq_true rfl)]
  simp (maxSteps:=999999) only [E0,seval,-Int.reduceNatCast',NUM,e]
theorem c_Reach (x : Rch) (hx : x.OK) (w : Int) : (VC x w ≠ 0 ∧ ap Tryz.prog pol 52 [rch x,I w] = some (.ret (.tup [I 0,.bool false,I (VC x w)]))) ∨
    (VC x w = 0 ∧ ∃ r,IsL (fun v => w - 1 < BE (los x) v) 1073741825 r ∧ ap Tryz.prog pol 52 [rch x,I w] = some (.ret (if r ≤ 1073741824 then .tup [I r,.bool true,I 0] else .tup [I 0,.bool false,I 0]))):=by
  by_cases h : VC x w = 0
  · right
    refine ⟨h,?_⟩
    obtain ⟨h1,h2⟩:=(VC_0 x w).1 h
    obtain ⟨r,er,hl⟩:=c_least 78 (by decide) x hx h1 (w - 1)
    refine ⟨r,hl,?_⟩
    rw [ap_eq _ Tryz.func52 rfl Tryz.ntmps52 Tryz.results52 (by kernel_rfl) rfl (by exact Nat.le_of_ble_eq_true rfl)]
    by_cases hr : r ≤ 1073741824
    · simp (maxSteps:=999999) only [E0,seval,-Int.reduceNatCast',NUM,c_valid47 x hx w,h,i64_in (x:=w - 1) (by unfold I64; omega),er,(show ¬ 1073741824 < r by omega),hr]
    · simp (maxSteps:=999999) only [E0,seval,-Int.reduceNatCast',NUM,c_valid47 x hx w,h,i64_in (x:=w - 1) (by unfold I64; omega),er,(show 1073741824 < r by omega),hr]
  · left
    refine ⟨h,?_⟩
    rw [ap_eq _ Tryz.func52 rfl Tryz.ntmps52 Tryz.results52 (by kernel_rfl) rfl (by exact Nat.le_of_ble_eq_true rfl)]
    simp (maxSteps:=999999) only [E0,seval,-Int.reduceNatCast',NUM,c_valid47 x hx w,h]
theorem c_Most (x : Rch) (hx : x.OK) (w : Int) : (VC x w ≠ 0 ∧ ap Tryz.prog pol 53 [rch x,I w] = some (.ret (.tup [I 0,I (VC x w)]))) ∨
    (VC x w = 0 ∧ ∃ r,IsL (fun v => w < WO (los x) v) 1073741825 r ∧ ap Tryz.prog pol 53 [rch x,I w] = some (.ret (.tup [I (r - 1),I 0]))):=by
  by_cases h : VC x w = 0
  · right
    refine ⟨h,?_⟩
    obtain ⟨h1,h2⟩:=(VC_0 x w).1 h
    obtain ⟨r,er,hl⟩:=c_least 79 (by decide) x hx h1 w
    have b1:=hl.lo
    have b2:=hl.hi
    refine ⟨r,hl,?_⟩
    rw [ap_eq _ Tryz.func53 rfl Tryz.ntmps53 Tryz.results53 (by kernel_rfl) rfl (by exact Nat.le_of_ble_eq_true rfl)]
    simp (maxSteps:=999999) only [E0,seval,-Int.reduceNatCast',NUM,c_valid47 x hx w,h,er,i64_in (x:=r - 1) (by unfold I64; omega)]
  · left
    refine ⟨h,?_⟩
    rw [ap_eq _ Tryz.func53 rfl Tryz.ntmps53 Tryz.results53 (by kernel_rfl) rfl (by exact Nat.le_of_ble_eq_true rfl)]
    simp (maxSteps:=999999) only [E0,seval,-Int.reduceNatCast',NUM,c_valid47 x hx w,h]
structure Wav where
  (hour : Int) (hs os ts : List (Int × Int))
structure Sus where
  (kd ix mo : Int)
abbrev rg (p : Int × Int) : PV:=.agg [I p.1,I p.2]
abbrev wav (w : Wav) : PV:=.agg [I w.hour,.vs 2 (w.hs.map rg) none,.vs 2 (w.os.map rg) none,.vs 2 (w.ts.map rg) none]
abbrev sus (s : Sus) : PV:=.agg [I s.kd,I s.ix,I s.mo]
theorem SRG : (∀ l : List (Int × Int),strip0L (l.map rg) = l.map rg) ∧ (∀ l : List (Int × Int),(l.map rg).map strip0 = l.map rg) ∧ (∀ H (l : List (Int × Int)),(l.map rg).map (strip1 H) = l.map rg) ∧ (∀ H (l : List (Int × Int)),(l.map rg).map (strip2 H) = l.map rg) ∧ (∀ H (l : List (Int × Int)),strip1L H (l.map rg) = l.map rg) ∧ (∀ H (l : List (Int × Int)),strip2L H (l.map rg) = l.map rg):=
  STR rg (fun _ => rfl) (fun _ _ => rfl) (fun _ _ => rfl)
theorem SSUS : (∀ l : List Sus,strip0L (l.map sus) = l.map sus) ∧ (∀ l : List Sus,(l.map sus).map strip0 = l.map sus) ∧ (∀ H (l : List Sus),(l.map sus).map (strip1 H) = l.map sus) ∧ (∀ H (l : List Sus),(l.map sus).map (strip2 H) = l.map sus) ∧ (∀ H (l : List Sus),strip1L H (l.map sus) = l.map sus) ∧ (∀ H (l : List Sus),strip2L H (l.map sus) = l.map sus):=
  STR sus (fun _ => rfl) (fun _ _ => rfl) (fun _ _ => rfl)
theorem SWAV : (∀ l : List Wav,strip0L (l.map wav) = l.map wav) ∧ (∀ l : List Wav,(l.map wav).map strip0 = l.map wav) ∧ (∀ H (l : List Wav),(l.map wav).map (strip1 H) = l.map wav) ∧ (∀ H (l : List Wav),(l.map wav).map (strip2 H) = l.map wav) ∧ (∀ H (l : List Wav),strip1L H (l.map wav) = l.map wav) ∧ (∀ H (l : List Wav),strip2L H (l.map wav) = l.map wav):=
  STR wav (fun x => by show PV.agg [I x.hour,.vs 2 (strip0L (x.hs.map rg)) none,.vs 2 (strip0L (x.os.map rg)) none,.vs 2 (strip0L (x.ts.map rg)) none] = _; rw [SRG.1,SRG.1,SRG.1])
    (fun H x => by show PV.agg [I x.hour,.vs 2 (strip1L H (x.hs.map rg)) none,.vs 2 (strip1L H (x.os.map rg)) none,.vs 2 (strip1L H (x.ts.map rg)) none] = _; rw [SRG.2.2.2.2.1,SRG.2.2.2.2.1,SRG.2.2.2.2.1])
    (fun H x => by show PV.agg [I x.hour,.vs 2 (strip2L H (x.hs.map rg)) none,.vs 2 (strip2L H (x.os.map rg)) none,.vs 2 (strip2L H (x.ts.map rg)) none] = _; rw [SRG.2.2.2.2.2,SRG.2.2.2.2.2,SRG.2.2.2.2.2])
def RG (p : Int × Int) : Prop:=0 ≤ p.1 ∧ p.1 ≤ p.2 ∧ p.2 ≤ 1073741824
instance (p : Int × Int) : Decidable (RG p):=by unfold RG; infer_instance
def RGS (l : List (Int × Int)) (n : Int) : Prop:=(l.length : Int) = n ∧ ∀ p ∈ l,RG p
instance (l : List (Int × Int)) (n : Int) : Decidable (RGS l n):=by unfold RGS; infer_instance
theorem c_rt1 (p : Int × Int) : ap Tryz.prog pol 88 [rg p] = some (.ret (.bool (decide (¬ RG p)))):=by
  obtain ⟨a,b⟩:=p
  rw [ap_eq _ Tryz.func88 rfl Tryz.ntmps88 Tryz.results88 (by kernel_rfl) rfl (by exact Nat.le_of_ble_eq_true rfl)]
  by_cases h1 : a < 0
  · rw [decide_eq_true (show ¬ RG (a,b) from fun g => by have:=g.1; simp only at this; omega)]
    simp (maxSteps:=999999) only [E0,seval,-Int.reduceNatCast',h1]
  by_cases h2 : b < a
  · rw [decide_eq_true (show ¬ RG (a,b) from fun g => by have:=g.2.1; simp only at this; omega)]
    simp (maxSteps:=999999) only [E0,seval,-Int.reduceNatCast',h1,h2]
  by_cases h3 : 1073741824 < b
  · rw [decide_eq_true (show ¬ RG (a,b) from fun g => by have:=g.2.2; simp only at this; omega)]
    simp (maxSteps:=999999) only [E0,seval,-Int.reduceNatCast',h1,h2,h3]
  · rw [decide_eq_false (show ¬ ¬ RG (a,b) from fun g => g ⟨by simp only; omega,by simp only; omega,by simp only; omega⟩)]
    simp (maxSteps:=999999) only [E0,seval,-Int.reduceNatCast',h1,h2,h3]
theorem c_rtix (l : List (Int × Int)) (c : Option Nat) (hl : l.length ≤ 1000000) : ∃ i,ap Tryz.prog pol 107 [.vs 2 (l.map rg) c,.fn 88 []] = some (.ret (I i)) ∧ (0 ≤ i ↔ ¬ ∀ p ∈ l,RG p):=by
  rw [ap_eq _ Tryz.func107 rfl Tryz.ntmps107 Tryz.results107 (by kernel_rfl) rfl (by exact Nat.le_of_ble_eq_true rfl)]
  simp (maxSteps:=999999) only [E0,seval,-Int.reduceNatCast',List.length_map]
  generalize hL : W _ (.loop _) _ = L
  obtain ⟨ex,s,rfl,hex,hd⟩:=loop_at hL (α:=Nat) (fun j => l.length - j)
    (fun s0 j s => j ≤ l.length ∧ (∀ p ∈ l.take j,RG p) ∧ s.tmps 8 = I j ∧ s.tmps 7 = I l.length ∧ s.tmps 0 = .vs 2 (l.map rg) c ∧ s.tmps 1 = .fn 88 [] ∧ s.defers = [] ∧ s.fid = 0)
    (fun s0 ex s => ((ex = .exit 0 ∧ ∀ p ∈ l,RG p) ∨ (ex = .ret ∧ (¬ ∀ p ∈ l,RG p) ∧ ∃ i : Nat,s.tmps 4 = I i)) ∧ s.defers = []) 0
    (by simp (maxSteps:=999999) only [E0,seval,-Int.reduceNatCast']; exact ⟨by omega,by simp,by simp⟩) (by
      rintro j s r hW ⟨hj,ht,h8,h7,h0,h1,hd,hf⟩
      by_cases hp : j < l.length
      · have e0 : l[j]? = some l[j]:=List.getElem?_eq_getElem hp
        have e1:=map_get (f:=rg) e0
        generalize l[j] = x at *
        have hm : x ∈ l:=List.mem_of_getElem? e0
        by_cases hx : RG x
        · simp (maxSteps:=999999) only [E0,seval,-Int.reduceNatCast',NUM,SRG,c_rt1,h8,h7,h0,h1,hd,hf,e1,hx,List.length_map,Int.toNat_natCast,(show (j : Int) < l.length by omega),(show (0 : Int) ≤ j by omega),i64_in (x:=(j : Int) + 1) (by unfold I64; omega)] at hW
          subst hW
          refine rd_next (j + 1) ?_ (show l.length - (j + 1) < l.length - j by omega)
          simp (maxSteps:=999999) only [E0,seval,-Int.reduceNatCast',h0,h1,h7,hd]
          refine ⟨by omega,?_,by simp⟩
          rw [List.take_add_one,e0]
          intro p hp
          rcases List.mem_append.1 hp with hp | hp
          · exact ht p hp
          · simp at hp; rw [hp]; exact hx
        · simp (maxSteps:=999999) only [E0,seval,-Int.reduceNatCast',NUM,SRG,c_rt1,h8,h7,h0,h1,hd,hf,e1,hx,List.length_map,Int.toNat_natCast,(show (j : Int) < l.length by omega),(show (0 : Int) ≤ j by omega)] at hW
          subst hW
          exact rd_ret ⟨.inr ⟨rfl,fun g => hx (g x hm),j,by simp (maxSteps:=999999) only [E0,seval,-Int.reduceNatCast']⟩,by simp (maxSteps:=999999) only [E0,seval,-Int.reduceNatCast',hd]⟩
      · simp (maxSteps:=999999) only [E0,seval,-Int.reduceNatCast',h8,h7,hd,hf,(show ¬ (j : Int) < l.length by omega)] at hW
        subst hW
        rw [List.take_of_length_le (by omega)] at ht
        exact rd_exit ⟨.inl ⟨rfl,ht⟩,by simp (maxSteps:=999999) only [E0,seval,-Int.reduceNatCast',hd]⟩)
  rcases hex with ⟨rfl,hg⟩ | ⟨rfl,hg,i,h2⟩
  · simp (maxSteps:=999999) only [E0,seval,-Int.reduceNatCast',hd]
    exact ⟨-1,rfl,fun g => absurd g (by decide),fun g => absurd hg g⟩
  · simp (maxSteps:=999999) only [E0,seval,-Int.reduceNatCast',hd,h2]
    exact ⟨i,rfl,fun _ => hg,fun _ => by omega⟩
theorem c_rtany (l : List (Int × Int)) (c : Option Nat) (hl : l.length ≤ 1000000) : ap Tryz.prog pol 87 [.vs 2 (l.map rg) c,.fn 88 []] = some (.ret (.bool (decide (¬ ∀ p ∈ l,RG p)))):=by
  obtain ⟨i,e,hi⟩:=c_rtix l c hl
  rw [ap_eq _ Tryz.func87 rfl Tryz.ntmps87 Tryz.results87 (by kernel_rfl) rfl (by exact Nat.le_of_ble_eq_true rfl)]
  simp (maxSteps:=999999) only [E0,seval,-Int.reduceNatCast',SRG,e]
  exact b_iff hi
theorem c_rt (l : List (Int × Int)) (c : Option Nat) (n : Int) (hl : l.length ≤ 1000000) : ap Tryz.prog pol 61 [.vs 2 (l.map rg) c,I n] = some (.ret (.bool (decide (RGS l n)))):=by
  rw [ap_eq _ Tryz.func61 rfl Tryz.ntmps61 Tryz.results61 (by kernel_rfl) rfl (by exact Nat.le_of_ble_eq_true rfl)]
  by_cases h : (l.length : Int) = n
  · simp (maxSteps:=999999) only [E0,seval,-Int.reduceNatCast',SRG,List.length_map,h,c_rtany l c hl]
    exact b_iff ⟨fun g => ⟨h,Decidable.not_not.1 g⟩,fun g => Decidable.not_not.2 g.2⟩
  · rw [decide_eq_false (fun g => h g.1)]
    simp (maxSteps:=999999) only [E0,seval,-Int.reduceNatCast',SRG,List.length_map,h]
structure Evd where
  (ws : List Wav) (ss : List Sus)
abbrev evc (X : Evd) (cw cs : Option Nat) : List PV:=[.vs 4 (X.ws.map wav) cw,.vs 3 (X.ss.map sus) cs]
abbrev ev (X : Evd) (cw cs : Option Nat) : PV:=.agg (evc X cw cs)
theorem c_few19 (D : Dis) (ws : List Wel) : ∃ b,ap Tryz.prog pol 38 [dv D ws] = some (.ret (.bool b)) ∧ (b = true → D.rs.length ≤ 100 ∧ D.fs.length ≤ 700 ∧ D.cs.length ≤ 100 ∧ D.gs.length ≤ 300 ∧ D.ds.length ≤ 300 ∧ ws.length ≤ 100):=by
  rw [ap_eq _ Tryz.func38 rfl Tryz.ntmps38 Tryz.results38 (by kernel_rfl) rfl (by exact Nat.le_of_ble_eq_true rfl)]
  simp (maxSteps:=999999) only [E0,seval,-Int.reduceNatCast',NUM,List.length_map,b_and]
  exact ⟨_,rfl,fun h => by have:=of_decide_eq_true h; omega⟩
def SM (D : Dis) (X : Evd) : Prop:=D.rs.length ≤ 100 ∧ D.fs.length ≤ 700 ∧ D.cs.length ≤ 100 ∧ D.gs.length ≤ 300 ∧ D.ds.length ≤ 300 ∧ X.ws.length ≤ 60 ∧ (X.ss.length ≤ 60 ∧ (X.ss.length ≤ 6 ∨ 12 < X.ss.length)) ∧
  ∀ w ∈ X.ws,w.hs.length ≤ 700 ∧ w.os.length ≤ 700 ∧ w.ts.length ≤ 700
set_option maxHeartbeats 8000000 in
theorem c_few48 (D : Dis) (ws : List Wel) (X : Evd) : ∃ b,ap Tryz.prog pol 17 [dv D ws,ev X none none] = some (.ret (.bool b)) ∧ (b = true → SM D X):=by
  obtain ⟨b,eb,hb⟩:=c_few19 D ws
  rw [ap_eq _ Tryz.func17 rfl Tryz.ntmps17 Tryz.results17 (by kernel_rfl) rfl (by exact Nat.le_of_ble_eq_true rfl)]
  cases b with
  | false =>
    simp (maxSteps:=999999) only [E0,seval,-Int.reduceNatCast',NUM,SRCH,SFRM,SCRP,SRGT,SDTY,SWEL,eb]
    exact ⟨_,rfl,by simp⟩
  | true =>
  have hw:=hb rfl
  have tri : ∀ a b n : Int,a ≤ b → (a < n ∧ n ≤ b) ∨ (¬ a < n ∧ n ≤ b) ∨ (a < n ∧ ¬ n ≤ b):=fun a b n h => by omega
  have fin : ∀ b : Bool,b = false → ∃ c,some (CR.ret (.bool b)) = some (.ret (.bool c)) ∧ (c = true → SM D X):=fun b h => ⟨b,rfl,fun g => by rw [h] at g; cases g⟩
  rcases tri 8 64 D.rs.length (by decide) with ⟨a1,a2⟩ | ⟨a1,a2⟩ | ⟨a1,a2⟩
  · simp (maxSteps:=999999) only [E0,seval,-Int.reduceNatCast',NUM,SRCH,SFRM,SCRP,SRGT,SDTY,SWEL,eb,List.length_map,a1,a2]
    exact fin _ rfl
  all_goals rcases tri 8 600 D.fs.length (by decide) with ⟨a3,a4⟩ | ⟨a3,a4⟩ | ⟨a3,a4⟩
  case inr.inl.inl | inr.inr.inl =>
    simp (maxSteps:=999999) only [E0,seval,-Int.reduceNatCast',NUM,SRCH,SFRM,SCRP,SRGT,SDTY,SWEL,eb,List.length_map,a1,a2,a3,a4]
    exact fin _ rfl
  all_goals by_cases a7 : (60 : Int) < X.ws.length
  all_goals rcases tri 6 24 X.ws.length (by decide) with ⟨a5,a6⟩ | ⟨a5,a6⟩ | ⟨a5,a6⟩
  all_goals try (exfalso; omega)
  all_goals try (simp (maxSteps:=999999) only [E0,seval,-Int.reduceNatCast',NUM,SRCH,SFRM,SCRP,SRGT,SDTY,SWEL,eb,List.length_map,a1,a2,a3,a4,a5,a6,a7]; exact fin _ rfl)
  all_goals by_cases a10 : (60 : Int) < X.ss.length
  all_goals rcases tri 6 12 X.ss.length (by decide) with ⟨a8,a9⟩ | ⟨a8,a9⟩ | ⟨a8,a9⟩
  all_goals try (exfalso; omega)
  all_goals try (simp (maxSteps:=999999) only [E0,seval,-Int.reduceNatCast',NUM,SRCH,SFRM,SCRP,SRGT,SDTY,SWEL,eb,List.length_map,a1,a2,a3,a4,a5,a6,a7,a8,a9,a10]; exact fin _ rfl)
  all_goals
    simp (maxSteps:=999999) only [E0,seval,-Int.reduceNatCast',NUM,SRCH,SFRM,SCRP,SRGT,SDTY,SWEL,eb,List.length_map,a1,a2,a3,a4,a5,a6,a7,a8,a9,a10]
    generalize hL : W _ (.loop _) _ = L
    obtain ⟨ex,s,rfl,hd,hf,hex⟩:=loop_at hL (α:=Nat) (fun k => X.ws.length - k)
      (fun s0 j s => j ≤ X.ws.length ∧ (∀ w ∈ X.ws.take j,w.hs.length ≤ 700 ∧ w.os.length ≤ 700 ∧ w.ts.length ≤ 700) ∧ s.tmps 6 = I j ∧ s.tmps 3 = .bptr 0 3 0 0 ∧ s.boxes 3 = some (0,evc X none none) ∧ s.defers = [] ∧ s.fid = 0)
      (fun s0 ex s => s.defers = [] ∧ s.fid = 0 ∧ ((ex = .exit 0 ∧ ∀ w ∈ X.ws,w.hs.length ≤ 700 ∧ w.os.length ≤ 700 ∧ w.ts.length ≤ 700) ∨ (ex = .ret ∧ s.tmps 4 = .bool false))) 0
      (by simp (maxSteps:=999999) only [E0,seval,-Int.reduceNatCast']; exact ⟨Nat.zero_le _,by simp,by simp⟩) (by
        rintro j s r hW ⟨hj,ht,h6,h3,hb3,hd,hf⟩
        by_cases hp : j < X.ws.length
        · have e0 : X.ws[j]? = some X.ws[j]:=List.getElem?_eq_getElem hp
          have e1:=map_get (f:=wav) e0
          generalize X.ws[j] = x at *
          by_cases u1 : (700 : Int) < x.hs.length
          · simp (maxSteps:=999999) only [E0,seval,-Int.reduceNatCast',NUM,h6,h3,hb3,hd,hf,e1,u1,List.length_map,Int.toNat_natCast,(show (j : Int) < X.ws.length by omega),(show (0 : Int) ≤ j by omega)] at hW
            subst hW
            refine rd_ret ⟨?_,?_,.inr ⟨rfl,?_⟩⟩ <;> simp (maxSteps:=999999) only [E0,seval,-Int.reduceNatCast',hd,hf]
          by_cases u2 : (700 : Int) < x.os.length
          · simp (maxSteps:=999999) only [E0,seval,-Int.reduceNatCast',NUM,h6,h3,hb3,hd,hf,e1,u1,u2,List.length_map,Int.toNat_natCast,(show (j : Int) < X.ws.length by omega),(show (0 : Int) ≤ j by omega)] at hW
            subst hW
            refine rd_ret ⟨?_,?_,.inr ⟨rfl,?_⟩⟩ <;> simp (maxSteps:=999999) only [E0,seval,-Int.reduceNatCast',hd,hf]
          by_cases u3 : (700 : Int) < x.ts.length
          · simp (maxSteps:=999999) only [E0,seval,-Int.reduceNatCast',NUM,h6,h3,hb3,hd,hf,e1,u1,u2,u3,List.length_map,Int.toNat_natCast,(show (j : Int) < X.ws.length by omega),(show (0 : Int) ≤ j by omega)] at hW
            subst hW
            refine rd_ret ⟨?_,?_,.inr ⟨rfl,?_⟩⟩ <;> simp (maxSteps:=999999) only [E0,seval,-Int.reduceNatCast',hd,hf]
          simp (maxSteps:=999999) only [E0,seval,-Int.reduceNatCast',NUM,h6,h3,hb3,hd,hf,e1,u1,u2,u3,List.length_map,Int.toNat_natCast,(show (j : Int) < X.ws.length by omega),(show (0 : Int) ≤ j by omega),(i64_in (x:=(j : Int) + 1) (by unfold I64; omega))] at hW
          subst hW
          refine rd_next (j + 1) ?_ (show X.ws.length - (j + 1) < X.ws.length - j by omega)
          simp (maxSteps:=999999) only [E0,seval,-Int.reduceNatCast',h3,hb3,hd]
          refine ⟨by omega,?_,by simp⟩
          rw [List.take_add_one,e0]
          intro p hp
          rcases List.mem_append.1 hp with hp | hp
          · exact ht p hp
          · simp at hp; rw [hp]; omega
        · simp (maxSteps:=999999) only [E0,seval,-Int.reduceNatCast',NUM,List.length_map,h6,h3,hb3,hd,hf,(show ¬ (j : Int) < X.ws.length by omega)] at hW
          subst hW
          rw [List.take_of_length_le (by omega)] at ht
          exact rd_exit ⟨by simp (maxSteps:=999999) only [E0,seval,-Int.reduceNatCast',hd],by simp (maxSteps:=999999) only [E0,seval,-Int.reduceNatCast',hf],.inl ⟨rfl,ht⟩⟩)
    rcases hex with ⟨rfl,hg⟩ | ⟨rfl,h2⟩
    · simp (maxSteps:=999999) only [E0,seval,-Int.reduceNatCast',hd,hf]
      exact ⟨_,rfl,fun _ => ⟨hw.1,hw.2.1,hw.2.2.1,hw.2.2.2.1,hw.2.2.2.2.1,by omega,⟨by omega,by omega⟩,hg⟩⟩
    · simp (maxSteps:=999999) only [E0,seval,-Int.reduceNatCast',hd,hf,h2]
      exact ⟨_,rfl,by simp⟩
theorem c_few (D : Dis) (ws : List Wel) (X : Evd) : ∃ b,ap Tryz.prog pol 5 [dv D ws,ev X none none] = some (.ret (.bool b)) ∧ (b = true → SM D X):=by
  obtain ⟨b,eb,hb⟩:=c_few48 D ws X
  rw [ap_eq _ Tryz.func5 rfl Tryz.ntmps5 Tryz.results5 (by kernel_rfl) rfl (by exact Nat.le_of_ble_eq_true rfl)]
  simp (maxSteps:=999999) only [E0,seval,-Int.reduceNatCast',NUM,SRCH,SFRM,SCRP,SRGT,SDTY,SWEL,SWAV,SSUS,eb]
  exact ⟨b,rfl,hb⟩
theorem RIN_right {x : Rch} (h : RIN x) : RIGHT x:=by
  obtain ⟨_,_,_,h1,va,vc,h2,h3,h4⟩:=h
  have w:=wrap_prod ⟨va,vc⟩
  rw [w.1,w.2.1,CMP_le] at h3
  obtain ⟨a1,a2,a3,a4,a5⟩:=va
  obtain ⟨c1,c2,c3,c4,c5⟩:=vc
  have e1 : x.s2 * x.s1 ≤ x.s3 * x.s1:=Int.mul_le_mul_of_nonneg_right h4 (by omega)
  have e2 : x.s0 * x.s3 ≤ x.s1 * x.s3:=by rw [Int.mul_comm x.s1 x.s3]; omega
  have e3 : x.s0 ≤ x.s1:=Int.le_of_mul_le_mul_right e2 (by omega)
  have e4 : 0 * x.s1 ≤ x.s2 * x.s1:=by
    have:=Int.mul_nonneg h2 (show 0 ≤ x.s3 by omega)
    omega
  have e5 : 0 ≤ x.s2:=Int.le_of_mul_le_mul_right e4 (by omega)
  exact ⟨⟨h1.1,h1.2.1,h1.2.2⟩,⟨⟨a1,a2,a3,a4,a5⟩,h2,e3⟩,⟨⟨c1,c2,c3,c4,c5⟩,e5,h4⟩,h3⟩
noncomputable instance (D : Dis) : Decidable D.K:=Classical.propDecidable _
noncomputable instance {α : Type} (P : Nat → α → Prop) (l : List α) : Decidable (ALLI P l):=Classical.propDecidable _
noncomputable def XC (D : Dis) : Int:=if D.LEN then if D.K then 0 else 191 else 2
theorem XC_cases (D : Dis) (c : Int) (h : (¬ D.LEN ∧ c = 2) ∨ (D.LEN ∧ D.K ∧ c = 0) ∨ (D.LEN ∧ ¬ D.K ∧ c = 191)) : c = XC D:=by
  unfold XC
  rcases h with ⟨h1,rfl⟩ | ⟨h1,h2,rfl⟩ | ⟨h1,h2,rfl⟩
  · rw [if_neg h1]
  · rw [if_pos h1,if_pos h2]
  · rw [if_pos h1,if_neg h2]
theorem XC_0 {D : Dis} (h : XC D = 0) : D.LEN ∧ D.K:=by
  unfold XC at h
  split at h
  · split at h
    · exact ⟨by assumption,by assumption⟩
    · omega
  · omega
structure DV (D : Dis) (cs gs ds ws : PV) : Prop where
  hcs : SL 2 (D.cs.map crp) cs
  hgs : SL 10 (D.gs.map rgt) gs
  hds : SL 4 (D.ds.map dty) ds
  s0 : strip0 cs = cs ∧ strip0 gs = gs ∧ strip0 ds = ds ∧ strip0 ws = ws
  s1 : ∀ H,strip1 H cs = cs ∧ strip1 H gs = gs ∧ strip1 H ds = ds ∧ strip1 H ws = ws
  s2 : ∀ H,strip2 H cs = cs ∧ strip2 H gs = gs ∧ strip2 H ds = ds ∧ strip2 H ws = ws
  fz : ∀ H,freezeArg0 H cs = (cs,H) ∧ freezeArg0 H gs = (gs,H) ∧ freezeArg0 H ds = (ds,H) ∧ freezeArg0 H ws = (ws,H)
theorem DV.st {D : Dis} {cs gs ds ws : PV} (h : DV D cs gs ds ws) : (strip0 cs = cs ∧ strip0 gs = gs ∧ strip0 ds = ds ∧ strip0 ws = ws) ∧ (∀ H,strip1 H cs = cs ∧ strip1 H gs = gs ∧ strip1 H ds = ds ∧ strip1 H ws = ws) ∧ (∀ H,strip2 H cs = cs ∧ strip2 H gs = gs ∧ strip2 H ds = ds ∧ strip2 H ws = ws) ∧ ∀ H,freezeArg0 H cs = (cs,H) ∧ freezeArg0 H gs = (gs,H) ∧ freezeArg0 H ds = (ds,H) ∧ freezeArg0 H ws = (ws,H):=⟨h.s0,h.s1,h.s2,h.fz⟩
abbrev dcel (D : Dis) (rc fc : Option Nat) (cs gs ds ws : PV) : List PV:=[.str D.nm,I D.hours,I D.cap,I D.start,.vs 12 (D.rs.map rch) rc,.vs 4 (D.fs.map frm) fc,cs,gs,ds,ws]
structure Cps where
  (r f w s : Option Nat) (cs gs ds ws : PV)
abbrev dcl (D : Dis) (q : Cps) : List PV:=dcel D q.r q.f q.cs q.gs q.ds q.ws
abbrev evq (X : Evd) (q : Cps) : List PV:=evc X q.w q.s
def WVS (hrs nr nf : Int) : Int → List Wav → Prop
  | _,[] => True
  | last,w :: r => (last < w.hour ∧ w.hour < hrs) ∧ RGS w.hs nr ∧ RGS w.os nf ∧ RGS w.ts nr ∧ WVS hrs nr nf w.hour r
def MANY (nr nf k : Int) : Int:=if k = 1 then nr else if k = 2 then nf else if k = 3 then nr else if k = 4 then nr else 0
def SSO (nr nf : Int) : Int → Int → List Sus → Prop
  | _,_,[] => True
  | k,i,s :: r => (0 ≤ s.ix ∧ s.ix < MANY nr nf s.kd) ∧ (1 ≤ s.mo ∧ s.mo ≤ 1073741824) ∧ (k < s.kd ∨ (s.kd = k ∧ i < s.ix)) ∧ SSO nr nf s.kd s.ix r
def EOK (D : Dis) (X : Evd) : Prop:=XC D = 0 ∧ X.ws.length ≤ 24 ∧ X.ss.length ≤ 12 ∧ WVS D.hours D.rs.length D.fs.length (-1) X.ws ∧ SSO D.rs.length D.fs.length 0 (-1) X.ss
abbrev mmap (nr nf : Int) : List (Int × PV):=[(1,I nr),(2,I nf),(3,I nr),(4,I nr)]
theorem mmap_get (nr nf k : Int) : lookA (I 0) false (aget (mmap nr nf) k) = I (MANY nr nf k):=by
  unfold MANY
  simp only [aget]
  split
  · rfl
  split
  · rfl
  split
  · rfl
  split
  · rfl
  · rfl
theorem upd_first {s : St} {id : Nat} {v : PV} {k : Int} : updG s id (I k) v [] (findPV Tryz.prog 3 (I k) [] 0) = updF s id (some (kmap (PV.int .i64) [(k,v)])):=rfl
theorem aset4 (a b c d : PV) : aset (aset (aset [((1 : Int),a)] 2 b) 3 c) 4 d = [(1,a),(2,b),(3,c),(4,d)]:=by
  simp [aset]
theorem drop_cons {α : Type} {l : List α} {j : Nat} {x : α} (e : l[j]? = some x) : l.drop j = x :: l.drop (j + 1):=by
  obtain ⟨h,rfl⟩:=List.getElem?_eq_some_iff.1 e
  exact List.drop_eq_getElem_cons h
section
variable {D : Dis} (hr : ∀ x ∈ D.rs,x.OK) {X : Evd} {q : Cps} (hv : DV D q.cs q.gs q.ds q.ws) (hb : ∀ w ∈ X.ws,w.hs.length ≤ 1000000 ∧ w.os.length ≤ 1000000 ∧ w.ts.length ≤ 1000000)
include hr hv hb
set_option maxHeartbeats 8000000 in
theorem c_evcheck : ∃ c,ap Tryz.prog pol 39 [.agg (dcl D q),.agg (evq X q)] = some (.ret (I c)) ∧ (c = 0 ↔ EOK D X):=by
  rw [ap_eq _ Tryz.func39 rfl Tryz.ntmps39 Tryz.results39 (by kernel_rfl) rfl (by exact Nat.le_of_ble_eq_true rfl)]
  simp (maxSteps:=999999) only [E0,seval,-Int.reduceNatCast',NUM,SRCH,SFRM,SCRP,SRGT,SDTY,SWAV,SSUS,hv.st]
  generalize hE : callF _ _ _ _ _ _ = E
  obtain ⟨H',e,rfl,fr,hn,he⟩:=c_xcheck D hr q.r q.f _ _ _ q.ws hv.hcs hv.hgs hv.hds _ _ hE
  have he:=XC_cases D e he
  subst he
  by_cases hX : XC D = 0
  rotate_left
  · simp (maxSteps:=999999) only [E0,seval,-Int.reduceNatCast',NUM,hX]
    exact ⟨_,rfl,fun g => absurd g hX,fun g => absurd g.1 hX⟩
  by_cases h1 : (24 : Int) < X.ws.length
  · simp (maxSteps:=999999) only [E0,seval,-Int.reduceNatCast',NUM,hX,List.length_map,h1]
    exact ⟨_,rfl,fun g => absurd g (by decide),fun g => by have:=g.2.1; omega⟩
  by_cases h2 : (12 : Int) < X.ss.length
  · simp (maxSteps:=999999) only [E0,seval,-Int.reduceNatCast',NUM,hX,List.length_map,h1,h2]
    exact ⟨_,rfl,fun g => absurd g (by decide),fun g => by have:=g.2.2.1; omega⟩
  obtain ⟨nx,hnx⟩ : ∃ nx,H'.next = nx:=⟨_,rfl⟩
  simp (maxSteps:=999999) only [E0,seval,-Int.reduceNatCast',NUM,hX,List.length_map,h1,h2]
  generalize hL : W _ (.loop _) _ = L
  obtain ⟨ex,s,rfl,hd,hf,hex⟩:=loop_at hL (α:=Nat) (fun k => X.ws.length - k)
    (fun s0 j s => j ≤ X.ws.length ∧ (∃ last,s.tmps 5 = I last ∧ (WVS D.hours D.rs.length D.fs.length (-1) X.ws ↔ WVS D.hours D.rs.length D.fs.length last (X.ws.drop j))) ∧ s.tmps 30 = I j ∧ s.tmps 29 = I X.ws.length ∧ s.tmps 28 = .vs 4 (X.ws.map wav) q.w ∧
      s.tmps 2 = .bptr 0 2 0 0 ∧ s.tmps 3 = .bptr 0 3 0 0 ∧ s.boxes 2 = some (0,dcl D q) ∧ s.boxes 3 = some (0,evq X q) ∧ s.defers = [] ∧ s.fid = 0)
    (fun s0 ex s => s.defers = [] ∧ s.fid = 0 ∧ ((ex = .exit 0 ∧ WVS D.hours D.rs.length D.fs.length (-1) X.ws ∧ s.tmps 2 = .bptr 0 2 0 0 ∧ s.tmps 3 = .bptr 0 3 0 0 ∧ s.boxes 2 = some (0,dcl D q) ∧ s.boxes 3 = some (0,evq X q)) ∨
      (ex = .ret ∧ (¬ WVS D.hours D.rs.length D.fs.length (-1) X.ws) ∧ s.tmps 4 = I 480))) 0
    (by simp (maxSteps:=999999) only [E0,seval,-Int.reduceNatCast']; exact ⟨Nat.zero_le _,⟨_,rfl,by simp⟩,by simp⟩) (by
      rintro j s r hW ⟨hj,⟨last,h5,hiff⟩,h30,h29,h28,q2,q3,b2,b3,hd,hf⟩
      by_cases hp : j < X.ws.length
      · have e0 : X.ws[j]? = some X.ws[j]:=List.getElem?_eq_getElem hp
        have e1:=map_get (f:=wav) e0
        generalize X.ws[j] = w at *
        have hm : w ∈ X.ws:=List.mem_of_getElem? e0
        obtain ⟨m1,m2,m3⟩:=hb w hm
        have r1:=c_rt w.hs none D.rs.length m1
        have r2:=c_rt w.os none D.fs.length m2
        have r3:=c_rt w.ts none D.rs.length m3
        rw [drop_cons e0] at hiff
        obtain ⟨bv,hbv⟩ : ∃ bv,nextVer (s.boxes 7) = bv:=⟨_,rfl⟩
        have lt : (j : Int) < X.ws.length:=by omega
        have bad : ∀ {r : Option (Ex × St)} {s' : St},¬ WVS D.hours D.rs.length D.fs.length last (w :: X.ws.drop (j + 1)) → s'.defers = [] → s'.fid = 0 → s'.tmps 4 = I 480 → True:=fun _ _ _ _ => trivial
        by_cases u1 : w.hour ≤ last
        · simp (maxSteps:=999999) only [E0,seval,-Int.reduceNatCast',NUM,h5,h30,h29,h28,q2,q3,b2,b3,hbv,hd,hf,e1,u1,lt,List.length_map,Int.toNat_natCast,(show (0 : Int) ≤ j by omega)] at hW
          subst hW
          refine rd_ret ⟨?_,?_,.inr ⟨rfl,fun g => ?_,?_⟩⟩ <;> try simp (maxSteps:=999999) only [E0,seval,-Int.reduceNatCast',hd,hf]
          have:=(hiff.1 g).1.1; omega
        by_cases u2 : D.hours ≤ w.hour
        · simp (maxSteps:=999999) only [E0,seval,-Int.reduceNatCast',NUM,h5,h30,h29,h28,q2,q3,b2,b3,hbv,hd,hf,e1,u1,u2,lt,List.length_map,Int.toNat_natCast,(show (0 : Int) ≤ j by omega)] at hW
          subst hW
          refine rd_ret ⟨?_,?_,.inr ⟨rfl,fun g => ?_,?_⟩⟩ <;> try simp (maxSteps:=999999) only [E0,seval,-Int.reduceNatCast',hd,hf]
          have:=(hiff.1 g).1.2; omega
        by_cases u3 : RGS w.hs D.rs.length
        rotate_left
        · simp (maxSteps:=999999) only [E0,seval,-Int.reduceNatCast',NUM,SRG,r1,h5,h30,h29,h28,q2,q3,b2,b3,hbv,hd,hf,e1,u1,u2,u3,lt,List.length_map,Int.toNat_natCast,(show (0 : Int) ≤ j by omega)] at hW
          subst hW
          refine rd_ret ⟨?_,?_,.inr ⟨rfl,fun g => ?_,?_⟩⟩ <;> try simp (maxSteps:=999999) only [E0,seval,-Int.reduceNatCast',hd,hf]
          exact u3 (hiff.1 g).2.1
        by_cases u4 : RGS w.os D.fs.length
        rotate_left
        · simp (maxSteps:=999999) only [E0,seval,-Int.reduceNatCast',NUM,SRG,r1,r2,h5,h30,h29,h28,q2,q3,b2,b3,hbv,hd,hf,e1,u1,u2,u3,u4,lt,List.length_map,Int.toNat_natCast,(show (0 : Int) ≤ j by omega)] at hW
          subst hW
          refine rd_ret ⟨?_,?_,.inr ⟨rfl,fun g => ?_,?_⟩⟩ <;> try simp (maxSteps:=999999) only [E0,seval,-Int.reduceNatCast',hd,hf]
          exact u4 (hiff.1 g).2.2.1
        by_cases u5 : RGS w.ts D.rs.length
        rotate_left
        · simp (maxSteps:=999999) only [E0,seval,-Int.reduceNatCast',NUM,SRG,r1,r2,r3,h5,h30,h29,h28,q2,q3,b2,b3,hbv,hd,hf,e1,u1,u2,u3,u4,u5,lt,List.length_map,Int.toNat_natCast,(show (0 : Int) ≤ j by omega)] at hW
          subst hW
          refine rd_ret ⟨?_,?_,.inr ⟨rfl,fun g => ?_,?_⟩⟩ <;> try simp (maxSteps:=999999) only [E0,seval,-Int.reduceNatCast',hd,hf]
          exact u5 (hiff.1 g).2.2.2.1
        simp (maxSteps:=999999) only [E0,seval,-Int.reduceNatCast',NUM,SRG,r1,r2,r3,h5,h30,h29,h28,q2,q3,b2,b3,hbv,hd,hf,e1,u1,u2,u3,u4,u5,lt,List.length_map,Int.toNat_natCast,(show (0 : Int) ≤ j by omega),(i64_in (x:=(j : Int) + 1) (by unfold I64; omega))] at hW
        subst hW
        refine rd_next (j + 1) ?_ (show X.ws.length - (j + 1) < X.ws.length - j by omega)
        simp (maxSteps:=999999) only [E0,seval,-Int.reduceNatCast',h29,h28,q2,q3,b2,b3,hd]
        refine ⟨by omega,⟨w.hour,rfl,?_⟩,by simp⟩
        rw [hiff]
        exact ⟨fun g => g.2.2.2.2,fun g => ⟨⟨by omega,by omega⟩,u3,u4,u5,g⟩⟩
      · simp (maxSteps:=999999) only [E0,seval,-Int.reduceNatCast',NUM,List.length_map,h30,h29,hd,hf,(show ¬ (j : Int) < X.ws.length by omega)] at hW
        subst hW
        rw [List.drop_eq_nil_of_le (by omega)] at hiff
        exact rd_exit ⟨by simp (maxSteps:=999999) only [E0,seval,-Int.reduceNatCast',hd],by simp (maxSteps:=999999) only [E0,seval,-Int.reduceNatCast',hf],.inl ⟨rfl,hiff.2 trivial,by simp (maxSteps:=999999) only [E0,seval,-Int.reduceNatCast',q2],by simp (maxSteps:=999999) only [E0,seval,-Int.reduceNatCast',q3],by simp (maxSteps:=999999) only [E0,seval,-Int.reduceNatCast',b2],by simp (maxSteps:=999999) only [E0,seval,-Int.reduceNatCast',b3]⟩⟩)
  rcases hex with ⟨rfl,hg,q2,q3,b2,b3⟩ | ⟨rfl,hg,h4⟩
  rotate_left
  · simp (maxSteps:=999999) only [E0,seval,-Int.reduceNatCast',hd,hf,h4]
    exact ⟨_,rfl,fun g => absurd g (by decide),fun g => absurd g.2.2.2.1 hg⟩
  obtain ⟨nx,hnx⟩ : ∃ nx,s.H.next = nx:=⟨_,rfl⟩
  obtain ⟨v9,hv9⟩ : ∃ v9,nextVer (s.boxes 9) = v9:=⟨_,rfl⟩
  simp (maxSteps:=999999) only [E0,seval,-Int.reduceNatCast',NUM,MAPI,upd_first,aset4,SRCH,hv9,hd,hf,q2,q3,b2,b3,hnx,List.length_map]
  generalize hL : W _ (.loop _) _ = L
  obtain ⟨ex,s,rfl,hd,hex⟩:=loop_at hL (α:=Nat) (fun k => X.ss.length - k)
    (fun s0 j s => j ≤ X.ss.length ∧ (∃ k i,s.boxes 9 = some (v9,[I k,I i]) ∧ (SSO D.rs.length D.fs.length 0 (-1) X.ss ↔ SSO D.rs.length D.fs.length k i (X.ss.drop j))) ∧ s.tmps 93 = I j ∧ s.tmps 92 = I X.ss.length ∧ s.tmps 91 = .vs 3 (X.ss.map sus) q.s ∧
      s.tmps 8 = .map nx ∧ s.tmps 9 = .bptr 0 9 v9 0 ∧ s.H.rows nx = some (.map (kmap (PV.int .i64) (mmap D.rs.length D.fs.length))) ∧ s.defers = [] ∧ s.fid = 0)
    (fun s0 ex s => s.defers = [] ∧ ((ex = .exit 2 ∧ SSO D.rs.length D.fs.length 0 (-1) X.ss) ∨ (ex = .ret ∧ (¬ SSO D.rs.length D.fs.length 0 (-1) X.ss) ∧ s.tmps 4 = I 480))) 0
    (by simp (maxSteps:=999999) only [E0,seval,-Int.reduceNatCast']; exact ⟨Nat.zero_le _,⟨0,-1,rfl,by simp⟩,by simp⟩) (by
      rintro j s r hW ⟨hj,⟨k,i,b9,hiff⟩,h93,h92,h91,q8,q9,hrow,hd,hf⟩
      by_cases hp : j < X.ss.length
      · have e0 : X.ss[j]? = some X.ss[j]:=List.getElem?_eq_getElem hp
        have e1:=map_get (f:=sus) e0
        generalize X.ss[j] = y at *
        rw [drop_cons e0] at hiff
        obtain ⟨bv,hbv⟩ : ∃ bv,nextVer (s.boxes 11) = bv:=⟨_,rfl⟩
        have lt : (j : Int) < X.ss.length:=by omega
        by_cases u1 : y.ix < 0
        · simp (maxSteps:=999999) only [E0,seval,-Int.reduceNatCast',NUM,MAPI,mmap_get,h93,h92,h91,q8,q9,b9,hrow,hbv,hd,hf,e1,lt,List.length_map,Int.toNat_natCast,(show (0 : Int) ≤ j by omega),u1] at hW
          subst hW
          refine rd_ret ⟨?_,.inr ⟨rfl,fun g => ?_,?_⟩⟩ <;> try simp (maxSteps:=999999) only [E0,seval,-Int.reduceNatCast',hd,hf]
          have:=(hiff.1 g).1.1; omega
        by_cases u2 : MANY D.rs.length D.fs.length y.kd ≤ y.ix
        · simp (maxSteps:=999999) only [E0,seval,-Int.reduceNatCast',NUM,MAPI,mmap_get,h93,h92,h91,q8,q9,b9,hrow,hbv,hd,hf,e1,lt,List.length_map,Int.toNat_natCast,(show (0 : Int) ≤ j by omega),u1,u2] at hW
          subst hW
          refine rd_ret ⟨?_,.inr ⟨rfl,fun g => ?_,?_⟩⟩ <;> try simp (maxSteps:=999999) only [E0,seval,-Int.reduceNatCast',hd,hf]
          have:=(hiff.1 g).1.2; omega
        by_cases u3 : y.mo < 1
        · simp (maxSteps:=999999) only [E0,seval,-Int.reduceNatCast',NUM,MAPI,mmap_get,h93,h92,h91,q8,q9,b9,hrow,hbv,hd,hf,e1,lt,List.length_map,Int.toNat_natCast,(show (0 : Int) ≤ j by omega),u1,u2,u3] at hW
          subst hW
          refine rd_ret ⟨?_,.inr ⟨rfl,fun g => ?_,?_⟩⟩ <;> try simp (maxSteps:=999999) only [E0,seval,-Int.reduceNatCast',hd,hf]
          have:=(hiff.1 g).2.1.1; omega
        by_cases u4 : 1073741824 < y.mo
        · simp (maxSteps:=999999) only [E0,seval,-Int.reduceNatCast',NUM,MAPI,mmap_get,h93,h92,h91,q8,q9,b9,hrow,hbv,hd,hf,e1,lt,List.length_map,Int.toNat_natCast,(show (0 : Int) ≤ j by omega),u1,u2,u3,u4] at hW
          subst hW
          refine rd_ret ⟨?_,.inr ⟨rfl,fun g => ?_,?_⟩⟩ <;> try simp (maxSteps:=999999) only [E0,seval,-Int.reduceNatCast',hd,hf]
          have:=(hiff.1 g).2.1.2; omega
        by_cases u5 : y.kd < k
        · simp (maxSteps:=999999) only [E0,seval,-Int.reduceNatCast',NUM,MAPI,mmap_get,h93,h92,h91,q8,q9,b9,hrow,hbv,hd,hf,e1,lt,List.length_map,Int.toNat_natCast,(show (0 : Int) ≤ j by omega),u1,u2,u3,u4,u5] at hW
          subst hW
          refine rd_ret ⟨?_,.inr ⟨rfl,fun g => ?_,?_⟩⟩ <;> try simp (maxSteps:=999999) only [E0,seval,-Int.reduceNatCast',hd,hf]
          have:=(hiff.1 g).2.2.1; omega
        by_cases u6 : y.kd = k ∧ y.ix ≤ i
        · obtain ⟨u6,u7⟩:=u6
          subst u6
          simp (maxSteps:=999999) only [E0,seval,-Int.reduceNatCast',NUM,MAPI,mmap_get,h93,h92,h91,q8,q9,b9,hrow,hbv,hd,hf,e1,lt,List.length_map,Int.toNat_natCast,(show (0 : Int) ≤ j by omega),u1,u2,u3,u4,u5,u7,(show ¬ y.kd < y.kd by omega)] at hW
          subst hW
          refine rd_ret ⟨?_,.inr ⟨rfl,fun g => ?_,?_⟩⟩ <;> try simp (maxSteps:=999999) only [E0,seval,-Int.reduceNatCast',hd,hf]
          have:=(hiff.1 g).2.2.1; omega
        have fin : SSO D.rs.length D.fs.length 0 (-1) X.ss ↔ SSO D.rs.length D.fs.length y.kd y.ix (X.ss.drop (j + 1)):=by
          rw [hiff]
          exact ⟨fun g => g.2.2.2,fun g => ⟨⟨by omega,by omega⟩,⟨by omega,by omega⟩,by omega,g⟩⟩
        by_cases u7 : y.kd = k
        · have u8 : ¬ y.ix ≤ i:=fun g => u6 ⟨u7,g⟩
          subst u7
          simp (maxSteps:=999999) only [E0,seval,-Int.reduceNatCast',NUM,MAPI,mmap_get,h93,h92,h91,q8,q9,b9,hrow,hbv,hd,hf,e1,lt,List.length_map,Int.toNat_natCast,(show (0 : Int) ≤ j by omega),u1,u2,u3,u4,u5,u8,(show ¬ y.kd < y.kd by omega),(i64_in (x:=(j : Int) + 1) (by unfold I64; omega))] at hW
          subst hW
          refine rd_next (j + 1) ?_ (show X.ss.length - (j + 1) < X.ss.length - j by omega)
          simp (maxSteps:=999999) only [E0,seval,-Int.reduceNatCast',h92,h91,q8,q9,hrow,hd]
          exact ⟨by omega,⟨y.kd,y.ix,rfl,fin⟩,by simp⟩
        · simp (maxSteps:=999999) only [E0,seval,-Int.reduceNatCast',NUM,MAPI,mmap_get,h93,h92,h91,q8,q9,b9,hrow,hbv,hd,hf,e1,lt,List.length_map,Int.toNat_natCast,(show (0 : Int) ≤ j by omega),u1,u2,u3,u4,u5,u7,(i64_in (x:=(j : Int) + 1) (by unfold I64; omega))] at hW
          subst hW
          refine rd_next (j + 1) ?_ (show X.ss.length - (j + 1) < X.ss.length - j by omega)
          simp (maxSteps:=999999) only [E0,seval,-Int.reduceNatCast',h92,h91,q8,q9,hrow,hd]
          exact ⟨by omega,⟨y.kd,y.ix,rfl,fin⟩,by simp⟩
      · simp (maxSteps:=999999) only [E0,seval,-Int.reduceNatCast',NUM,List.length_map,h93,h92,hd,hf,(show ¬ (j : Int) < X.ss.length by omega)] at hW
        subst hW
        rw [List.drop_eq_nil_of_le (by omega)] at hiff
        exact rd_exit ⟨by simp (maxSteps:=999999) only [E0,seval,-Int.reduceNatCast',hd],.inl ⟨rfl,hiff.2 trivial⟩⟩)
  rcases hex with ⟨rfl,hs⟩ | ⟨rfl,hs,h4⟩
  · simp (maxSteps:=999999) only [E0,seval,-Int.reduceNatCast',hd]
    exact ⟨_,rfl,fun _ => ⟨hX,by omega,by omega,hg,hs⟩,fun _ => rfl⟩
  · simp (maxSteps:=999999) only [E0,seval,-Int.reduceNatCast',hd,h4]
    exact ⟨_,rfl,fun g => absurd g (by decide),fun g => absurd g.2.2.2.2 hs⟩
end
def RV (cl : List Int) (v : PV) : Prop:=(∃ c,v = .vs 1 (cl.map I) c) ∨ (cl = [] ∧ v = .nils)
theorem RV_vs (cl : List Int) (c : Option Nat) : RV cl (.vs 1 (cl.map I) c):=.inl ⟨c,rfl⟩
theorem RVS {cl : List Int} {v : PV} (h : RV cl v) : (strip0 v = v ∧ (∀ H,strip1 H v = v) ∧ (∀ H,strip2 H v = v)) ∧ ((∀ H,freezeArg H v = (v,H)) ∧ (∀ H,freezeArg0 H v = (v,H))) ∧ (PV.fits v 1 = true ∧ PV.cells v = [v]) ∧ lenK (some (.slice 3)) v = some (I cl.length):=by
  rcases h with ⟨c,rfl⟩ | ⟨rfl,rfl⟩
  · have s0 : strip0 (.vs 1 (cl.map I) c) = .vs 1 (cl.map I) c:=by show PV.vs 1 (strip0L (cl.map I)) c = _; rw [strip0_ints]
    refine ⟨⟨s0,fun H => ?_,fun H => ?_⟩,⟨fun H => ?_,fun H => ?_⟩,⟨rfl,rfl⟩,by rw [lenK_vs,List.length_map]⟩
    · show PV.vs 1 (strip1L H (cl.map I)) c = _; rw [strip1_ints]
    · show PV.vs 1 (strip2L H (cl.map I)) c = _; rw [strip2_ints]
    · show (strip0 (.vs 1 (cl.map I) c),H) = _; rw [s0]
    · show (strip0 (.vs 1 (cl.map I) c),H) = _; rw [s0]
  · exact ⟨⟨rfl,fun _ => rfl,fun _ => rfl⟩,⟨fun _ => rfl,fun _ => rfl⟩,⟨rfl,rfl⟩,rfl⟩
abbrev plc (p : Int × Int) : PV:=.agg [I p.1,I p.2]
theorem eqv_plc (x y : Int × Int) (n : Nat) : eqPV Tryz.prog (n + 9) 123 (plc x) (plc y) = some (decide (x = y)):=by
  have g2 : Tryz.prog.stoodInHeld 123 = false:=by kernel_rfl
  obtain ⟨a,b⟩:=x
  obtain ⟨a',b'⟩:=y
  simp only [eqPV,Tryz.underlying123,g2,eqFs,partPV,FA,Option.bind_some,Bool.false_eq_true,if_false,List.getElem?_cons_zero,List.getElem?_cons_succ,if_true,String.reduceEq]
  by_cases h1 : a = a'
  case neg => simp [h1]
  by_cases h2 : b = b' <;> simp [h1,h2]
theorem keyT_plc : KeyT Tryz.prog 123 plc:=by
  refine ⟨fun k => ?_,fun a b => ?_,fun a => ?_⟩
  · rfl
  · exact eqv_plc a b 9991
  · simp [plainEq,plainC,plainL]
theorem keyChk_plc (a b : Int) : keyChk Tryz.prog 123 (.agg [I a,I b]) = true:=keyT_plc.chk (a,b)
theorem look_plc (s : St) (z : PV) (ok : Bool) (a b : Int) (m : List ((Int × Int) × PV)) : lookF s z ok (findPV Tryz.prog 123 (.agg [I a,I b]) (kmap plc m) 0) = some (.val (lookA z ok (aget m (a,b))) s):=lookF_kmap keyT_plc s z ok (a,b) m
theorem upd_plc (s : St) (id : Nat) (a b : Int) (v : PV) (m : List ((Int × Int) × PV)) : updG s id (.agg [I a,I b]) v (kmap plc m) (findPV Tryz.prog 123 (.agg [I a,I b]) (kmap plc m) 0) = updF s id (some (kmap plc (aset m (a,b) v))):=updG_kmap keyT_plc s id (a,b) v m
theorem MAPP : type_of% @keyChk_plc ∧ type_of% @look_plc ∧ type_of% @upd_plc ∧ type_of% lookA_some ∧ type_of% lookA_none:=⟨@keyChk_plc,@look_plc,@upd_plc,lookA_some,lookA_none⟩
def BLs (ss : List Sus) (p : Int × Int) (b : Option Int) (j : Int) : Option Int:=match ss[j.toNat]? with
  | some s => if p = (s.kd,s.ix) then some s.mo else b
  | none => b
def BL (ss : List Sus) (set : List Int) (p : Int × Int) : Option Int:=set.foldl (BLs ss p) none
def SOK (m : Int) : Int → List Int → Prop
  | _,[] => True
  | last,x :: r => last < x ∧ x < m ∧ SOK m x r
def BLM (ss : List Sus) (set : List Int) (mm : List ((Int × Int) × PV)) : Prop:=∀ p,aget mm p = (BL ss set p).map I
theorem BLM_step {ss : List Sus} {set : List Int} {j : Nat} {x : Int} {y : Sus} {mm : List ((Int × Int) × PV)} (h : BLM ss (set.take j) mm) (e : set[j]? = some x) (ey : ss[x.toNat]? = some y) : BLM ss (set.take (j + 1)) (aset mm (y.kd,y.ix) (I y.mo)):=by
  intro p
  rw [aget_aset,List.take_add_one,e]
  show _ = (List.foldl (BLs ss p) none (List.take j set ++ [x])).map I
  rw [List.foldl_append]
  simp only [List.foldl_cons,List.foldl_nil]
  have hp:=h p
  unfold BL at hp
  unfold BLs at hp ⊢
  rw [ey]
  simp only
  split
  · rfl
  · exact hp
section
variable {D : Dis} (hr : ∀ x ∈ D.rs,x.OK) {X : Evd} {q : Cps} (hv : DV D q.cs q.gs q.ds q.ws) (hb : ∀ w ∈ X.ws,w.hs.length ≤ 1000000 ∧ w.os.length ≤ 1000000 ∧ w.ts.length ≤ 1000000)
include hr hv hb
abbrev inq (D : Dis) (X : Evd) (q : Cps) (id : Nat) : List PV:=[.str D.nm,I D.hours,I D.cap,I D.start,.vs 12 (D.rs.map rch) q.r,.vs 4 (D.fs.map frm) q.f,q.cs,q.gs,q.ds,q.ws,.vs 4 (X.ws.map wav) q.w,.vs 3 (X.ss.map sus) q.s,.map id]
set_option maxHeartbeats 8000000 in
theorem c_ask (set : List Int) (v : PV) (hs : RV set v) (hl : set.length ≤ 1000000) (H : Heap) (R : Option (CR × Heap))
    (hX : callF G Tryz.prog pol 18 [.agg (dcl D q),.agg (evq X q),v] H = R) :
    ∃ H' c w,R = some (.ret (.tup [w,I c]),H') ∧ (∀ i < H.next,H'.rows i = H.rows i) ∧ H.next < H'.next ∧ ((c ≠ 0 ∧ ¬ (EOK D X ∧ SOK X.ss.length (-1) set) ∧ ∃ cs,w = .agg cs ∧ cs.length = 13) ∨
      (c = 0 ∧ EOK D X ∧ SOK X.ss.length (-1) set ∧ ∃ mm,w = .agg (inq D X q (H.next + 1)) ∧ H'.rows (H.next + 1) = some (.map (kmap plc mm)) ∧ H.next + 1 < H'.next ∧ BLM X.ss set mm)):=by
  subst hX
  obtain ⟨c,ec,hc⟩:=c_evcheck hr hv hb
  have rv:=RVS hs
  rw [callF_eq _ _ Tryz.func18 rfl Tryz.ntmps18 Tryz.results18 (by kernel_rfl) rfl (by exact Nat.le_of_ble_eq_true rfl)]
  by_cases h0 : c = 0
  rotate_left
  · simp (maxSteps:=999999) only [E0,seval,-Int.reduceNatCast',NUM,SRCH,SFRM,SCRP,SRGT,SDTY,SWAV,SSUS,hv.st,ec,h0]
    refine ⟨_,c,_,rfl,fun i hi => rfl,by simp (maxSteps:=999999) only [E0,seval,-Int.reduceNatCast']; omega,.inl ⟨h0,fun g => h0 (hc.2 g.1),_,rfl,rfl⟩⟩
  have hE:=hc.1 h0
  subst h0
  simp (maxSteps:=999999) only [E0,seval,-Int.reduceNatCast',NUM,SRCH,SFRM,SCRP,SRGT,SDTY,SWAV,SSUS,hv.st,ec,rv]
  generalize hL : W _ (.loop _) _ = L
  obtain ⟨ex,s,rfl,hd,hf,hfr,hnx,t6,b6,mm,hrow,hex⟩:=loop_at hL (α:=Nat) (fun k => set.length - k)
    (fun s0 j s => j ≤ set.length ∧ (∃ last,s.tmps 8 = I last ∧ (-1 ≤ last) ∧ (SOK X.ss.length (-1) set ↔ SOK X.ss.length last (set.drop j))) ∧ (∃ mm,s.H.rows (H.next + 1) = some (.map (kmap plc mm)) ∧ BLM X.ss (set.take j) mm) ∧ s.tmps 25 = I j ∧ s.tmps 24 = I set.length ∧ s.tmps 23 = v ∧
      s.tmps 4 = .bptr H.next 4 0 0 ∧ s.boxes 4 = some (0,evq X q) ∧ s.tmps 6 = .bptr H.next 6 0 0 ∧ s.boxes 6 = some (0,inq D X q (H.next + 1)) ∧ (∀ i < H.next,s.H.rows i = H.rows i) ∧ H.next + 1 < s.H.next ∧ s.defers = [] ∧ s.fid = H.next)
    (fun s0 ex s => s.defers = [] ∧ s.fid = H.next ∧ (∀ i < H.next,s.H.rows i = H.rows i) ∧ H.next + 1 < s.H.next ∧ s.tmps 6 = .bptr H.next 6 0 0 ∧ s.boxes 6 = some (0,inq D X q (H.next + 1)) ∧ ∃ mm,s.H.rows (H.next + 1) = some (.map (kmap plc mm)) ∧
      ((ex = .exit 0 ∧ SOK X.ss.length (-1) set ∧ BLM X.ss set mm) ∨ (ex = .ret ∧ (¬ SOK X.ss.length (-1) set) ∧ s.tmps 7 = I 480))) 0
    (by simp (maxSteps:=999999) only [E0,seval,-Int.reduceNatCast']
        refine ⟨Nat.zero_le _,⟨-1,rfl,by omega,by simp⟩,⟨[],rfl,fun p => rfl⟩,by simp,fun i hi => ?_,by omega⟩
        simp (maxSteps:=999999) only [E0,seval,-Int.reduceNatCast',(show ¬ i = H.next + 1 by omega)]) (by
      rintro j s r hW ⟨hj,⟨last,h8,hl1,hiff⟩,⟨mm,hrow,hB⟩,h25,h24,h23,q4,b4,q6,b6,hfr,hnx,hd,hf⟩
      by_cases hp : j < set.length
      · have e0 : set[j]? = some set[j]:=List.getElem?_eq_getElem hp
        have e1:=map_get (f:=I) e0
        generalize set[j] = x at *
        obtain ⟨cc,hc'⟩ : ∃ cc,v = .vs 1 (set.map I) cc:=by
          rcases hs with h | ⟨h,_⟩
          · exact h
          · rw [h] at hp; simp at hp
        rw [hc'] at h23
        rw [drop_cons e0] at hiff
        obtain ⟨bv,hbv⟩ : ∃ bv,nextVer (s.boxes 11) = bv:=⟨_,rfl⟩
        have lt : (j : Int) < set.length:=by omega
        have bad : ¬ (last < x ∧ x < X.ss.length) → ¬ SOK X.ss.length (-1) set:=fun g h => g ⟨(hiff.1 h).1,(hiff.1 h).2.1⟩
        by_cases u1 : x ≤ last
        · simp (maxSteps:=999999) only [E0,seval,-Int.reduceNatCast',NUM,h8,h25,h24,h23,q4,b4,q6,b6,hbv,hd,hf,e1,u1,lt,List.length_map,Int.toNat_natCast,(show (0 : Int) ≤ j by omega)] at hW
          subst hW
          refine rd_ret ⟨?_,?_,?_,?_,?_,?_,mm,?_,.inr ⟨rfl,bad (by omega),?_⟩⟩ <;> simp (maxSteps:=999999) only [E0,seval,-Int.reduceNatCast',hd,hf,q6,b6,hrow]
          · exact hfr
          · exact hnx
        by_cases u2 : (X.ss.length : Int) ≤ x
        · simp (maxSteps:=999999) only [E0,seval,-Int.reduceNatCast',NUM,h8,h25,h24,h23,q4,b4,q6,b6,hbv,hd,hf,e1,u1,u2,lt,List.length_map,Int.toNat_natCast,(show (0 : Int) ≤ j by omega)] at hW
          subst hW
          refine rd_ret ⟨?_,?_,?_,?_,?_,?_,mm,?_,.inr ⟨rfl,bad (by omega),?_⟩⟩ <;> simp (maxSteps:=999999) only [E0,seval,-Int.reduceNatCast',hd,hf,q6,b6,hrow]
          · exact hfr
          · exact hnx
        have hx0 : x.toNat < X.ss.length:=by omega
        have f0 : X.ss[x.toNat]? = some X.ss[x.toNat]:=List.getElem?_eq_getElem hx0
        have f1:=map_get (f:=sus) f0
        generalize X.ss[x.toNat] = y at *
        have step:=BLM_step hB e0 f0
        simp (maxSteps:=999999) only [E0,seval,-Int.reduceNatCast',NUM,MAPP,h8,h25,h24,h23,q4,b4,q6,b6,hrow,hbv,hd,hf,e1,f1,u1,u2,lt,List.length_map,Int.toNat_natCast,(show (0 : Int) ≤ j by omega),(show (0 : Int) ≤ x by omega),(show x < (X.ss.length : Int) by omega),(i64_in (x:=(j : Int) + 1) (by unfold I64; omega))] at hW
        subst hW
        refine rd_next (j + 1) ?_ (show set.length - (j + 1) < set.length - j by omega)
        simp (maxSteps:=999999) only [E0,seval,-Int.reduceNatCast',h24,h23,q4,b4,q6,b6,hd]
        refine ⟨by omega,⟨x,rfl,by omega,?_⟩,⟨_,rfl,step⟩,by simp,hc'.symm,fun i hi => ?_,hnx⟩
        · rw [hiff]
          exact ⟨fun g => g.2.2,fun g => ⟨by omega,by omega,g⟩⟩
        · simp (maxSteps:=999999) only [E0,seval,-Int.reduceNatCast',(show ¬ i = H.next + 1 by omega)]
          exact hfr i hi
      · simp (maxSteps:=999999) only [E0,seval,-Int.reduceNatCast',NUM,List.length_map,h25,h24,hd,hf,(show ¬ (j : Int) < set.length by omega)] at hW
        subst hW
        rw [List.drop_eq_nil_of_le (by omega)] at hiff
        rw [List.take_of_length_le (by omega)] at hB
        refine rd_exit ⟨?_,?_,?_,?_,?_,?_,mm,?_,.inl ⟨rfl,hiff.2 trivial,hB⟩⟩ <;> simp (maxSteps:=999999) only [E0,seval,-Int.reduceNatCast',hd,hf,q6,b6,hrow]
        · exact hfr
        · exact hnx)
  rcases hex with ⟨rfl,hg,hB⟩ | ⟨rfl,hg,h7⟩
  · simp (maxSteps:=999999) only [E0,seval,-Int.reduceNatCast',hd,hf,t6,b6]
    exact ⟨_,0,_,rfl,hfr,by omega,.inr ⟨rfl,hE,hg,mm,rfl,hrow,hnx,hB⟩⟩
  · simp (maxSteps:=999999) only [E0,seval,-Int.reduceNatCast',hd,hf,t6,b6,h7]
    exact ⟨_,480,_,rfl,hfr,by omega,.inl ⟨by decide,fun g => hg g.2,_,rfl,rfl⟩⟩
end
def MT (ss : List Sus) (set : List Int) (k i : Int) (p : Int × Int) : Int × Int:=match BL ss set (k,i) with
  | some n => (0,max n p.2)
  | none => p
structure INQ (X : Evd) (set : List Int) (id : Nat) (H : Heap) : Prop where
  row : ∃ mm,H.rows id = some (.map (kmap plc mm)) ∧ BLM X.ss set mm
  lt : id < H.next
theorem INQ.mono {X : Evd} {set : List Int} {id : Nat} {H H' : Heap} (h : INQ X set id H) (hr : H'.rows id = H.rows id) (hn : H.next ≤ H'.next) : INQ X set id H':=
  ⟨by rw [hr]; exact h.row,Nat.lt_of_lt_of_le h.lt hn⟩
theorem c_meter (D : Dis) (X : Evd) (q : Cps) (set : List Int) (id : Nat) (k i a b : Int) (H : Heap) (h : INQ X set id H) :
    callF G Tryz.prog pol 54 [.agg (inq D X q id),I k,I i,.agg [I a,I b]] H = some (.ret (.agg [I (MT X.ss set k i (a,b)).1,I (MT X.ss set k i (a,b)).2]),⟨H.rows,H.next + 1⟩):=by
  obtain ⟨mm,hrow,hB⟩:=h.row
  have hg:=hB (k,i)
  unfold MT
  rw [callF_eq _ _ Tryz.func54 rfl Tryz.ntmps54 Tryz.results54 (by kernel_rfl) rfl (by exact Nat.le_of_ble_eq_true rfl)]
  cases hb : BL X.ss set (k,i) with
  | none =>
    rw [hb] at hg
    simp (maxSteps:=999999) only [E0,seval,-Int.reduceNatCast',MAPP,hrow,hg,Option.map_none]
  | some n =>
    rw [hb] at hg
    simp (maxSteps:=999999) only [E0,seval,-Int.reduceNatCast',MAPP,hrow,hg,Option.map_some]
def INR (ss : List Sus) (set : List Int) (kd : Int) (l : List Int) (rs : List (Int × Int)) : Prop:=l.length = rs.length ∧ ALLI (fun i x => ∀ p,rs[i]? = some p → (MT ss set kd i p).1 ≤ x ∧ x ≤ (MT ss set kd i p).2) l
noncomputable instance (ss : List Sus) (set : List Int) (kd : Int) (l : List Int) (rs : List (Int × Int)) : Decidable (INR ss set kd l rs):=Classical.propDecidable _
set_option maxHeartbeats 4000000 in
theorem c_inr (D : Dis) (X : Evd) (q : Cps) (set : List Int) (id : Nat) (kd : Int) (l : List Int) (rs : List (Int × Int)) (c c' : Option Nat) (hl : rs.length ≤ 1000000) (H : Heap) (h : INQ X set id H) (R : Option (CR × Heap))
    (hX : callF G Tryz.prog pol 40 [.agg (inq D X q id),I kd,.vs 1 (l.map I) c,.vs 2 (rs.map rg) c'] H = R) :
    ∃ n,R = some (.ret (.bool (decide (INR X.ss set kd l rs))),⟨H.rows,n⟩) ∧ H.next ≤ n:=by
  subst hX
  rw [callF_eq _ _ Tryz.func40 rfl Tryz.ntmps40 Tryz.results40 (by kernel_rfl) rfl (by exact Nat.le_of_ble_eq_true rfl)]
  by_cases h0 : l.length = rs.length
  rotate_left
  · rw [decide_eq_false (fun g => h0 g.1)]
    simp (maxSteps:=999999) only [E0,seval,-Int.reduceNatCast',NUM,List.length_map,(show ¬ (l.length : Int) = rs.length by omega)]
    exact ⟨_,rfl,by omega⟩
  simp (maxSteps:=999999) only [E0,seval,-Int.reduceNatCast',NUM,List.length_map,h0]
  generalize hL : W _ (.loop _) _ = L
  obtain ⟨ex,s,rfl,hd,hf,hrows,hnx,hex⟩:=loop_at hL (α:=Nat) (fun k => rs.length - k)
    (fun s0 j s => j ≤ rs.length ∧ ALLI (fun i x => ∀ p,rs[i]? = some p → (MT X.ss set kd i p).1 ≤ x ∧ x ≤ (MT X.ss set kd i p).2) (l.take j) ∧ s.tmps 19 = I j ∧ s.tmps 18 = I rs.length ∧ s.tmps 17 = .vs 1 (l.map I) c ∧ s.tmps 1 = I kd ∧ s.tmps 3 = .vs 2 (rs.map rg) c' ∧
      s.tmps 4 = .bptr H.next 4 0 0 ∧ s.boxes 4 = some (0,inq D X q id) ∧ s.H.rows = H.rows ∧ H.next ≤ s.H.next ∧ s.defers = [] ∧ s.fid = H.next)
    (fun s0 ex s => s.defers = [] ∧ s.fid = H.next ∧ s.H.rows = H.rows ∧ H.next ≤ s.H.next ∧ ((ex = .exit 0 ∧ INR X.ss set kd l rs) ∨ (ex = .ret ∧ (¬ INR X.ss set kd l rs) ∧ s.tmps 8 = .bool false))) 0
    (by simp (maxSteps:=999999) only [E0,seval,-Int.reduceNatCast']; exact ⟨Nat.zero_le _,fun i x h => by simp at h,by simp,by omega⟩) (by
      rintro j s r hW ⟨hj,hA,h19,h18,h17,h1,h3,h4,b4,hrows,hnx,hd,hf⟩
      by_cases hp : j < rs.length
      · have e0 : l[j]? = some (l[j]'(by omega)):=List.getElem?_eq_getElem _
        have f0 : rs[j]? = some rs[j]:=List.getElem?_eq_getElem hp
        have e1:=map_get (f:=I) e0
        have f1:=map_get (f:=rg) f0
        generalize l[j]'(by omega) = x at *
        generalize rs[j] = p at *
        have hI:=h.mono (H':=s.H) (by rw [hrows]) hnx
        have cm:=c_meter D X q set id kd j p.1 p.2 s.H hI
        obtain ⟨bv,hbv⟩ : ∃ bv,nextVer (s.boxes 11) = bv:=⟨_,rfl⟩
        have lt : (j : Int) < rs.length:=by omega
        have ep : (p.1,p.2) = p:=rfl
        rw [ep] at cm
        by_cases u1 : x < (MT X.ss set kd j p).1
        · simp (maxSteps:=999999) only [E0,seval,-Int.reduceNatCast',NUM,h19,h18,h17,h1,h3,h4,b4,hbv,cm,hd,hf,e1,f1,u1,lt,List.length_map,h0,Int.toNat_natCast,(show (0 : Int) ≤ j by omega)] at hW
          rw [if_pos (by kernel_rfl)] at hW
          subst hW
          refine rd_ret ⟨?_,?_,?_,?_,.inr ⟨rfl,fun g => ?_,?_⟩⟩ <;> try simp (maxSteps:=999999) only [E0,seval,-Int.reduceNatCast',hd,hf,hrows]
          · omega
          · have:=g.2 j x e0 p f0; omega
        by_cases u2 : (MT X.ss set kd j p).2 < x
        · simp (maxSteps:=999999) only [E0,seval,-Int.reduceNatCast',NUM,h19,h18,h17,h1,h3,h4,b4,hbv,cm,hd,hf,e1,f1,u1,lt,List.length_map,h0,Int.toNat_natCast,(show (0 : Int) ≤ j by omega),u2] at hW
          rw [if_pos (by kernel_rfl)] at hW
          subst hW
          refine rd_ret ⟨?_,?_,?_,?_,.inr ⟨rfl,fun g => ?_,?_⟩⟩ <;> try simp (maxSteps:=999999) only [E0,seval,-Int.reduceNatCast',hd,hf,hrows]
          · omega
          · have:=g.2 j x e0 p f0; omega
        simp (maxSteps:=999999) only [E0,seval,-Int.reduceNatCast',NUM,h19,h18,h17,h1,h3,h4,b4,hbv,cm,hd,hf,e1,f1,u1,lt,List.length_map,h0,Int.toNat_natCast,(show (0 : Int) ≤ j by omega),u2,(i64_in (x:=(j : Int) + 1) (by unfold I64; omega))] at hW
        rw [if_pos (by kernel_rfl)] at hW
        subst hW
        refine rd_next (j + 1) ?_ (show rs.length - (j + 1) < rs.length - j by omega)
        simp (maxSteps:=999999) only [E0,seval,-Int.reduceNatCast',h18,h17,h1,h3,h4,b4,hrows,hd]
        refine ⟨by omega,ALLI_take hA e0 fun p' hp' => ?_,by simp,by omega⟩
        rw [f0] at hp'; cases hp'
        omega
      · simp (maxSteps:=999999) only [E0,seval,-Int.reduceNatCast',NUM,h19,h18,hd,hf,(show ¬ (j : Int) < rs.length by omega)] at hW
        subst hW
        refine rd_exit ⟨?_,?_,?_,?_,.inl ⟨rfl,h0,ALLI_full hA (by omega)⟩⟩ <;> simp (maxSteps:=999999) only [E0,seval,-Int.reduceNatCast',hd,hf,hrows]
        exact hnx)
  rcases hex with ⟨rfl,hg⟩ | ⟨rfl,hg,h8⟩
  · rw [decide_eq_true hg]
    simp (maxSteps:=999999) only [E0,seval,-Int.reduceNatCast',hd,hf,hrows]
    exact ⟨s.H.next,by rw [← hrows],hnx⟩
  · rw [decide_eq_false hg]
    simp (maxSteps:=999999) only [E0,seval,-Int.reduceNatCast',hd,hf,hrows,h8]
    exact ⟨s.H.next,by rw [← hrows],hnx⟩
theorem WVS_mem {a b c : Int} : ∀ {l : List Wav} {last : Int},WVS a b c last l → ∀ w ∈ l,RGS w.hs b ∧ RGS w.os c ∧ RGS w.ts b
  | [],_,_,w,hw => by simp at hw
  | x :: r,_,h,w,hw => by
    rcases List.mem_cons.1 hw with rfl | hw
    · exact ⟨h.2.1,h.2.2.1,h.2.2.2.1⟩
    · exact WVS_mem h.2.2.2.2 w hw
theorem SSO_mem {a b : Int} : ∀ {l : List Sus} {k i : Int},SSO a b k i l → ∀ s ∈ l,(0 ≤ s.ix ∧ s.ix < MANY a b s.kd) ∧ (1 ≤ s.mo ∧ s.mo ≤ 1073741824) ∧ (k < s.kd ∨ (s.kd = k ∧ i < s.ix))
  | [],_,_,_,s,hs => by simp at hs
  | x :: r,k,i,h,s,hs => by
    rcases List.mem_cons.1 hs with rfl | hs
    · exact ⟨h.1,h.2.1,h.2.2.1⟩
    · have:=SSO_mem h.2.2.2 s hs
      refine ⟨this.1,this.2.1,?_⟩
      have h3:=h.2.2.1
      have h4:=this.2.2
      omega
theorem SSO_inj {a b : Int} : ∀ {l : List Sus} {k i : Int},SSO a b k i l → ∀ (m n : Nat) (s t : Sus),l[m]? = some s → l[n]? = some t → s.kd = t.kd → s.ix = t.ix → m = n
  | [],_,_,_,m,n,s,t,h1,_,_,_ => by simp at h1
  | x :: r,k,i,h,m,n,s,t,h1,h2,e1,e2 => by
    cases m with
    | zero => cases n with
      | zero => rfl
      | succ n =>
        simp at h1 h2
        subst h1
        have:=(SSO_mem h.2.2.2 t (List.mem_of_getElem? h2)).2.2
        omega
    | succ m => cases n with
      | zero =>
        simp at h1 h2
        subst h2
        have:=(SSO_mem h.2.2.2 s (List.mem_of_getElem? h1)).2.2
        omega
      | succ n =>
        simp at h1 h2
        rw [SSO_inj h.2.2.2 m n s t h1 h2 e1 e2]
theorem BL_some {ss : List Sus} {p : Int × Int} {n : Int} (set : List Int) : BL ss set p = some n → ∃ x ∈ set,∃ s,ss[x.toNat]? = some s ∧ p = (s.kd,s.ix) ∧ s.mo = n:=by
  unfold BL
  suffices h : ∀ (b : Option Int),set.foldl (BLs ss p) b = some n → b = some n ∨ ∃ x ∈ set,∃ s,ss[x.toNat]? = some s ∧ p = (s.kd,s.ix) ∧ s.mo = n by
    intro g
    rcases h none g with h | h
    · cases h
    · exact h
  induction set with
  | nil => intro b g; exact .inl g
  | cons x r ih =>
    intro b g
    rcases ih _ g with h | ⟨y,hy,h⟩
    · unfold BLs at h
      split at h
      · next s hs =>
        split at h
        · next hp => exact .inr ⟨x,by simp,s,hs,hp,Option.some.inj h⟩
        · exact .inl h
      · exact .inl h
    · exact .inr ⟨y,List.mem_cons_of_mem _ hy,h⟩
theorem BL_mem {a b k i : Int} {ss : List Sus} (hS : SSO a b k i ss) {set : List Int} (h0 : ∀ x ∈ set,0 ≤ x) {x : Int} {s : Sus} (hx : x ∈ set) (e : ss[x.toNat]? = some s) : BL ss set (s.kd,s.ix) = some s.mo:=by
  unfold BL
  suffices h : ∀ (b : Option Int),(b = some s.mo ∨ x ∈ set) → set.foldl (BLs ss (s.kd,s.ix)) b = some s.mo from h none (.inr hx)
  clear hx
  induction set with
  | nil => intro b g; simpa using g
  | cons y r ih =>
    intro b g
    refine ih (fun z hz => h0 z (by simp [hz])) _ ?_
    unfold BLs
    split
    · next t ht =>
      split
      · next hp =>
        simp only [Prod.mk.injEq] at hp
        have:=SSO_inj hS _ _ _ _ e ht hp.1 hp.2
        rw [this,ht] at e
        cases e
        exact .inl rfl
      · next hp =>
        rcases g with g | g
        · exact .inl g
        · rcases List.mem_cons.1 g with rfl | g
          · rw [e] at ht; cases ht; exact absurd rfl hp
          · exact .inr g
    · next ht =>
      rcases g with g | g
      · exact .inl g
      · rcases List.mem_cons.1 g with rfl | g
        · rw [e] at ht; cases ht
        · exact .inr g
theorem MT_RG {ss : List Sus} (hS : ∀ s ∈ ss,1 ≤ s.mo ∧ s.mo ≤ 1073741824) (set : List Int) (k i : Int) {p : Int × Int} (hp : RG p) : RG (MT ss set k i p):=by
  obtain ⟨h1,h2,h3⟩:=hp
  unfold MT
  cases h : BL ss set (k,i) with
  | none => exact ⟨h1,h2,h3⟩
  | some n =>
    obtain ⟨x,_,s,e,_,rfl⟩:=BL_some set h
    have:=hS s (List.mem_of_getElem? e)
    exact ⟨by simp only; omega,by simp only; omega,by simp only; omega⟩
def SUMF (g : Nat → Int) : Nat → Int
  | 0 => 0
  | n + 1 => SUMF g n + g n
theorem SUMF_bd {g : Nat → Int} {B : Int} : ∀ {n : Nat},(∀ i < n,0 ≤ g i ∧ g i ≤ B) → 0 ≤ SUMF g n ∧ SUMF g n ≤ n * B
  | 0,_ => by simp [SUMF]
  | n + 1,h => by
    have h1:=SUMF_bd (n:=n) fun i hi => h i (by omega)
    have h2:=h n (by omega)
    have e : ((n + 1 : Nat) : Int) * B = n * B + B:=by rw [Int.natCast_add,Int.add_mul]; simp
    unfold SUMF
    rw [e]
    omega
theorem SUMF_le {g f : Nat → Int} : ∀ {n : Nat},(∀ i < n,g i ≤ f i) → SUMF g n ≤ SUMF f n
  | 0,_ => by simp [SUMF]
  | n + 1,h => by
    have h1:=SUMF_le (n:=n) fun i hi => h i (by omega)
    have h2:=h n (by omega)
    unfold SUMF
    omega
theorem SUMF_congr {g f : Nat → Int} {n : Nat} (h : ∀ i < n,g i = f i) : SUMF g n = SUMF f n:=
  Int.le_antisymm (SUMF_le fun i hi => Int.le_of_eq (h i hi)) (SUMF_le fun i hi => Int.le_of_eq (h i hi).symm)
theorem perm_ext (f g : Nat → Nat) (h1 : ∀ x,g (f x) = x) (h2 : ∀ x,f (g x) = x) (k c : Nat) : ∃ f' g' : Nat → Nat,(∀ x,g' (f' x) = x) ∧ (∀ x,f' (g' x) = x) ∧ f' k = c ∧ ∀ j,j ≠ k → f j ≠ c → f' j = f j:=by
  have sw : ∀ p q x,swp p q (swp p q x) = x:=by
    intro p q x
    unfold swp
    split <;> (try split) <;> (try split) <;> (try split) <;> omega
  refine ⟨fun x => f (swp k (g c) x),fun x => swp k (g c) (g x),fun x => ?_,fun x => ?_,?_,fun j hj hc => ?_⟩
  · show swp k (g c) (g (f _)) = x
    rw [h1,sw]
  · show f (swp k (g c) (swp k (g c) _)) = x
    rw [sw,h2]
  · show f (swp k (g c) k) = c
    unfold swp
    rw [if_pos rfl,h2]
  · show f (swp k (g c) j) = f j
    unfold swp
    rw [if_neg hj,if_neg]
    intro e
    rw [e,h2] at hc
    exact hc rfl
theorem inv_inj {f g : Nat → Nat} (h : ∀ x,g (f x) = x) (a b : Nat) (e : f a = f b) : a = b:=by
  rw [← h a,← h b,e]
theorem ite_chk1 {α : Type} {ops : Array Oper} (L : Nat → List (Nat × MF)) (a : Nat) {x y z : α} (h : ∀ f : Nat → Nat,f 1 = a → renL f (L 1) = L a) (hk : chkL ops (L 1) (L 1) = true) (e : (if chkL ops (L a) (L a) = true then x else y) = z) : x = z:=by
  obtain ⟨f,g,h1,h2,e1,_⟩:=perm_ext id id (fun _ => rfl) (fun _ => rfl) 1 a
  have : chkL ops (L a) (L a) = true:=by rw [← h f e1,chkL_ren (inv_inj h1)]; exact hk
  rw [if_pos this] at e; exact e
theorem ite_chk2 {α : Type} {ops : Array Oper} (L : Nat → Nat → List (Nat × MF)) (a b : Nat) (hab : a ≠ b) {x y z : α} (h : ∀ f : Nat → Nat,f 1 = a → f 2 = b → renL f (L 1 2) = L a b) (hk : chkL ops (L 1 2) (L 1 2) = true) (e : (if chkL ops (L a b) (L a b) = true then x else y) = z) : x = z:=by
  obtain ⟨f,g,h1,h2,e1,_⟩:=perm_ext id id (fun _ => rfl) (fun _ => rfl) 1 a
  obtain ⟨f',g',h1',h2',e2,k2⟩:=perm_ext f g h1 h2 2 b
  have : chkL ops (L a b) (L a b) = true:=by rw [← h f' (by rw [k2 1 (by decide) (by omega)]; exact e1) e2,chkL_ren (inv_inj h1')]; exact hk
  rw [if_pos this] at e; exact e
theorem ite_chk3 {α : Type} {ops : Array Oper} (L : Nat → Nat → Nat → List (Nat × MF)) (a b c : Nat) (hab : a ≠ b) (hac : a ≠ c) (hbc : b ≠ c) {x y z : α} (h : ∀ f : Nat → Nat,f 1 = a → f 2 = b → f 3 = c → renL f (L 1 2 3) = L a b c) (hk : chkL ops (L 1 2 3) (L 1 2 3) = true) (e : (if chkL ops (L a b c) (L a b c) = true then x else y) = z) : x = z:=by
  obtain ⟨f,g,h1,h2,e1,_⟩:=perm_ext id id (fun _ => rfl) (fun _ => rfl) 1 a
  obtain ⟨f',g',h1',h2',e2,k2⟩:=perm_ext f g h1 h2 2 b
  obtain ⟨f'',g'',h1'',h2'',e3,k3⟩:=perm_ext f' g' h1' h2' 3 c
  have q1 : f' 1 = a:=by rw [k2 1 (by decide) (by omega)]; exact e1
  have : chkL ops (L a b c) (L a b c) = true:=by rw [← h f'' (by rw [k3 1 (by decide) (by omega)]; exact q1) (by rw [k3 2 (by decide) (by omega)]; exact e2) e3,chkL_ren (inv_inj h1'')]; exact hk
  rw [if_pos this] at e; exact e
theorem ite_chkF2 {α : Type} {ops : Array Oper} (L : Nat → Nat → List (Nat × MF)) (a b : Nat) (hab : a ≠ b) {x y z : α} (h : ∀ f : Nat → Nat,f 1 = a → f 2 = b → renL f (L 1 2) = L a b) (hk : chkL ops (L 1 2) (L 1 2) = false) (e : (if chkL ops (L a b) (L a b) = true then x else y) = z) : y = z:=by
  obtain ⟨f,g,h1,h2,e1,_⟩:=perm_ext id id (fun _ => rfl) (fun _ => rfl) 1 a
  obtain ⟨f',g',h1',h2',e2,k2⟩:=perm_ext f g h1 h2 2 b
  have : chkL ops (L a b) (L a b) = false:=by rw [← h f' (by rw [k2 1 (by decide) (by omega)]; exact e1) e2,chkL_ren (inv_inj h1')]; exact hk
  rw [if_neg (by rw [this]; simp)] at e; exact e
structure Tru where
  (hs os ts ar tk : List Int)
abbrev truc (t : Tru) : List PV:=[.vs 1 (t.hs.map I) none,.vs 1 (t.os.map I) none,.vs 1 (t.ts.map I) none,.vs 1 (t.ar.map I) none,.vs 1 (t.tk.map I) none]
abbrev tru (t : Tru) : PV:=.agg (truc t)
def gT (ss : List Sus) (tk : List Int) (r : Int) (i : Nat) : Int:=if (ss[i]?).map (fun s => (s.kd,s.ix)) = some (4,r) then tk.getD i 0 else 0
def gH (rs : List Rch) (hs : List Int) (r : Int) (k : Nat) : Int:=if (rs[k]?).map Rch.up = some r then hs.getD k 0 else 0
def gO (fs : List Frm) (os : List Int) (r : Int) (f : Nat) : Int:=if (fs[f]?).map Frm.at_ = some r then os.getD f 0 else 0
def OUT (D : Dis) (X : Evd) (t : Tru) (r : Nat) : Int:=t.ts.getD r 0 + SUMF (gT X.ss t.tk r) X.ss.length + SUMF (gH D.rs t.hs r) D.rs.length + SUMF (gO D.fs t.os r) D.fs.length
def MOST (ss : List Sus) (set : List Int) (s : Sus) : Int:=if s.kd = 4 then (BL ss set (s.kd,s.ix)).getD 0 else 0
def TKOK (ss : List Sus) (set : List Int) (tk : List Int) (n : Nat) : Prop:=∀ i < n,∀ s,ss[i]? = some s → 0 ≤ tk.getD i 0 ∧ tk.getD i 0 ≤ MOST ss set s
structure FIT (D : Dis) (X : Evd) (set : List Int) (w : Wav) (t : Tru) : Prop where
  hs : INR X.ss set 1 t.hs w.hs
  os : INR X.ss set 2 t.os w.os
  ts : INR X.ss set 3 t.ts w.ts
  ar : t.ar.length = D.rs.length
  tk : t.tk.length = X.ss.length
  tkok : TKOK X.ss set t.tk X.ss.length
  out : ∀ (r : Nat) (x : Rch),D.rs[r]? = some x → WO (los x) (t.hs.getD r 0) ≤ OUT D X t r ∧ OUT D X t r ≤ BE (los x) (t.hs.getD r 0)
theorem c_clone (l : List Int) (c : Option Nat) (hl : l.length ≤ 1000) (hne : l ≠ []) (H : Heap) :
    callF G Tryz.prog pol 37 [.vs 1 (l.map I) c] H = some (.ret (.gsl 1 (H.next + 1) l.length 0 l.length),⟨fun i => if i = H.next + 1 then some (.gro 1 (l.map I) 0) else H.rows i,H.next + 2⟩):=by
  rw [callF_eq _ _ Tryz.func37 rfl Tryz.ntmps37 Tryz.results37 (by kernel_rfl) rfl (by exact Nat.le_of_ble_eq_true rfl)]
  cases l with
  | nil => exact absurd rfl hne
  | cons a l =>
    have al : (((a :: l).map I).all fun e => e.fits 1) = true:=by simp [PV.fits,PV.cells]
    simp only [List.map_cons,List.length_cons] at al hl ⊢
    simp (maxSteps:=999999) only [E0,seval,-Int.reduceNatCast',NUM,al,or_self,List.length_map,Nat.zero_add,Nat.zero_le,(show l.length + 1 ≤ 67108864 by omega),(show l.length ≤ 67108863 by omega)]
    rfl
theorem gT_bd {ss : List Sus} {tk : List Int} {n : Nat} (h : ∀ i < n,0 ≤ tk.getD i 0 ∧ tk.getD i 0 ≤ 1073741824) (r : Int) : ∀ i < n,0 ≤ gT ss tk r i ∧ gT ss tk r i ≤ 1073741824:=by
  intro i hi; unfold gT; split
  · exact h i hi
  · omega
theorem gH_bd {rs : List Rch} {hs : List Int} {n : Nat} (h : ∀ i < n,0 ≤ hs.getD i 0 ∧ hs.getD i 0 ≤ 1073741824) (r : Int) : ∀ i < n,0 ≤ gH rs hs r i ∧ gH rs hs r i ≤ 1073741824:=by
  intro i hi; unfold gH; split
  · exact h i hi
  · omega
theorem gO_bd {fs : List Frm} {os : List Int} {n : Nat} (h : ∀ i < n,0 ≤ os.getD i 0 ∧ os.getD i 0 ≤ 1073741824) (r : Int) : ∀ i < n,0 ≤ gO fs os r i ∧ gO fs os r i ≤ 1073741824:=by
  intro i hi; unfold gO; split
  · exact h i hi
  · omega
theorem INR_bd {ss : List Sus} (hS : ∀ s ∈ ss,1 ≤ s.mo ∧ s.mo ≤ 1073741824) {set : List Int} {kd : Int} {l : List Int} {rs : List (Int × Int)} (h : INR ss set kd l rs) (hr : ∀ p ∈ rs,RG p) : ∀ i < l.length,0 ≤ l.getD i 0 ∧ l.getD i 0 ≤ 1073741824:=by
  intro i hi
  have e0 : l[i]? = some l[i]:=List.getElem?_eq_getElem hi
  have f0 : rs[i]? = some (rs[i]'(by rw [← h.1]; exact hi)):=List.getElem?_eq_getElem _
  have h1:=h.2 i _ e0 _ f0
  have h2:=MT_RG hS set kd i (hr _ (List.mem_of_getElem? f0))
  rw [List.getD_eq_getElem?_getD,e0]
  obtain ⟨a,b,c⟩:=h2
  simp only [Option.getD_some]
  omega
theorem MOST_bd {ss : List Sus} (hS : ∀ s ∈ ss,1 ≤ s.mo ∧ s.mo ≤ 1073741824) (set : List Int) (s : Sus) : MOST ss set s ≤ 1073741824:=by
  unfold MOST
  split
  · cases h : BL ss set (s.kd,s.ix) with
    | none => simp
    | some n =>
      obtain ⟨x,_,u,e,_,rfl⟩:=BL_some set h
      exact (hS u (List.mem_of_getElem? e)).2
  · omega
theorem gT_at {ss : List Sus} {tk : List Int} {j : Nat} {y : Sus} (e : ss[j]? = some y) (r : Int) : gT ss tk r j = if y.kd = 4 ∧ y.ix = r then tk.getD j 0 else 0:=by
  unfold gT
  rw [e]
  simp only [Option.map_some,Option.some.injEq,Prod.mk.injEq]
theorem gH_at {rs : List Rch} {hs : List Int} {j : Nat} {y : Rch} (e : rs[j]? = some y) (r : Int) : gH rs hs r j = if y.up = r then hs.getD j 0 else 0:=by
  unfold gH
  rw [e]
  simp only [Option.map_some,Option.some.injEq]
theorem gO_at {fs : List Frm} {os : List Int} {j : Nat} {y : Frm} (e : fs[j]? = some y) (r : Int) : gO fs os r j = if y.at_ = r then os.getD j 0 else 0:=by
  unfold gO
  rw [e]
  simp only [Option.map_some,Option.some.injEq]
theorem TKOK_step {ss : List Sus} {set tk : List Int} {j : Nat} {y : Sus} (h : TKOK ss set tk j) (e : ss[j]? = some y) (h1 : 0 ≤ tk.getD j 0 ∧ tk.getD j 0 ≤ MOST ss set y) : TKOK ss set tk (j + 1):=by
  intro i hi s hs
  by_cases g : i = j
  · subst g; rw [e] at hs; cases hs; exact h1
  · exact h i (by omega) s hs
def OUTR (f : Nat → Int) (nr ro : Nat) (H : Heap) : Prop:=∃ ls : List Int,H.rows ro = some (.gro 1 (ls.map I) 0) ∧ ls.length = nr ∧ ∀ r < nr,ls[r]? = some (f r)
theorem OUTR_set {f g : Nat → Int} {nr : Nat} {ls : List Int} (hl : ls.length = nr) (h : ∀ r < nr,ls[r]? = some (f r)) (k : Nat) (hk : k < nr) (v : Int) (hg : g k = v) (ho : ∀ r < nr,r ≠ k → g r = f r) : (ls.set k v).length = nr ∧ ∀ r < nr,(ls.set k v)[r]? = some (g r):=by
  refine ⟨by simpa using hl,fun r hr => ?_⟩
  by_cases e : r = k
  · subst e; rw [List.getElem?_set_self (by omega),hg]
  · rw [List.getElem?_set_ne (fun x => e x.symm),h r hr,ho r hr e]
section
variable {D : Dis} (hr : ∀ x ∈ D.rs,x.OK) {X : Evd} {q : Cps} (hE : EOK D X) {w : Wav} (hw : w ∈ X.ws) (t : Tru) {set : List Int} {id : Nat}
include hr hE hw
set_option maxHeartbeats 8000000 in
theorem c_fits (H : Heap) (h : INQ X set id H) (R : Option (CR × Heap)) (hX : callF G Tryz.prog pol 20 [.agg (inq D X q id),wav w,tru t] H = R) :
    ∃ b H',R = some (.ret (.bool b),H') ∧ (∀ i < H.next,H'.rows i = H.rows i) ∧ H.next ≤ H'.next ∧ (b = true → FIT D X set w t):=by
  subst hX
  obtain ⟨hX0,hlw,hls,hW1,hS1⟩:=hE
  obtain ⟨hLEN,hK⟩:=XC_0 hX0
  obtain ⟨g1,g2,g3⟩:=WVS_mem hW1 w hw
  have hmo : ∀ s ∈ X.ss,1 ≤ s.mo ∧ s.mo ≤ 1073741824:=fun s hs => (SSO_mem hS1 s hs).2.1
  have lr:=hLEN.1
  have lf:=hLEN.2.1
  have k1:=g1.1
  have k2:=g2.1
  have k3:=g3.1
  obtain ⟨n1,e1,hn1⟩:=c_inr D X q set id 1 t.hs w.hs none none (by omega) ⟨H.rows,H.next + 1⟩ (h.mono rfl (by simp only; omega)) _ rfl
  simp only at e1 hn1
  rw [callF_eq _ _ Tryz.func20 rfl Tryz.ntmps20 Tryz.results20 (by kernel_rfl) rfl (by exact Nat.le_of_ble_eq_true rfl)]
  by_cases i1 : INR X.ss set 1 t.hs w.hs
  rotate_left
  · simp (maxSteps:=999999) only [E0,seval,-Int.reduceNatCast',NUM,e1,i1]
    exact ⟨_,_,rfl,fun _ _ => rfl,by simp only; omega,by simp⟩
  obtain ⟨n2,e2,hn2⟩:=c_inr D X q set id 2 t.os w.os none none (by omega) ⟨H.rows,n1⟩ (h.mono rfl (by simp only; omega)) _ rfl
  simp only at e2 hn2
  by_cases i2 : INR X.ss set 2 t.os w.os
  rotate_left
  · simp (maxSteps:=999999) only [E0,seval,-Int.reduceNatCast',NUM,e1,i1,e2,i2]
    exact ⟨_,_,rfl,fun _ _ => rfl,by simp only; omega,by simp⟩
  obtain ⟨n3,e3,hn3⟩:=c_inr D X q set id 3 t.ts w.ts none none (by omega) ⟨H.rows,n2⟩ (h.mono rfl (by simp only; omega)) _ rfl
  simp only at e3 hn3
  by_cases i3 : INR X.ss set 3 t.ts w.ts
  rotate_left
  · simp (maxSteps:=999999) only [E0,seval,-Int.reduceNatCast',NUM,e1,i1,e2,i2,e3,i3]
    exact ⟨_,_,rfl,fun _ _ => rfl,by simp only; omega,by simp⟩
  by_cases i4 : t.ar.length = D.rs.length
  rotate_left
  · simp (maxSteps:=999999) only [E0,seval,-Int.reduceNatCast',NUM,e1,i1,e2,i2,e3,i3,List.length_map,(show ¬ (t.ar.length : Int) = D.rs.length by omega)]
    exact ⟨_,_,rfl,fun _ _ => rfl,by simp only; omega,by simp⟩
  by_cases i5 : t.tk.length = X.ss.length
  rotate_left
  · simp (maxSteps:=999999) only [E0,seval,-Int.reduceNatCast',NUM,e1,i1,e2,i2,e3,i3,List.length_map,i4,(show ¬ (t.tk.length : Int) = X.ss.length by omega)]
    exact ⟨_,_,rfl,fun _ _ => rfl,by simp only; omega,by simp⟩
  have b1:=INR_bd hmo i1 g1.2
  have b2:=INR_bd hmo i2 g2.2
  have b3:=INR_bd hmo i3 g3.2
  have lts : t.ts.length = D.rs.length:=by have:=i3.1; omega
  have lhs : t.hs.length = D.rs.length:=by have:=i1.1; omega
  have los_ : t.os.length = D.fs.length:=by have:=i2.1; omega
  have hpos:=hK.2.2.1
  have hne : t.ts ≠ []:=fun g => by rw [g] at lts; simp at lts; omega
  have ec:=c_clone t.ts none (by omega) hne ⟨H.rows,n3⟩
  simp only at ec
  simp (maxSteps:=999999) only [E0,seval,-Int.reduceNatCast',NUM,e1,i1,e2,i2,e3,i3,List.length_map,i4,i5,ec]
  generalize hL : W _ (.loop _) _ = L
  obtain ⟨mm,hmr,hB⟩:=h.row
  have hid:=h.lt
  rw [lts] at hL
  obtain ⟨ex,s,rfl,hd,hf,hfr,hnx,hex⟩:=loop_at hL (α:=Nat) (fun k => X.ss.length - k)
    (fun s0 j s => j ≤ X.ss.length ∧ TKOK X.ss set t.tk j ∧ OUTR (fun r => t.ts.getD r 0 + SUMF (gT X.ss t.tk r) j) D.rs.length (n3 + 1) s.H ∧ s.tmps 73 = I j ∧ s.tmps 72 = I X.ss.length ∧ s.tmps 71 = .vs 3 (X.ss.map sus) q.s ∧ s.tmps 7 = .gsl 1 (n3 + 1) D.rs.length 0 D.rs.length ∧
      s.tmps 3 = .bptr H.next 3 0 0 ∧ s.boxes 3 = some (0,inq D X q id) ∧ s.tmps 5 = .bptr H.next 5 0 0 ∧ s.boxes 5 = some (0,truc t) ∧ (∀ i,i ≠ n3 + 1 → s.H.rows i = H.rows i) ∧ n3 + 1 < s.H.next ∧ s.defers = [] ∧ s.fid = H.next)
    (fun s0 ex s => s.defers = [] ∧ s.fid = H.next ∧ (∀ i,i ≠ n3 + 1 → s.H.rows i = H.rows i) ∧ n3 + 1 < s.H.next ∧ ((ex = .ret ∧ s.tmps 6 = .bool false) ∨ (ex = .exit 0 ∧ TKOK X.ss set t.tk X.ss.length ∧ OUTR (fun r => t.ts.getD r 0 + SUMF (gT X.ss t.tk r) X.ss.length) D.rs.length (n3 + 1) s.H ∧
      s.tmps 7 = .gsl 1 (n3 + 1) D.rs.length 0 D.rs.length ∧ s.tmps 3 = .bptr H.next 3 0 0 ∧ s.boxes 3 = some (0,inq D X q id) ∧ s.tmps 5 = .bptr H.next 5 0 0 ∧ s.boxes 5 = some (0,truc t)))) 0
    (by simp (maxSteps:=999999) only [E0,seval,-Int.reduceNatCast']
        refine ⟨Nat.zero_le _,fun i hi => by omega,⟨t.ts,?_,lts,fun r hr => ?_⟩,by simp,fun i hi => ?_,by omega⟩
        · simp (maxSteps:=999999) only [E0,seval,-Int.reduceNatCast']
        · show t.ts[r]? = some (t.ts.getD r 0 + SUMF (gT X.ss t.tk r) 0)
          rw [List.getD_eq_getElem?_getD,List.getElem?_eq_getElem (by omega)]; simp [SUMF]
        · simp (maxSteps:=999999) only [E0,seval,-Int.reduceNatCast',hi]) (by
      rintro j s r hW ⟨hj,hT,⟨ls,hrow,hll,hls⟩,h73,h72,h71,h7,q3,b3_,q5,b5,hfr,hnx,hd,hf⟩
      by_cases hp : j < X.ss.length
      · have e0 : X.ss[j]? = some X.ss[j]:=List.getElem?_eq_getElem hp
        have e1:=map_get (f:=sus) e0
        generalize X.ss[j] = y at *
        have hm : y ∈ X.ss:=List.mem_of_getElem? e0
        have t0 : t.tk[j]? = some (t.tk.getD j 0):=by rw [List.getD_eq_getElem?_getD,List.getElem?_eq_getElem (by omega)]; rfl
        have t1:=map_get (f:=I) t0
        obtain ⟨n,hn⟩ : ∃ n,t.tk.getD j 0 = n:=⟨_,rfl⟩
        rw [hn] at t0 t1
        have hmr' : s.H.rows id = some (.map (kmap plc mm)):=by rw [hfr id (by omega)]; exact hmr
        obtain ⟨bv,hbv⟩ : ∃ bv,nextVer (s.boxes 9) = bv:=⟨_,rfl⟩
        have lt : (j : Int) < X.ss.length:=by omega
        have lt' : (j : Int) < t.tk.length:=by omega
        by_cases hk : y.kd = 4
        · have hx:=(SSO_mem hS1 y hm).1
          rw [hk] at hx
          have hx2 : MANY D.rs.length D.fs.length 4 = D.rs.length:=rfl
          rw [hx2] at hx
          have hlk : lookA (I 0) false (aget mm (4,y.ix)) = I ((BL X.ss set (4,y.ix)).getD 0):=by
            rw [hB]; cases BL X.ss set (4,y.ix) <;> rfl
          have hM : MOST X.ss set y = (BL X.ss set (4,y.ix)).getD 0:=by unfold MOST; rw [if_pos hk,hk]
          have f0 : ls[y.ix.toNat]? = some (t.ts.getD y.ix.toNat 0 + SUMF (gT X.ss t.tk y.ix.toNat) j):=hls y.ix.toNat (by omega)
          have f1:=map_get (f:=I) f0
          obtain ⟨v,hv⟩ : ∃ v,t.ts.getD y.ix.toNat 0 + SUMF (gT X.ss t.tk y.ix.toNat) j = v:=⟨_,rfl⟩
          rw [hv] at f0 f1
          by_cases u1 : n < 0
          · simp (maxSteps:=999999) only [E0,seval,-Int.reduceNatCast',NUM,MAPP,hmr',hlk,hk,h73,h72,h71,h7,q3,b3_,q5,b5,hbv,hd,hf,e1,t1,u1,lt,lt',List.length_map,Int.toNat_natCast,(show (0 : Int) ≤ j by omega)] at hW
            subst hW
            refine rd_ret ⟨?_,?_,?_,?_,.inl ⟨rfl,?_⟩⟩ <;> simp (maxSteps:=999999) only [E0,seval,-Int.reduceNatCast',hd,hf]
            · exact hfr
            · exact hnx
          by_cases u2 : (BL X.ss set (4,y.ix)).getD 0 < n
          · simp (maxSteps:=999999) only [E0,seval,-Int.reduceNatCast',NUM,MAPP,hmr',hlk,hk,h73,h72,h71,h7,q3,b3_,q5,b5,hbv,hd,hf,e1,t1,u1,u2,lt,lt',List.length_map,Int.toNat_natCast,(show (0 : Int) ≤ j by omega)] at hW
            subst hW
            refine rd_ret ⟨?_,?_,?_,?_,.inl ⟨rfl,?_⟩⟩ <;> simp (maxSteps:=999999) only [E0,seval,-Int.reduceNatCast',hd,hf]
            · exact hfr
            · exact hnx
          have hvb : 0 ≤ v ∧ v ≤ 17179869184:=by
            have q1:=SUMF_bd (gT_bd (r:=(y.ix.toNat : Int)) fun i hi => by
              have e:=List.getElem?_eq_getElem (show i < X.ss.length by omega)
              have:=hT i hi _ e
              have:=MOST_bd hmo set X.ss[i]
              omega : ∀ i < j,0 ≤ gT X.ss t.tk (y.ix.toNat : Int) i ∧ gT X.ss t.tk (y.ix.toNat : Int) i ≤ 1073741824)
            have q2:=b3 y.ix.toNat (by omega)
            have q3 : (j : Int) * 1073741824 ≤ 12 * 1073741824:=Int.mul_le_mul_of_nonneg_right (by omega) (by decide)
            omega
          have hnb : 0 ≤ n ∧ n ≤ 1073741824:=by
            have:=MOST_bd hmo set y
            omega
          simp (maxSteps:=999999) only [E0,seval,-Int.reduceNatCast',NUM,MAPP,hmr',hlk,hk,h73,h72,h71,h7,q3,b3_,q5,b5,hbv,hd,hf,e1,t1,u1,u2,lt,lt',List.length_map,Int.toNat_natCast,(show (0 : Int) ≤ j by omega),hrow,hll,f1,hx.1,hx.2,Nat.zero_add,Nat.zero_le,(i64_in (x:=v + n) (by unfold I64; omega)),(i64_in (x:=(j : Int) + 1) (by unfold I64; omega))] at hW
          replace hW:=ite_chk1 (fun a => [(12,[Vr.row a],[Vr.row a]),(6,[Vr.box 5],[]),(4,[Vr.row a],[]),(2,[Vr.box 9],[])]) (n3 + 1) (by intro f h1; simp [renL,renM,renV,h1]) (by kernel_rfl) hW
          subst hW
          refine rd_next (j + 1) ?_ (show X.ss.length - (j + 1) < X.ss.length - j by omega)
          have hset:=OUTR_set (g:=fun r => t.ts.getD r 0 + SUMF (gT X.ss t.tk r) (j + 1)) hll hls y.ix.toNat (by omega) (v + n) (by
            show t.ts.getD y.ix.toNat 0 + (SUMF (gT X.ss t.tk y.ix.toNat) j + gT X.ss t.tk y.ix.toNat j) = v + n
            rw [gT_at e0,if_pos ⟨hk,by omega⟩,hn]; omega) (by
            intro r _ hne
            show t.ts.getD r 0 + (SUMF (gT X.ss t.tk r) j + gT X.ss t.tk r j) = t.ts.getD r 0 + SUMF (gT X.ss t.tk r) j
            rw [gT_at e0,if_neg (fun g => by omega)]; omega)
          simp (maxSteps:=999999) only [E0,seval,-Int.reduceNatCast',h72,h71,h7,q3,b3_,q5,b5,hd]
          refine ⟨by omega,TKOK_step hT e0 (by rw [hn,hM]; omega),⟨_,?_,hset⟩,by simp,fun i hi => ?_,hnx⟩
          · simp (maxSteps:=999999) only [E0,seval,-Int.reduceNatCast',List.map_set]
          · simp (maxSteps:=999999) only [E0,seval,-Int.reduceNatCast',hi]
            exact hfr i hi
        · have hM : MOST X.ss set y = 0:=by unfold MOST; rw [if_neg hk]
          by_cases u1 : n < 0
          · simp (maxSteps:=999999) only [E0,seval,-Int.reduceNatCast',NUM,hk,h73,h72,h71,h7,q3,b3_,q5,b5,hbv,hd,hf,e1,t1,u1,lt,lt',List.length_map,Int.toNat_natCast,(show (0 : Int) ≤ j by omega)] at hW
            subst hW
            refine rd_ret ⟨?_,?_,?_,?_,.inl ⟨rfl,?_⟩⟩ <;> simp (maxSteps:=999999) only [E0,seval,-Int.reduceNatCast',hd,hf]
            · exact hfr
            · exact hnx
          by_cases u2 : 0 < n
          · simp (maxSteps:=999999) only [E0,seval,-Int.reduceNatCast',NUM,hk,h73,h72,h71,h7,q3,b3_,q5,b5,hbv,hd,hf,e1,t1,u1,u2,lt,lt',List.length_map,Int.toNat_natCast,(show (0 : Int) ≤ j by omega)] at hW
            subst hW
            refine rd_ret ⟨?_,?_,?_,?_,.inl ⟨rfl,?_⟩⟩ <;> simp (maxSteps:=999999) only [E0,seval,-Int.reduceNatCast',hd,hf]
            · exact hfr
            · exact hnx
          simp (maxSteps:=999999) only [E0,seval,-Int.reduceNatCast',NUM,hk,h73,h72,h71,h7,q3,b3_,q5,b5,hbv,hd,hf,e1,t1,u1,u2,lt,lt',List.length_map,Int.toNat_natCast,(show (0 : Int) ≤ j by omega),(i64_in (x:=(j : Int) + 1) (by unfold I64; omega))] at hW
          subst hW
          refine rd_next (j + 1) ?_ (show X.ss.length - (j + 1) < X.ss.length - j by omega)
          simp (maxSteps:=999999) only [E0,seval,-Int.reduceNatCast',h72,h71,h7,q3,b3_,q5,b5,hd]
          refine ⟨by omega,TKOK_step hT e0 (by rw [hn,hM]; omega),⟨ls,hrow,hll,fun r hr => ?_⟩,by simp,hfr,hnx⟩
          rw [hls r hr]
          show some (t.ts.getD r 0 + SUMF (gT X.ss t.tk r) j) = some (t.ts.getD r 0 + (SUMF (gT X.ss t.tk r) j + gT X.ss t.tk r j))
          rw [gT_at e0,if_neg (fun g => hk g.1)]; simp
      · simp (maxSteps:=999999) only [E0,seval,-Int.reduceNatCast',NUM,List.length_map,h73,h72,hd,hf,(show ¬ (j : Int) < X.ss.length by omega)] at hW
        subst hW
        have : j = X.ss.length:=by omega
        subst this
        refine rd_exit ⟨?_,?_,?_,?_,.inr ⟨rfl,hT,⟨ls,?_,hll,hls⟩,?_,?_,?_,?_,?_⟩⟩ <;> simp (maxSteps:=999999) only [E0,seval,-Int.reduceNatCast',hd,hf,h7,q3,b3_,q5,b5,hrow]
        · exact hfr
        · exact hnx)
  have fin : ∀ {b : Bool} {H' : Heap},b = false → (∀ i,i ≠ n3 + 1 → H'.rows i = H.rows i) → n3 + 1 < H'.next → ∃ b' H'',some (CR.ret (.bool b),H') = some (.ret (.bool b'),H'') ∧ (∀ i < H.next,H''.rows i = H.rows i) ∧ H.next ≤ H''.next ∧ (b' = true → FIT D X set w t):=fun hb hfr hn => ⟨_,_,rfl,fun i hi => hfr i (by omega),by omega,fun g => by rw [hb] at g; cases g⟩
  rcases hex with ⟨rfl,h6⟩ | ⟨rfl,hT,⟨ls,hrow,hll,hls⟩,h7,q3,b3_,q5,b5⟩
  · simp (maxSteps:=999999) only [E0,seval,-Int.reduceNatCast',hd,hf,h6]
    exact fin rfl hfr hnx
  have htk : ∀ i < X.ss.length,0 ≤ t.tk.getD i 0 ∧ t.tk.getD i 0 ≤ 1073741824:=fun i hi => by
    have e:=List.getElem?_eq_getElem hi
    have:=hT i hi _ e
    have:=MOST_bd hmo set X.ss[i]
    omega
  simp (maxSteps:=999999) only [E0,seval,-Int.reduceNatCast',NUM,List.length_map,hd,hf,h7,q3,b3_,q5,b5]
  generalize hL : W _ (.loop _) _ = L
  obtain ⟨ex,s,rfl,rfl,hd,hf,hfr,hnx,⟨ls,hrow,hll,hls⟩,h7,q3,b3_,q5,b5⟩:=loop_at hL (α:=Nat) (fun k => D.rs.length - k)
    (fun s0 j s => j ≤ D.rs.length ∧ OUTR (fun r => t.ts.getD r 0 + SUMF (gT X.ss t.tk r) X.ss.length + SUMF (gH D.rs t.hs r) j) D.rs.length (n3 + 1) s.H ∧ s.tmps 124 = I j ∧ s.tmps 123 = I D.rs.length ∧ s.tmps 122 = .vs 12 (D.rs.map rch) q.r ∧ s.tmps 7 = .gsl 1 (n3 + 1) D.rs.length 0 D.rs.length ∧
      s.tmps 3 = .bptr H.next 3 0 0 ∧ s.boxes 3 = some (0,inq D X q id) ∧ s.tmps 5 = .bptr H.next 5 0 0 ∧ s.boxes 5 = some (0,truc t) ∧ (∀ i,i ≠ n3 + 1 → s.H.rows i = H.rows i) ∧ n3 + 1 < s.H.next ∧ s.defers = [] ∧ s.fid = H.next)
    (fun s0 ex s => ex = .exit 2 ∧ s.defers = [] ∧ s.fid = H.next ∧ (∀ i,i ≠ n3 + 1 → s.H.rows i = H.rows i) ∧ n3 + 1 < s.H.next ∧ OUTR (fun r => t.ts.getD r 0 + SUMF (gT X.ss t.tk r) X.ss.length + SUMF (gH D.rs t.hs r) D.rs.length) D.rs.length (n3 + 1) s.H ∧
      s.tmps 7 = .gsl 1 (n3 + 1) D.rs.length 0 D.rs.length ∧ s.tmps 3 = .bptr H.next 3 0 0 ∧ s.boxes 3 = some (0,inq D X q id) ∧ s.tmps 5 = .bptr H.next 5 0 0 ∧ s.boxes 5 = some (0,truc t)) 0
    (by simp (maxSteps:=999999) only [E0,seval,-Int.reduceNatCast',h7,q3,b3_,q5,b5,hd,hf]
        refine ⟨Nat.zero_le _,⟨ls,hrow,hll,fun r hr => ?_⟩,by simp,hfr,hnx⟩
        rw [hls r hr]; simp [SUMF]) (by
      rintro j s r hW ⟨hj,⟨ls,hrow,hll,hls⟩,h124,h123,h122,h7,q3,b3_,q5,b5,hfr,hnx,hd,hf⟩
      by_cases hp : j < D.rs.length
      · have e0 : D.rs[j]? = some D.rs[j]:=List.getElem?_eq_getElem hp
        have e1:=map_get (f:=rch) e0
        generalize D.rs[j] = x at *
        have t0 : t.hs[j]? = some (t.hs.getD j 0):=by rw [List.getD_eq_getElem?_getD,List.getElem?_eq_getElem (by omega)]; rfl
        have t1:=map_get (f:=I) t0
        obtain ⟨n,hn⟩ : ∃ n,t.hs.getD j 0 = n:=⟨_,rfl⟩
        rw [hn] at t0 t1
        obtain ⟨bv,hbv⟩ : ∃ bv,nextVer (s.boxes 12) = bv:=⟨_,rfl⟩
        have lt : (j : Int) < D.rs.length:=by omega
        have lt' : (j : Int) < t.hs.length:=by omega
        by_cases hu : 0 ≤ x.up
        · have hx : 0 ≤ x.up ∧ x.up < D.rs.length:=by
            have:=(hK.2.2.2.1 j x e0).1
            unfold RUP at this
            omega
          have hk1 : x.up.toNat < D.rs.length:=by omega
          have f0 : ls[x.up.toNat]? = some (t.ts.getD x.up.toNat 0 + SUMF (gT X.ss t.tk x.up.toNat) X.ss.length + SUMF (gH D.rs t.hs x.up.toNat) j):=hls x.up.toNat hk1
          have f1:=map_get (f:=I) f0
          obtain ⟨v,hv⟩ : ∃ v,t.ts.getD x.up.toNat 0 + SUMF (gT X.ss t.tk x.up.toNat) X.ss.length + SUMF (gH D.rs t.hs x.up.toNat) j = v:=⟨_,rfl⟩
          rw [hv] at f0 f1
          have hvb : 0 ≤ v ∧ v ≤ 1000000000000:=by
            have a0:=b3 x.up.toNat (by omega)
            have a1:=SUMF_bd (gT_bd (ss:=X.ss) htk (x.up.toNat : Int))
            have a2:=SUMF_bd (gH_bd (rs:=D.rs) (n:=D.rs.length) (fun i hi => b1 i (by omega)) (x.up.toNat : Int))
            have a3:=SUMF_bd (gH_bd (n:=j) (fun i hi => b1 i (by omega)) (x.up.toNat : Int) : ∀ i < j,0 ≤ gH D.rs t.hs (x.up.toNat : Int) i ∧ gH D.rs t.hs (x.up.toNat : Int) i ≤ 1073741824)
            have m1 : (X.ss.length : Int) * 1073741824 ≤ 12 * 1073741824:=Int.mul_le_mul_of_nonneg_right (by omega) (by decide)
            have m2 : (D.rs.length : Int) * 1073741824 ≤ 64 * 1073741824:=Int.mul_le_mul_of_nonneg_right (by omega) (by decide)
            have m3 : (j : Int) * 1073741824 ≤ 600 * 1073741824:=Int.mul_le_mul_of_nonneg_right (by omega) (by decide)
            omega
          have hnb : 0 ≤ n ∧ n ≤ 1073741824:=by
            have:=b1 j (by omega)
            omega
          simp (maxSteps:=999999) only [E0,seval,-Int.reduceNatCast',NUM,h124,h123,h122,h7,q3,b3_,q5,b5,hbv,hd,hf,e1,t1,lt,lt',List.length_map,Int.toNat_natCast,(show (0 : Int) ≤ j by omega),hu,hrow,hll,f1,hx.1,hx.2,Nat.zero_add,Nat.zero_le,(i64_in (x:=v + n) (by unfold I64; omega)),(i64_in (x:=(j : Int) + 1) (by unfold I64; omega))] at hW
          replace hW:=ite_chk1 (fun a => [(12,[Vr.row a],[Vr.row a]),(6,[Vr.box 5],[]),(4,[Vr.row a],[]),(2,[Vr.box 12],[])]) (n3 + 1) (by intro f h1; simp [renL,renM,renV,h1]) (by kernel_rfl) hW
          subst hW
          refine rd_next (j + 1) ?_ (show D.rs.length - (j + 1) < D.rs.length - j by omega)
          have hset:=OUTR_set (g:=fun r => t.ts.getD r 0 + SUMF (gT X.ss t.tk r) X.ss.length + SUMF (gH D.rs t.hs r) (j + 1)) hll hls x.up.toNat hk1 (v + n) (by
            show t.ts.getD x.up.toNat 0 + SUMF (gT X.ss t.tk x.up.toNat) X.ss.length + (SUMF (gH D.rs t.hs x.up.toNat) j + gH D.rs t.hs x.up.toNat j) = v + n
            rw [gH_at e0,if_pos (by omega),hn]; omega) (by
            intro r _ hne
            show t.ts.getD r 0 + SUMF (gT X.ss t.tk r) X.ss.length + (SUMF (gH D.rs t.hs r) j + gH D.rs t.hs r j) = t.ts.getD r 0 + SUMF (gT X.ss t.tk r) X.ss.length + SUMF (gH D.rs t.hs r) j
            rw [gH_at e0,if_neg (fun g => by omega)]; omega)
          simp (maxSteps:=999999) only [E0,seval,-Int.reduceNatCast',h123,h122,h7,q3,b3_,q5,b5,hd]
          refine ⟨by omega,⟨_,?_,hset⟩,by simp,fun i hi => ?_,hnx⟩
          · simp (maxSteps:=999999) only [E0,seval,-Int.reduceNatCast',List.map_set]
          · simp (maxSteps:=999999) only [E0,seval,-Int.reduceNatCast',hi]
            exact hfr i hi
        · simp (maxSteps:=999999) only [E0,seval,-Int.reduceNatCast',NUM,h124,h123,h122,h7,q3,b3_,q5,b5,hbv,hd,hf,e1,t1,lt,lt',List.length_map,Int.toNat_natCast,(show (0 : Int) ≤ j by omega),hu,(i64_in (x:=(j : Int) + 1) (by unfold I64; omega))] at hW
          subst hW
          refine rd_next (j + 1) ?_ (show D.rs.length - (j + 1) < D.rs.length - j by omega)
          simp (maxSteps:=999999) only [E0,seval,-Int.reduceNatCast',h123,h122,h7,q3,b3_,q5,b5,hd]
          refine ⟨by omega,⟨ls,hrow,hll,fun r hr => ?_⟩,by simp,hfr,hnx⟩
          rw [hls r hr]
          show some (t.ts.getD r 0 + SUMF (gT X.ss t.tk r) X.ss.length + SUMF (gH D.rs t.hs r) j) = some (t.ts.getD r 0 + SUMF (gT X.ss t.tk r) X.ss.length + (SUMF (gH D.rs t.hs r) j + gH D.rs t.hs r j))
          rw [gH_at e0,if_neg (fun g => by omega)]; simp
      · simp (maxSteps:=999999) only [E0,seval,-Int.reduceNatCast',NUM,List.length_map,h124,h123,hd,hf,(show ¬ (j : Int) < D.rs.length by omega)] at hW
        subst hW
        have : j = D.rs.length:=by omega
        subst this
        refine rd_exit ⟨rfl,?_,?_,?_,?_,⟨ls,?_,hll,hls⟩,?_,?_,?_,?_,?_⟩ <;> simp (maxSteps:=999999) only [E0,seval,-Int.reduceNatCast',hd,hf,h7,q3,b3_,q5,b5,hrow]
        · exact hfr
        · exact hnx)
  simp (maxSteps:=999999) only [E0,seval,-Int.reduceNatCast',NUM,List.length_map,hd,hf,h7,q3,b3_,q5,b5]
  generalize hL : W _ (.loop _) _ = L
  obtain ⟨ex,s,rfl,rfl,hd,hf,hfr,hnx,⟨ls,hrow,hll,hls⟩,h7,q3,b3_,q5,b5⟩:=loop_at hL (α:=Nat) (fun k => D.fs.length - k)
    (fun s0 j s => j ≤ D.fs.length ∧ OUTR (fun r => t.ts.getD r 0 + SUMF (gT X.ss t.tk r) X.ss.length + SUMF (gH D.rs t.hs r) D.rs.length + SUMF (gO D.fs t.os r) j) D.rs.length (n3 + 1) s.H ∧ s.tmps 149 = I j ∧ s.tmps 148 = I D.fs.length ∧ s.tmps 147 = .vs 4 (D.fs.map frm) q.f ∧ s.tmps 7 = .gsl 1 (n3 + 1) D.rs.length 0 D.rs.length ∧
      s.tmps 3 = .bptr H.next 3 0 0 ∧ s.boxes 3 = some (0,inq D X q id) ∧ s.tmps 5 = .bptr H.next 5 0 0 ∧ s.boxes 5 = some (0,truc t) ∧ (∀ i,i ≠ n3 + 1 → s.H.rows i = H.rows i) ∧ n3 + 1 < s.H.next ∧ s.defers = [] ∧ s.fid = H.next)
    (fun s0 ex s => ex = .exit 4 ∧ s.defers = [] ∧ s.fid = H.next ∧ (∀ i,i ≠ n3 + 1 → s.H.rows i = H.rows i) ∧ n3 + 1 < s.H.next ∧ OUTR (fun r => t.ts.getD r 0 + SUMF (gT X.ss t.tk r) X.ss.length + SUMF (gH D.rs t.hs r) D.rs.length + SUMF (gO D.fs t.os r) D.fs.length) D.rs.length (n3 + 1) s.H ∧
      s.tmps 7 = .gsl 1 (n3 + 1) D.rs.length 0 D.rs.length ∧ s.tmps 3 = .bptr H.next 3 0 0 ∧ s.boxes 3 = some (0,inq D X q id) ∧ s.tmps 5 = .bptr H.next 5 0 0 ∧ s.boxes 5 = some (0,truc t)) 0
    (by simp (maxSteps:=999999) only [E0,seval,-Int.reduceNatCast',h7,q3,b3_,q5,b5,hd,hf]
        refine ⟨Nat.zero_le _,⟨ls,hrow,hll,fun r hr => ?_⟩,by simp,hfr,hnx⟩
        rw [hls r hr]; simp [SUMF]) (by
      rintro j s r hW ⟨hj,⟨ls,hrow,hll,hls⟩,h149,h148,h147,h7,q3,b3_,q5,b5,hfr,hnx,hd,hf⟩
      by_cases hp : j < D.fs.length
      · have e0 : D.fs[j]? = some D.fs[j]:=List.getElem?_eq_getElem hp
        have e1:=map_get (f:=frm) e0
        generalize D.fs[j] = x at *
        have t0 : t.os[j]? = some (t.os.getD j 0):=by rw [List.getD_eq_getElem?_getD,List.getElem?_eq_getElem (by omega)]; rfl
        have t1:=map_get (f:=I) t0
        obtain ⟨n,hn⟩ : ∃ n,t.os.getD j 0 = n:=⟨_,rfl⟩
        rw [hn] at t0 t1
        obtain ⟨bv,hbv⟩ : ∃ bv,nextVer (s.boxes 14) = bv:=⟨_,rfl⟩
        have lt : (j : Int) < D.fs.length:=by omega
        have lt' : (j : Int) < t.os.length:=by omega
        · have hx : 0 ≤ x.at_ ∧ x.at_ < D.rs.length:=(hK.2.2.2.2.2.1 j x e0).1
          have hk1 : x.at_.toNat < D.rs.length:=by omega
          have f0 : ls[x.at_.toNat]? = some (t.ts.getD x.at_.toNat 0 + SUMF (gT X.ss t.tk x.at_.toNat) X.ss.length + SUMF (gH D.rs t.hs x.at_.toNat) D.rs.length + SUMF (gO D.fs t.os x.at_.toNat) j):=hls x.at_.toNat hk1
          have f1:=map_get (f:=I) f0
          obtain ⟨v,hv⟩ : ∃ v,t.ts.getD x.at_.toNat 0 + SUMF (gT X.ss t.tk x.at_.toNat) X.ss.length + SUMF (gH D.rs t.hs x.at_.toNat) D.rs.length + SUMF (gO D.fs t.os x.at_.toNat) j = v:=⟨_,rfl⟩
          rw [hv] at f0 f1
          have hvb : 0 ≤ v ∧ v ≤ 1000000000000:=by
            have a0:=b3 x.at_.toNat (by omega)
            have a1:=SUMF_bd (gT_bd (ss:=X.ss) htk (x.at_.toNat : Int))
            have a2:=SUMF_bd (gH_bd (rs:=D.rs) (n:=D.rs.length) (fun i hi => b1 i (by omega)) (x.at_.toNat : Int))
            have a3:=SUMF_bd (gO_bd (n:=j) (fun i hi => b2 i (by omega)) (x.at_.toNat : Int) : ∀ i < j,0 ≤ gO D.fs t.os (x.at_.toNat : Int) i ∧ gO D.fs t.os (x.at_.toNat : Int) i ≤ 1073741824)
            have m1 : (X.ss.length : Int) * 1073741824 ≤ 12 * 1073741824:=Int.mul_le_mul_of_nonneg_right (by omega) (by decide)
            have m2 : (D.rs.length : Int) * 1073741824 ≤ 64 * 1073741824:=Int.mul_le_mul_of_nonneg_right (by omega) (by decide)
            have m3 : (j : Int) * 1073741824 ≤ 600 * 1073741824:=Int.mul_le_mul_of_nonneg_right (by omega) (by decide)
            omega
          have hnb : 0 ≤ n ∧ n ≤ 1073741824:=by
            have:=b2 j (by omega)
            omega
          simp (maxSteps:=999999) only [E0,seval,-Int.reduceNatCast',NUM,h149,h148,h147,h7,q3,b3_,q5,b5,hbv,hd,hf,e1,t1,lt,lt',List.length_map,Int.toNat_natCast,(show (0 : Int) ≤ j by omega),hrow,hll,f1,hx.1,hx.2,Nat.zero_add,Nat.zero_le,(i64_in (x:=v + n) (by unfold I64; omega)),(i64_in (x:=(j : Int) + 1) (by unfold I64; omega))] at hW
          replace hW:=ite_chk1 (fun a => [(12,[Vr.row a],[Vr.row a]),(6,[Vr.box 5],[]),(4,[Vr.row a],[]),(2,[Vr.box 14],[])]) (n3 + 1) (by intro f h1; simp [renL,renM,renV,h1]) (by kernel_rfl) hW
          subst hW
          refine rd_next (j + 1) ?_ (show D.fs.length - (j + 1) < D.fs.length - j by omega)
          have hset:=OUTR_set (g:=fun r => t.ts.getD r 0 + SUMF (gT X.ss t.tk r) X.ss.length + SUMF (gH D.rs t.hs r) D.rs.length + SUMF (gO D.fs t.os r) (j + 1)) hll hls x.at_.toNat hk1 (v + n) (by
            show t.ts.getD x.at_.toNat 0 + SUMF (gT X.ss t.tk x.at_.toNat) X.ss.length + SUMF (gH D.rs t.hs x.at_.toNat) D.rs.length + (SUMF (gO D.fs t.os x.at_.toNat) j + gO D.fs t.os x.at_.toNat j) = v + n
            rw [gO_at e0,if_pos (by omega),hn]; omega) (by
            intro r _ hne
            show t.ts.getD r 0 + SUMF (gT X.ss t.tk r) X.ss.length + SUMF (gH D.rs t.hs r) D.rs.length + (SUMF (gO D.fs t.os r) j + gO D.fs t.os r j) = t.ts.getD r 0 + SUMF (gT X.ss t.tk r) X.ss.length + SUMF (gH D.rs t.hs r) D.rs.length + SUMF (gO D.fs t.os r) j
            rw [gO_at e0,if_neg (fun g => by omega)]; omega)
          simp (maxSteps:=999999) only [E0,seval,-Int.reduceNatCast',h148,h147,h7,q3,b3_,q5,b5,hd]
          refine ⟨by omega,⟨_,?_,hset⟩,by simp,fun i hi => ?_,hnx⟩
          · simp (maxSteps:=999999) only [E0,seval,-Int.reduceNatCast',List.map_set]
          · simp (maxSteps:=999999) only [E0,seval,-Int.reduceNatCast',hi]
            exact hfr i hi
      · simp (maxSteps:=999999) only [E0,seval,-Int.reduceNatCast',NUM,List.length_map,h149,h148,hd,hf,(show ¬ (j : Int) < D.fs.length by omega)] at hW
        subst hW
        have : j = D.fs.length:=by omega
        subst this
        refine rd_exit ⟨rfl,?_,?_,?_,?_,⟨ls,?_,hll,hls⟩,?_,?_,?_,?_,?_⟩ <;> simp (maxSteps:=999999) only [E0,seval,-Int.reduceNatCast',hd,hf,h7,q3,b3_,q5,b5,hrow]
        · exact hfr
        · exact hnx)
  simp (maxSteps:=999999) only [E0,seval,-Int.reduceNatCast',NUM,List.length_map,hd,hf,h7,q3,b3_,q5,b5]
  have hO : ∀ r < D.rs.length,ls[r]? = some (OUT D X t r):=fun r hr => hls r hr
  generalize hL : W _ (.loop _) _ = L
  obtain ⟨ex,s,rfl,hd,hf,hfr,hnx,hex⟩:=loop_at hL (α:=Nat) (fun k => D.rs.length - k)
    (fun s0 j s => j ≤ D.rs.length ∧ ALLI (fun r x => WO (los x) (t.hs.getD r 0) ≤ OUT D X t r ∧ OUT D X t r ≤ BE (los x) (t.hs.getD r 0)) (D.rs.take j) ∧ s.H.rows (n3 + 1) = some (.gro 1 (ls.map I) 0) ∧ s.tmps 171 = I j ∧ s.tmps 170 = I D.rs.length ∧ s.tmps 169 = .vs 12 (D.rs.map rch) q.r ∧ s.tmps 7 = .gsl 1 (n3 + 1) D.rs.length 0 D.rs.length ∧
      s.tmps 3 = .bptr H.next 3 0 0 ∧ s.boxes 3 = some (0,inq D X q id) ∧ s.tmps 5 = .bptr H.next 5 0 0 ∧ s.boxes 5 = some (0,truc t) ∧ (∀ i,i ≠ n3 + 1 → s.H.rows i = H.rows i) ∧ n3 + 1 < s.H.next ∧ s.defers = [] ∧ s.fid = H.next)
    (fun s0 ex s => s.defers = [] ∧ s.fid = H.next ∧ (∀ i,i ≠ n3 + 1 → s.H.rows i = H.rows i) ∧ n3 + 1 < s.H.next ∧ ((ex = .ret ∧ s.tmps 6 = .bool false) ∨ (ex = .exit 6 ∧ ALLI (fun r x => WO (los x) (t.hs.getD r 0) ≤ OUT D X t r ∧ OUT D X t r ≤ BE (los x) (t.hs.getD r 0)) D.rs))) 0
    (by simp (maxSteps:=999999) only [E0,seval,-Int.reduceNatCast',h7,q3,b3_,q5,b5,hd,hf]
        exact ⟨Nat.zero_le _,fun i x h => by simp at h,hrow,by simp,hfr,hnx⟩) (by
      rintro j s r hW ⟨hj,hA,hrow,h171,h170,h169,h7,q3,b3_,q5,b5,hfr,hnx,hd,hf⟩
      by_cases hp : j < D.rs.length
      · have e0 : D.rs[j]? = some D.rs[j]:=List.getElem?_eq_getElem hp
        have e1:=map_get (f:=rch) e0
        generalize D.rs[j] = x at *
        have hxm : x ∈ D.rs:=List.mem_of_getElem? e0
        have t0 : t.hs[j]? = some (t.hs.getD j 0):=by rw [List.getD_eq_getElem?_getD,List.getElem?_eq_getElem (by omega)]; rfl
        have t1:=map_get (f:=I) t0
        have a0 : t.ar[j]? = some (t.ar.getD j 0):=by rw [List.getD_eq_getElem?_getD,List.getElem?_eq_getElem (by omega)]; rfl
        have a1:=map_get (f:=I) a0
        have f1:=map_get (f:=I) (hO j hp)
        have hhb:=b1 j (by omega)
        obtain ⟨n,hn⟩ : ∃ n,t.hs.getD j 0 = n:=⟨_,rfl⟩
        obtain ⟨m,hm⟩ : ∃ m,t.ar.getD j 0 = m:=⟨_,rfl⟩
        obtain ⟨v,hv⟩ : ∃ v,OUT D X t j = v:=⟨_,rfl⟩
        rw [hn] at t1 hhb
        rw [hm] at a1
        rw [hv] at f1
        have hvc : VC x n = 0:=(VC_0 x n).2 ⟨RIN_right (hK.2.2.2.1 j x e0).2,hhb⟩
        have cw:=c_Worst x (hr x hxm) n
        have cb:=c_Best x (hr x hxm) n
        rw [if_pos hvc] at cw cb
        obtain ⟨bv,hbv⟩ : ∃ bv,nextVer (s.boxes 16) = bv:=⟨_,rfl⟩
        have lt : (j : Int) < D.rs.length:=by omega
        have lt2 : (j : Int) < t.hs.length:=by omega
        have lt3 : (j : Int) < t.ar.length:=by omega
        by_cases u1 : m = v
        rotate_left
        · simp (maxSteps:=999999) only [E0,seval,-Int.reduceNatCast',NUM,cw,cb,h171,h170,h169,h7,q3,b3_,q5,b5,hbv,hd,hf,e1,t1,a1,lt,lt2,lt3,hrow,hll,f1,u1,List.length_map,Int.toNat_natCast,Nat.zero_add,Nat.zero_le,(show (0 : Int) ≤ j by omega)] at hW
          subst hW
          refine rd_ret ⟨?_,?_,?_,?_,.inl ⟨rfl,?_⟩⟩ <;> simp (maxSteps:=999999) only [E0,seval,-Int.reduceNatCast',hd,hf]
          · exact hfr
          · exact hnx
        subst u1
        by_cases u2 : m < WO (los x) n
        · simp (maxSteps:=999999) only [E0,seval,-Int.reduceNatCast',NUM,cw,cb,h171,h170,h169,h7,q3,b3_,q5,b5,hbv,hd,hf,e1,t1,a1,lt,lt2,lt3,hrow,hll,f1,List.length_map,Int.toNat_natCast,Nat.zero_add,Nat.zero_le,(show (0 : Int) ≤ j by omega),u2] at hW
          subst hW
          refine rd_ret ⟨?_,?_,?_,?_,.inl ⟨rfl,?_⟩⟩ <;> simp (maxSteps:=999999) only [E0,seval,-Int.reduceNatCast',hd,hf]
          · exact hfr
          · exact hnx
        by_cases u3 : BE (los x) n < m
        · simp (maxSteps:=999999) only [E0,seval,-Int.reduceNatCast',NUM,cw,cb,h171,h170,h169,h7,q3,b3_,q5,b5,hbv,hd,hf,e1,t1,a1,lt,lt2,lt3,hrow,hll,f1,List.length_map,Int.toNat_natCast,Nat.zero_add,Nat.zero_le,(show (0 : Int) ≤ j by omega),u2,u3] at hW
          subst hW
          refine rd_ret ⟨?_,?_,?_,?_,.inl ⟨rfl,?_⟩⟩ <;> simp (maxSteps:=999999) only [E0,seval,-Int.reduceNatCast',hd,hf]
          · exact hfr
          · exact hnx
        simp (maxSteps:=999999) only [E0,seval,-Int.reduceNatCast',NUM,cw,cb,h171,h170,h169,h7,q3,b3_,q5,b5,hbv,hd,hf,e1,t1,a1,lt,lt2,lt3,hrow,hll,f1,List.length_map,Int.toNat_natCast,Nat.zero_add,Nat.zero_le,(show (0 : Int) ≤ j by omega),u2,u3,(i64_in (x:=(j : Int) + 1) (by unfold I64; omega))] at hW
        subst hW
        refine rd_next (j + 1) ?_ (show D.rs.length - (j + 1) < D.rs.length - j by omega)
        simp (maxSteps:=999999) only [E0,seval,-Int.reduceNatCast',h170,h169,h7,q3,b3_,q5,b5,hd]
        refine ⟨by omega,ALLI_take hA e0 ?_,hrow,by simp,hfr,hnx⟩
        rw [hn,hv]
        omega
      · simp (maxSteps:=999999) only [E0,seval,-Int.reduceNatCast',NUM,List.length_map,h171,h170,hd,hf,(show ¬ (j : Int) < D.rs.length by omega)] at hW
        subst hW
        refine rd_exit ⟨?_,?_,?_,?_,.inr ⟨rfl,ALLI_full hA (by omega)⟩⟩ <;> simp (maxSteps:=999999) only [E0,seval,-Int.reduceNatCast',hd,hf]
        · exact hfr
        · exact hnx)
  rcases hex with ⟨rfl,h6⟩ | ⟨rfl,hA⟩
  · simp (maxSteps:=999999) only [E0,seval,-Int.reduceNatCast',hd,hf,h6]
    exact fin rfl hfr hnx
  · simp (maxSteps:=999999) only [E0,seval,-Int.reduceNatCast',hd,hf]
    exact ⟨_,_,rfl,fun i hi => hfr i (by omega),by omega,fun _ => ⟨i1,i2,i3,i4,i5,hT,fun r x e => hA r x e⟩⟩
end
end Go.Proofs.YtofkhhokaalknaaGreatDoor
