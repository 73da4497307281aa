/-
  Markets and their settling (part 1).
-/
import Derived.Test.YtbmmbefgmhhciaaGreatFa
import Derived.IntWalk
set_option linter.unusedSimpArgs false
set_option linter.unusedVariables false
set_option linter.unusedSectionVars false
namespace Go.Proofs.YtbmmbefgmhhciaaGreat
open Go GoV
set_option maxRecDepth 100000
def heapF (f : Nat) : List Nat:=if f = 77 then [2] else if f = 138 then [4] else if f = 144 then [2,3] else if f = 97 then [1000002] else if f = 112 then [1000002,1000003] else if f = 83 then [1000002,1000003,4,5] else if f = 95 then [1000002,1000003] else if f = 52 then [1000002,1000003] else if f = 19 then [1000002,1000003] else if f = 48 then [1000002,4,5,12] else if f = 34 then [4] else if f = 7 then [1000002,4,8,11,13] else if f = 13 then [1000004,1000005,8] else if f = 59 then [1000001] else []
def accsF (f : Nat) : List Nat:=if f = 96 then [6] else if f = 48 then [4] else if f = 9 then [4] else if f = 30 then [4] else if f = 21 then [11] else if f = 8 then [10,16] else if f = 14 then [10] else if f = 50 then [6] else if f = 103 then [7] else if f = 104 then [5] else []
def inF (f : Nat) : Bool:=f == 77 || f == 92 || f == 109 || f == 89 || f == 144 || f == 148 || f == 82 || f == 83 || f == 95 || f == 110 || f == 96 || f == 48 || f == 61 || f == 72 || f == 62 || f == 63 || f == 35 || f == 22 || f == 30 || f == 31 || f == 39 || f == 57 || f == 75 || f == 76 || f == 88 || f == 105 || f == 44 || f == 46 || f == 103
def pol : Pol:=⟨heapF,accsF,fun _ => [],fun f => !inF f⟩
theorem POL : (∀ f,pol.accs f = accsF f) ∧ (∀ f,pol.heap f = heapF f) ∧ (∀ f,pol.muts f = []) ∧ (∀ f,pol.iso f = !inF f) ∧
    (∀ f,heapF f = if f = 77 then [2] else if f = 138 then [4] else if f = 144 then [2,3] else if f = 97 then [1000002] else if f = 112 then [1000002,1000003] else if f = 83 then [1000002,1000003,4,5] else if f = 95 then [1000002,1000003] else if f = 52 then [1000002,1000003] else if f = 19 then [1000002,1000003] else if f = 48 then [1000002,4,5,12] else if f = 34 then [4] else if f = 7 then [1000002,4,8,11,13] else if f = 13 then [1000004,1000005,8] else if f = 59 then [1000001] else []) ∧
    (∀ f,accsF f = if f = 96 then [6] else if f = 48 then [4] else if f = 9 then [4] else if f = 30 then [4] else if f = 21 then [11] else if f = 8 then [10,16] else if f = 14 then [10] else if f = 50 then [6] else if f = 103 then [7] else if f = 104 then [5] else []) ∧
    (∀ f,inF f = (f == 77 || f == 92 || f == 109 || f == 89 || f == 144 || f == 148 || f == 82 || f == 83 || f == 95 || f == 110 || f == 96 || f == 48 || f == 61 || f == 72 || f == 62 || f == 63 || f == 35 || f == 22 || f == 30 || f == 31 || f == 39 || f == 57 || f == 75 || f == 76 || f == 88 || f == 105 || f == 44 || f == 46 || f == 103)):=
  ⟨fun _ => rfl,fun _ => rfl,fun _ => rfl,fun _ => rfl,fun _ => rfl,fun _ => rfl,fun _ => rfl⟩
theorem ROPS : (∀ cs,strip0 (.rop cs) = .rop (strip0L cs)) ∧ (∀ H cs,strip1 H (.rop cs) = .rop (strip1L H cs)) ∧ (∀ H cs,strip2 H (.rop cs) = .rop (strip2L H cs)):=⟨fun _ => rfl,fun _ _ => rfl,fun _ _ => rfl⟩
theorem E0 : type_of% RUN ∧ type_of% PATHS ∧ type_of% BASE ∧ type_of% BZ ∧ type_of% NILC ∧ type_of% FA ∧ type_of% POL ∧ type_of% ROPS ∧ Heap.empty = ⟨fun _ => none,0⟩:=⟨RUN,PATHS,BASE,BZ,NILC,FA,POL,ROPS,rfl⟩
abbrev I (n : Int) : PV:=.int .i64 n
def I64 (x : Int) : Prop:=-9223372036854775808 ≤ x ∧ x ≤ 9223372036854775807
theorem i64_in {x : Int} (h : I64 x) : IntKind.i64.wrap x = x:=IntWalk.i64_in x h
abbrev ints (l : List Int) (c : Option Nat) : PV:=.vs 1 (l.map I) c
theorem ints_len (l : List Int) : (l.map I).length = l.length:=by simp
theorem ints_get {l : List Int} {k : Nat} {x : Int} (h : l[k]? = some x) : (l.map I)[k]? = some (I x):=by simp [h]
theorem strip0_ints (l : List Int) : strip0L (l.map I) = l.map I:=by
  rw [strip0L_map]
  simp only [List.map_map]
  rfl
theorem map_strip0_ints (l : List Int) : (l.map I).map strip0 = l.map I:=by
  rw [← strip0L_map]; exact strip0_ints l
theorem map_strip1_ints (H : Heap) (l : List Int) : (l.map I).map (strip1 H) = l.map I:=by
  simp only [List.map_map]; rfl
theorem strip2_ints (H : Heap) (l : List Int) : strip2L H (l.map I) = l.map I:=by
  rw [strip2L_map]; simp only [List.map_map]; rfl
theorem strip1_ints (H : Heap) (l : List Int) : strip1L H (l.map I) = l.map I:=by
  rw [strip1L_map]; simp only [List.map_map]; rfl
theorem INTS : (∀ l : List Int,(l.map I).length = l.length) ∧ (∀ l : List Int,strip0L (l.map I) = l.map I) ∧ (∀ l : List Int,(l.map I).map strip0 = l.map I) ∧ (∀ H (l : List Int),(l.map I).map (strip1 H) = l.map I) ∧ (∀ H (l : List Int),strip2L H (l.map I) = l.map I) ∧ (∀ H (l : List Int),strip1L H (l.map I) = l.map I):=
  ⟨ints_len,strip0_ints,map_strip0_ints,map_strip1_ints,strip2_ints,strip1_ints⟩
abbrev well (f r d : Int) (k : List Int) (c : Option Nat) : PV:=.agg [I f,I r,I d,ints k c]
abbrev U (n : Int) : PV:=.int .u64 n
abbrev rat (n d : Int) : PV:=.agg [.int .i64 n,.int .i64 d]
theorem wrap_u64 (n : Int) : IntKind.u64.wrap n = n % 18446744073709551616:=by simp [IntKind.wrap,IntKind.bits,IntKind.signed]
theorem wrap_i64 (n : Int) : IntKind.i64.wrap n = (n + 9223372036854775808) % 18446744073709551616 - 9223372036854775808:=by rw [IntKind.wrap_i64]
def mag (x : Int) : Int:=if x < 0 then -x else x
def U64 (x : Int) : Prop:=0 ≤ x ∧ x ≤ 18446744073709551615
theorem u64_in {x : Int} (h : U64 x) : IntKind.u64.wrap x = x:=by
  unfold U64 at h; rw [wrap_u64]; omega
theorem c_mag (x : Int) (h : I64 x) : ap Tryz.prog pol 139 [I x] = some (.ret (U (mag x))):=by
  rw [ap_eq _ Tryz.func139 rfl Tryz.ntmps139 Tryz.results139 (by kernel_rfl) rfl (by exact Nat.le_of_ble_eq_true rfl)]
  simp (maxSteps:=999999) only [E0,seval,-Int.reduceNatCast']
  unfold I64 at h
  unfold mag
  split
  · rw [wrap_u64,wrap_u64]; congr 3; omega
  · rw [wrap_u64]; congr 3; omega
theorem gcd_step {a b : Int} (ha : 0 ≤ a) (hb : 0 < b) : Nat.gcd b.toNat (a % b).toNat = Nat.gcd a.toNat b.toNat:=by
  rw [Nat.gcd_comm,Int.toNat_emod ha (by omega),Nat.gcd_comm a.toNat,← Nat.gcd_rec]
theorem c_rem (x y : Int) (H : Heap) : callF G Tryz.prog pol 144 [U x,U y] H = some (.ret (.fn 148 [.ptr (H.next + 1) 1 0 0,.ptr (H.next + 2) 1 0 0]),((⟨H.rows,H.next + 1⟩ : Heap).add (.gro 1 [U x] 0)).add (.gro 1 [U y] 0)):=by
  rw [callF_eq _ _ Tryz.func144 rfl Tryz.ntmps144 Tryz.results144 (by kernel_rfl) rfl (by exact Nat.le_of_ble_eq_true rfl)]
  simp (maxSteps:=999999) only [E0,seval,-Int.reduceNatCast']
theorem c_div (x y : Int) (hx : U64 x) (hy : U64 y) : ap Tryz.prog pol 138 [U x,U y] = some (.ret (U (Nat.gcd x.toNat y.toNat))):=by
  rw [ap_eq _ Tryz.func138 rfl Tryz.ntmps138 Tryz.results138 (by kernel_rfl) rfl (by exact Nat.le_of_ble_eq_true rfl)]
  simp (maxSteps:=999999) only [E0,seval,-Int.reduceNatCast',c_rem]
  unfold U64 at hx hy
  split
  · next h => subst h; simp; omega
  · next h =>
    rw [callF_eq _ _ Tryz.func148 rfl Tryz.ntmps148 Tryz.results148 (by kernel_rfl) rfl (by exact Nat.le_of_ble_eq_true rfl)]
    simp (maxSteps:=999999) only [E0,seval,-Int.reduceNatCast']
    generalize hL : W _ (.loop _) _ = L
    obtain ⟨ex,s,rfl,hex,h1,h5,h6,hd⟩:=loop_at hL (α:=Int × Int × Int) (fun x => x.2.1.toNat)
      (fun s0 q s => 0 ≤ q.1 ∧ 0 < q.2.1 ∧ Nat.gcd q.1.toNat q.2.1.toNat = Nat.gcd x.toNat y.toNat ∧ (q.1 = 0 → q.2.2 = Nat.gcd x.toNat y.toNat) ∧ s.tmps 0 = .yield 6 ∧ s.tmps 1 = .ptr 3 1 0 0 ∧ s.tmps 2 = .ptr 4 1 0 0 ∧ s.defers = [] ∧
        s.H.rows 1 = some (.gro 1 [U q.2.2] 0) ∧ s.H.rows 3 = some (.gro 1 [U q.1] 0) ∧ s.H.rows 4 = some (.gro 1 [U q.2.1] 0) ∧ s.H.rows 5 = some .dfr ∧ s.H.rows 6 = s0.H.rows 6)
      (fun s0 ex s => (ex = .exit 0 ∨ ex = .ret) ∧ s.H.rows 1 = some (.gro 1 [U (Nat.gcd x.toNat y.toNat)] 0) ∧ s.H.rows 5 = some .dfr ∧ s.H.rows 6 = s0.H.rows 6 ∧ s.defers = []) (x,y,y)
      (by simp (maxSteps:=999999) only [E0,seval,-Int.reduceNatCast']
          refine ⟨by omega,by omega,?_⟩
          intro e; subst e; simp; omega) (by
        rintro ⟨a,b,d⟩ s r hW ⟨ha,hb,hg,h0d,h0,h1,h2,hd,r1,r3,r4,r5,r6⟩
        simp only at ha hb hg h0d h0 h1 h2 r1 r3 r4
        simp (maxSteps:=999999) only [E0,seval,-Int.reduceNatCast'] at r6
        simp (maxSteps:=999999) only [E0,seval,-Int.reduceNatCast',h0,h1,h2,hd,r1,r3,r4,r5,r6,Tryz.func138] at hW
        subst hW
        have hm : max b 1 = b:=by omega
        refine rd_ite (fun hp => ?_) (fun hp => ?_)
        · rw [if_neg (by omega),if_pos (by kernel_rfl),hm]
          have e : a.tmod b = a % b:=Int.tmod_eq_emod_of_nonneg ha
          have e1:=Int.emod_nonneg a (b:=b) (by omega)
          have e2:=Int.emod_lt_of_pos a hb
          have eg:=(gcd_step ha hb).trans hg
          rw [e]
          refine rd_ite (fun hz => ?_) (fun hz => ?_)
          · refine rd_ret ⟨.inr rfl,?_⟩
            rw [hz] at eg
            simp only [Int.toNat_zero,Nat.gcd_zero_right] at eg
            simp (maxSteps:=999999) only [E0,seval,-Int.reduceNatCast',r5,r6]
            congr 5
            omega
          · refine rd_next (b,a % b,a) ?_ (by simp only; omega)
            simp (maxSteps:=999999) only [E0,seval,-Int.reduceNatCast',r5,r6,eg]
            exact ⟨by omega,by omega,by omega,h0,h1,h2⟩
        · refine rd_exit ⟨.inl rfl,?_⟩
          simp (maxSteps:=999999) only [E0,seval,-Int.reduceNatCast',r1,r5,r6]
          rw [h0d (by omega)])
    simp (maxSteps:=999999) only [E0,seval,-Int.reduceNatCast'] at h6
    rcases hex with rfl | rfl <;> simp (maxSteps:=999999) only [E0,seval,-Int.reduceNatCast',h1,h5,h6,hd]
theorem U64_wrap (x : Int) : U64 (IntKind.u64.wrap x):=by unfold U64; rw [wrap_u64]; omega
theorem I64_wrap (x : Int) : I64 (IntKind.i64.wrap x):=by unfold I64; rw [wrap_i64]; omega
theorem U64_mag {x : Int} (h : I64 x) : U64 (mag x):=by unfold I64 at h; unfold U64 mag; split <;> omega
theorem mag_nat (x : Int) : mag x = x.natAbs:=by unfold mag; split <;> omega
def VALID (n d : Int) : Prop:=1 ≤ d ∧ d ≤ 1073741824 ∧ -1073741824 ≤ n ∧ n ≤ 1073741824 ∧ Nat.gcd n.natAbs d.natAbs = 1
instance (n d : Int) : Decidable (VALID n d):=by unfold VALID; infer_instance
theorem c_check (n d : Int) (hn : I64 n) (hd : I64 d) : ap Tryz.prog pol 133 [rat n d] = some (.ret (I (if VALID n d then 0 else 120))):=by
  rw [ap_eq _ Tryz.func133 rfl Tryz.ntmps133 Tryz.results133 (by kernel_rfl) rfl (by exact Nat.le_of_ble_eq_true rfl)]
  simp (maxSteps:=999999) only [E0,seval,-Int.reduceNatCast',c_mag n hn,c_div _ _ (U64_mag hn) (U64_wrap d)]
  unfold I64 at hn hd
  split
  · rw [if_neg (by unfold VALID; omega)]
  split
  · rw [if_neg (by unfold VALID; omega)]
  split
  · rw [if_neg (by unfold VALID; omega)]
  split
  · rw [if_neg (by unfold VALID; omega)]
  rw [u64_in (by unfold U64; omega),mag_nat]
  have e : d.toNat = d.natAbs:=by omega
  rw [e,Int.toNat_natCast]
  split
  · next h => rw [if_neg (by unfold VALID; omega)]
  · next h => rw [if_pos (by unfold VALID; omega)]
abbrev w64 (x : Int) : Int:=IntKind.i64.wrap x
section
variable (a b c d : Int) (ha : I64 a) (hb : I64 b) (hc : I64 c) (hd : I64 d)
include ha hb hc hd
def CMP (x y : Int) : Int:=if x < y then -1 else if y < x then 1 else 0
def CMPR (a b c d : Int) : Int × Int:=if VALID a b ∧ VALID c d then (CMP (w64 (a * d)) (w64 (c * b)),0) else (0,120)
omit ha hb hc hd in
theorem c_nan (x : Int) : ap Tryz.prog pol 143 [I x] = some (.ret (.bool false)):=by
  rw [ap_eq _ Tryz.func143 rfl Tryz.ntmps143 Tryz.results143 (by kernel_rfl) rfl (by exact Nat.le_of_ble_eq_true rfl)]
  simp (maxSteps:=999999) only [E0,seval,-Int.reduceNatCast']
omit ha hb hc hd in
theorem c_compare (x y : Int) : ap Tryz.prog pol 137 [I x,I y] = some (.ret (I (CMP x y))):=by
  rw [ap_eq _ Tryz.func137 rfl Tryz.ntmps137 Tryz.results137 (by kernel_rfl) rfl (by exact Nat.le_of_ble_eq_true rfl)]
  unfold CMP
  simp (maxSteps:=999999) only [E0,seval,-Int.reduceNatCast',c_nan]
  repeat' split
  all_goals rfl
theorem c_cmp : ap Tryz.prog pol 131 [rat a b,rat c d] = some (.ret (.tup [I (CMPR a b c d).1,I (CMPR a b c d).2])):=by
  rw [ap_eq _ Tryz.func131 rfl Tryz.ntmps131 Tryz.results131 (by kernel_rfl) rfl (by exact Nat.le_of_ble_eq_true rfl)]
  unfold CMPR
  by_cases h1 : VALID a b
  · by_cases h2 : VALID c d
    · simp (maxSteps:=999999) only [E0,seval,-Int.reduceNatCast',c_check a b ha hb,c_check c d hc hd,h1,h2,c_compare]
    · simp (maxSteps:=999999) only [E0,seval,-Int.reduceNatCast',c_check a b ha hb,c_check c d hc hd,h1,h2,(show ¬ (120 : Int) = 0 by omega)]
  · simp (maxSteps:=999999) only [E0,seval,-Int.reduceNatCast',c_check a b ha hb,h1,(show ¬ (120 : Int) = 0 by omega)]
    simp only [false_and,if_false]
end
theorem NUM : (((0 : Nat) : Int) = 0 ∧ ((1 : Nat) : Int) = 1 ∧ ((2 : Nat) : Int) = 2 ∧ ((3 : Nat) : Int) = 3 ∧ ((4 : Nat) : Int) = 4) ∧
    (IntKind.i64.wrap 0 = 0 ∧ IntKind.i64.wrap 1 = 1 ∧ IntKind.i64.wrap 2 = 2 ∧ IntKind.i64.wrap 3 = 3 ∧ IntKind.i64.wrap 4 = 4) ∧
    ((0 : Int).toNat = 0 ∧ (1 : Int).toNat = 1 ∧ (2 : Int).toNat = 2 ∧ (3 : Int).toNat = 3 ∧ (4 : Int).toNat = 4):=by
  refine ⟨⟨rfl,rfl,rfl,rfl,rfl⟩,⟨?_,?_,?_,?_,?_⟩,⟨rfl,rfl,rfl,rfl,rfl⟩⟩ <;> exact i64_in (by unfold I64; omega)
theorem mkiK_int (t : Nat) (v : PV) (k : IntKind) : mkiK t v (some (.int k)) = some (.iface t v):=rfl
theorem c_ris3 (a b c : Int) : ap Tryz.prog pol 106 [.vs 1 [I a,I b,I c] (some 3)] = some (.ret (.bool (decide (a ≤ b ∧ b ≤ c)))):=by
  rw [ap_eq _ Tryz.func106 rfl Tryz.ntmps106 Tryz.results106 (by kernel_rfl) rfl (by exact Nat.le_of_ble_eq_true rfl)]
  by_cases h1 : b < a
  · simp (maxSteps:=999999) only [E0,seval,-Int.reduceNatCast',WW_loop,NUM,List.getElem?_cons_zero,List.getElem?_cons_succ,h1,(show ¬ a ≤ b by omega),false_and]
  · by_cases h2 : c < b
    · simp (maxSteps:=999999) only [E0,seval,-Int.reduceNatCast',WW_loop,NUM,List.getElem?_cons_zero,List.getElem?_cons_succ,h1,h2,(show ¬ b ≤ c by omega),and_false]
    · simp (maxSteps:=999999) only [E0,seval,-Int.reduceNatCast',WW_loop,NUM,List.getElem?_cons_zero,List.getElem?_cons_succ,h1,h2,(show a ≤ b by omega),(show b ≤ c by omega)]
theorem c_ris4 (a b c d : Int) : ap Tryz.prog pol 106 [.vs 1 [I a,I b,I c,I d] (some 4)] = some (.ret (.bool (decide (a ≤ b ∧ b ≤ c ∧ c ≤ d)))):=by
  rw [ap_eq _ Tryz.func106 rfl Tryz.ntmps106 Tryz.results106 (by kernel_rfl) rfl (by exact Nat.le_of_ble_eq_true rfl)]
  by_cases h1 : b < a
  · simp (maxSteps:=999999) only [E0,seval,-Int.reduceNatCast',WW_loop,NUM,List.getElem?_cons_zero,List.getElem?_cons_succ,h1,(show ¬ a ≤ b by omega),false_and]
  · by_cases h2 : c < b
    · simp (maxSteps:=999999) only [E0,seval,-Int.reduceNatCast',WW_loop,NUM,List.getElem?_cons_zero,List.getElem?_cons_succ,h1,h2,(show ¬ b ≤ c by omega),and_false,false_and]
    · by_cases h3 : d < c
      · simp (maxSteps:=999999) only [E0,seval,-Int.reduceNatCast',WW_loop,NUM,List.getElem?_cons_zero,List.getElem?_cons_succ,h1,h2,h3,(show ¬ c ≤ d by omega),and_false]
      · simp (maxSteps:=999999) only [E0,seval,-Int.reduceNatCast',WW_loop,NUM,List.getElem?_cons_zero,List.getElem?_cons_succ,h1,h2,h3,(show a ≤ b by omega),(show b ≤ c by omega),(show c ≤ d by omega)]
theorem c_index (i n : Int) : ap Tryz.prog pol 108 [I i,I n] = some (.ret (.bool (decide (0 ≤ i ∧ i < n)))):=by
  rw [ap_eq _ Tryz.func108 rfl Tryz.ntmps108 Tryz.results108 (by kernel_rfl) rfl (by exact Nat.le_of_ble_eq_true rfl)]
  by_cases h : 0 ≤ i
  · simp (maxSteps:=999999) only [E0,seval,-Int.reduceNatCast',h]
  · simp (maxSteps:=999999) only [E0,seval,-Int.reduceNatCast',h,false_and]
theorem c_demand (b : Bool) (e : Int) : ap Tryz.prog pol 91 [.bool b,I e] = if b = true then some (.ret (.tup [])) else some (.pan (.iface 155 (I e))):=by
  rw [ap_eq _ Tryz.func91 rfl Tryz.ntmps91 Tryz.results91 (by kernel_rfl) rfl (by exact Nat.le_of_ble_eq_true rfl)]
  cases b
  · simp (maxSteps:=999999) only [E0,seval,-Int.reduceNatCast',mkiK_int,if_false]
  · simp (maxSteps:=999999) only [E0,seval,-Int.reduceNatCast',if_true]
def SHR (a b c d : Int) : Prop:=VALID a b ∧ VALID c d ∧ 0 ≤ a ∧ CMP (w64 (a * d)) (w64 (c * b)) ≤ 0 ∧ c ≤ d
instance (a b c d : Int) : Decidable (SHR a b c d):=by unfold SHR; infer_instance
theorem b_iff {p q : Prop} [Decidable p] [Decidable q] (h : p ↔ q) : some (CR.ret (PV.bool (decide p))) = some (CR.ret (PV.bool (decide q))):=by rw [decide_eq_decide.2 h]
theorem b_no {q : Prop} [Decidable q] (h : ¬ q) : some (CR.ret (PV.bool false)) = some (CR.ret (PV.bool (decide q))):=by rw [decide_eq_false h]
theorem b_yes {q : Prop} [Decidable q] (h : q) : some (CR.ret (PV.bool true)) = some (CR.ret (PV.bool (decide q))):=by rw [decide_eq_true h]
theorem b_and {p q : Prop} [Decidable p] [Decidable q] : (if p then some (CR.ret (PV.bool (decide q))) else some (CR.ret (PV.bool false))) = some (CR.ret (PV.bool (decide (p ∧ q)))):=by
  by_cases h : p <;> simp [h]
theorem b_nand {p q : Prop} [Decidable p] [Decidable q] : (if p then some (CR.ret (PV.bool false)) else some (CR.ret (PV.bool (decide q)))) = some (CR.ret (PV.bool (decide (¬ p ∧ q)))):=by
  by_cases h : p <;> simp [h]
theorem b_f : some (CR.ret (PV.bool false)) = some (CR.ret (PV.bool (decide False))):=by simp
theorem b_t : some (CR.ret (PV.bool true)) = some (CR.ret (PV.bool (decide True))):=by simp
theorem c_share (a b c d : Int) (ha : I64 a) (hb : I64 b) (hc : I64 c) (hd : I64 d) : ap Tryz.prog pol 121 [.agg [I a,I b,I c,I d]] = some (.ret (.bool (decide (SHR a b c d)))):=by
  rw [ap_eq _ Tryz.func121 rfl Tryz.ntmps121 Tryz.results121 (by kernel_rfl) rfl (by exact Nat.le_of_ble_eq_true rfl)]
  by_cases h1 : VALID a b ∧ VALID c d
  · have e : CMPR a b c d = (CMP (w64 (a * d)) (w64 (c * b)),0):=by simp only [CMPR,h1,and_self,if_true]
    by_cases h2 : 0 ≤ a
    · by_cases h3 : CMP (w64 (a * d)) (w64 (c * b)) ≤ 0
      · simp (maxSteps:=999999) only [E0,seval,-Int.reduceNatCast',NUM,c_cmp a b c d ha hb hc hd,e,h2,h3]
        exact b_iff ⟨fun h => ⟨h1.1,h1.2,h2,h3,h⟩,fun h => h.2.2.2.2⟩
      · simp (maxSteps:=999999) only [E0,seval,-Int.reduceNatCast',NUM,c_cmp a b c d ha hb hc hd,e,h2,h3]
        exact b_no fun h => h3 h.2.2.2.1
    · simp (maxSteps:=999999) only [E0,seval,-Int.reduceNatCast',NUM,c_cmp a b c d ha hb hc hd,e,h2]
      exact b_no fun h => h2 h.2.2.1
  · have e : CMPR a b c d = (0,120):=by simp only [CMPR,h1,if_false]
    simp (maxSteps:=999999) only [E0,seval,-Int.reduceNatCast',NUM,c_cmp a b c d ha hb hc hd,e]
    exact b_no fun h => h1 ⟨h.1,h.2.1⟩
structure Rch where
  (nm : ByteArray) (up dl cp bk si e0 e1 s0 s1 s2 s3 : Int)
def Rch.OK (x : Rch) : Prop:=I64 x.s0 ∧ I64 x.s1 ∧ I64 x.s2 ∧ I64 x.s3
abbrev rch (x : Rch) : PV:=.agg [.str x.nm,I x.up,I x.dl,I x.cp,I x.bk,I x.si,I x.e0,I x.e1,I x.s0,I x.s1,I x.s2,I x.s3]
def RIN (x : Rch) : Prop:=(1 ≤ x.dl ∧ x.dl ≤ 16) ∧ (0 ≤ x.si ∧ x.si ≤ x.cp ∧ x.cp ≤ 1073741824) ∧ (0 ≤ x.si ∧ x.si ≤ x.bk ∧ x.bk ≤ 1099511627776) ∧ (0 ≤ x.e0 ∧ x.e0 ≤ x.e1 ∧ x.e1 ≤ 1073741824) ∧ SHR x.s0 x.s1 x.s2 x.s3
instance (x : Rch) : Decidable (RIN x):=by unfold RIN; infer_instance
def RUP (i : Nat) (x : Rch) : Prop:=(i = 0 ∧ x.up = -1) ∨ (0 < i ∧ 0 ≤ x.up ∧ x.up < i)
instance (i : Nat) (x : Rch) : Decidable (RUP i x):=by unfold RUP; infer_instance
theorem c_reach (i : Nat) (x : Rch) (h : x.OK) : ap Tryz.prog pol 107 [I i,rch x] = some (.ret (.bool (decide (RUP i x ∧ RIN x)))):=by
  obtain ⟨nm,up,dl,cp,bk,si,e0,e1,s0,s1,s2,s3⟩:=x
  obtain ⟨ha,hb,hc,hd⟩:=h
  simp only at ha hb hc hd
  rw [ap_eq _ Tryz.func107 rfl Tryz.ntmps107 Tryz.results107 (by kernel_rfl) rfl (by exact Nat.le_of_ble_eq_true rfl)]
  by_cases hi : i = 0
  · subst hi
    have e : RUP 0 ⟨nm,up,dl,cp,bk,si,e0,e1,s0,s1,s2,s3⟩ ↔ up = -1:=by simp [RUP]
    simp (maxSteps:=999999) only [E0,seval,-Int.reduceNatCast',NUM,c_ris3,c_ris4,c_share s0 s1 s2 s3 ha hb hc hd,b_and]
    refine b_iff ?_
    rw [e]
    unfold RIN
    simp only [and_assoc]
  · have e : RUP i ⟨nm,up,dl,cp,bk,si,e0,e1,s0,s1,s2,s3⟩ ↔ (0 ≤ up ∧ up < i):=by unfold RUP; simp only; omega
    simp (maxSteps:=999999) only [E0,seval,-Int.reduceNatCast',NUM,c_ris3,c_ris4,c_share s0 s1 s2 s3 ha hb hc hd,c_index,(show (0 : Int) < i by omega),b_and]
    refine b_iff ?_
    rw [e]
    unfold RIN
    simp only [and_assoc]
structure Frm where
  (nm : ByteArray) (at_ ar cr : Int)
abbrev frm (x : Frm) : PV:=.agg [.str x.nm,I x.at_,I x.ar,I x.cr]
structure Crp where
  (nm : ByteArray) (n : Int)
structure Rgt where
  (nm : ByteArray) (kd fm rc a b c d e f : Int)
abbrev rgt (x : Rgt) : PV:=.agg [.str x.nm,I x.kd,I x.fm,I x.rc,I x.a,I x.b,I x.c,I x.d,I x.e,I x.f]
theorem eq_rgt (x : Rgt) (c' d' : Int) (xo yo : Operand) : binPV Tryz.prog .eql 162 xo yo (rgt x) (rgt ⟨x.nm,x.kd,x.fm,x.rc,0,0,c',d',0,0⟩) = some (.bool (decide (x.a = 0 ∧ x.b = 0 ∧ x.c = c' ∧ x.d = d' ∧ x.e = 0 ∧ x.f = 0))):=by
  refine (bin_agg (by kernel_rfl) (fun n => ?_) xo yo).1
  have g2 : Tryz.prog.stoodInHeld 162 = false:=by kernel_rfl
  simp only [eqPV,Tryz.underlying162,g2,eqFs,partPV,FA,Option.bind_some,Bool.false_eq_true,if_false,List.getElem?_cons_zero,List.getElem?_cons_succ,if_true,String.reduceEq,beq_self_eq_true]
  have hn : (x.nm == x.nm) = true:=by
    show x.nm.beq x.nm = true
    unfold ByteArray.beq
    simp
  by_cases h1 : x.a = 0
  case neg => simp [hn,h1]
  by_cases h2 : x.b = 0
  case neg => simp [hn,h1,h2]
  by_cases h3 : x.c = c'
  case neg => simp [hn,h1,h2,h3]
  by_cases h4 : x.d = d'
  case neg => simp [hn,h1,h2,h3,h4]
  by_cases h5 : x.e = 0
  case neg => simp [hn,h1,h2,h3,h4,h5]
  by_cases h6 : x.f = 0
  case neg => simp [hn,h1,h2,h3,h4,h5,h6]
  simp [hn,h1,h2,h3,h4,h5,h6]
def RGT (hours nf nr : Int) (x : Rgt) : Prop:=(0 ≤ x.fm ∧ x.fm < nf) ∧ (0 ≤ x.rc ∧ x.rc < nr) ∧ (0 ≤ x.c ∧ x.c ≤ x.d ∧ x.d ≤ hours - 1) ∧
  (if x.kd = 1 then x.rc = 0 ∧ (0 ≤ x.a ∧ x.a ≤ 1048576) ∧ (1 ≤ x.b ∧ x.b ≤ 1073741824) ∧ (1 ≤ x.f ∧ x.f ≤ x.e ∧ x.e ≤ hours)
   else if x.kd = 2 then x.a = 0 ∧ x.b = 0 ∧ x.c = 0 ∧ x.d = hours - 1 ∧ x.e = 0 ∧ x.f = 0
   else if x.kd = 3 then x.a = 0 ∧ x.b = 0 ∧ x.e = 0 ∧ x.f = 0 else False)
instance (h nf nr : Int) (x : Rgt) : Decidable (RGT h nf nr x):=by unfold RGT; infer_instance
section
variable {p q : Prop} [Decidable p] [Decidable q] {H : Heap}
theorem h_and : (if p then some (CR.ret (PV.bool (decide q)),H) else some (CR.ret (PV.bool false),H)) = some (CR.ret (PV.bool (decide (p ∧ q))),H):=by
  by_cases h : p <;> simp [h]
theorem h_nand : (if p then some (CR.ret (PV.bool false),H) else some (CR.ret (PV.bool (decide q)),H)) = some (CR.ret (PV.bool (decide (¬ p ∧ q))),H):=by
  by_cases h : p <;> simp [h]
theorem h_iff (h : p ↔ q) : some (CR.ret (PV.bool (decide p)),H) = some (CR.ret (PV.bool (decide q)),H):=by rw [decide_eq_decide.2 h]
theorem h_f : some (CR.ret (PV.bool false),H) = some (CR.ret (PV.bool (decide False)),H):=by simp
end
abbrev dist (nm : ByteArray) (hours cap start : Int) (rs fs cs gs ds ws : PV) : PV:=.agg [.str nm,I hours,I cap,I start,rs,fs,cs,gs,ds,ws]
theorem c_right (nm : ByteArray) (hours cap start : Int) (rs fs : List PV) (rc fc : Option Nat) (cs gs ds ws : PV) (x : Rgt) (h1 : 1 ≤ hours) (h2 : hours ≤ 4096) (H : Heap) :
    callF G Tryz.prog pol 109 [dist nm hours cap start (.vs 12 rs rc) (.vs 4 fs fc) cs gs ds ws,rgt x] H = some (.ret (.bool (decide (RGT hours fs.length rs.length x))),⟨H.rows,H.next + 1⟩):=by
  have e2:=eq_rgt x 0 (hours - 1)
  have e3:=eq_rgt x x.c x.d
  obtain ⟨n,kd,fm,rc,a,b,c,d,e,f⟩:=x
  simp only at e2 e3
  rw [callF_eq _ _ Tryz.func109 rfl Tryz.ntmps109 Tryz.results109 (by kernel_rfl) rfl (by exact Nat.le_of_ble_eq_true rfl)]
  by_cases k1 : kd = 1
  · subst k1
    simp (maxSteps:=999999) only [E0,seval,-Int.reduceNatCast',NUM,c_index,c_ris3,c_ris4,i64_in (x:=hours - 1) (by unfold I64; omega),h_and,h_nand]
    refine h_iff ?_
    unfold RGT
    simp only [Int.reduceEq,if_true,Decidable.not_not]
  · by_cases k2 : kd = 2
    · subst k2
      simp (maxSteps:=999999) only [E0,seval,-Int.reduceNatCast',NUM,c_index,c_ris3,c_ris4,i64_in (x:=hours - 1) (by unfold I64; omega),e2,h_and,h_nand]
      refine h_iff ?_
      unfold RGT
      simp only [Int.reduceEq,if_true,if_false,Decidable.not_not]
    · by_cases k3 : kd = 3
      · subst k3
        simp (maxSteps:=999999) only [E0,seval,-Int.reduceNatCast',NUM,c_index,c_ris3,c_ris4,i64_in (x:=hours - 1) (by unfold I64; omega),e3,h_and,h_nand]
        refine h_iff ?_
        unfold RGT
        simp only [Int.reduceEq,if_true,if_false,Decidable.not_not,true_and]
      · simp (maxSteps:=999999) only [E0,seval,-Int.reduceNatCast',NUM,c_index,c_ris3,c_ris4,i64_in (x:=hours - 1) (by unfold I64; omega),k1,k2,k3]
        rw [decide_eq_false (p:=RGT ..) (by unfold RGT; simp only [k1,k2,k3,if_false,and_false]; exact id)]
        simp only [ite_self]
structure SL (sz : Nat) (l : List PV) (v : PV) : Prop where
  len : ∀ e,lenK (some (.slice e)) v = some (.int .i64 l.length)
  at_ : ∀ k : Int,iAddrK (some sz) v (some k) = if 0 ≤ k ∧ k < l.length then rowC l[k.toNat]? else none
theorem SL_vs (sz : Nat) (l : List PV) (c : Option Nat) : SL sz l (.vs sz l c):=
  ⟨fun _ => rfl,fun k => by rw [iAddrK_vs]; simp⟩
theorem SL_nils (sz : Nat) : SL sz [] .nils:=
  ⟨fun _ => rfl,fun k => by rw [iAddrK_nils,if_neg (by rw [List.length_nil]; omega)]⟩
abbrev crp (x : Crp) : PV:=.agg [.str x.nm,I x.n]
structure Dty where
  (nm : ByteArray) (fm rc due : Int)
abbrev dty (x : Dty) : PV:=.agg [.str x.nm,I x.fm,I x.rc,I x.due]
def CRPK (x : Crp) : Prop:=0 ≤ x.n ∧ x.n ≤ 1048576
instance (x : Crp) : Decidable (CRPK x):=by unfold CRPK; infer_instance
def FRMK (nr nc : Int) (x : Frm) : Prop:=(0 ≤ x.at_ ∧ x.at_ < nr) ∧ (0 ≤ x.ar ∧ x.ar ≤ 1048576) ∧ (if 0 < x.ar then 0 ≤ x.cr ∧ x.cr < nc else x.cr = -1)
instance (a b : Int) (x : Frm) : Decidable (FRMK a b x):=by unfold FRMK; infer_instance
def DTYK (hours nf nr : Int) (x : Dty) : Prop:=(0 ≤ x.fm ∧ x.fm < nf) ∧ (0 ≤ x.rc ∧ x.rc < nr) ∧ (0 ≤ x.due ∧ x.due ≤ hours)
instance (a b c : Int) (x : Dty) : Decidable (DTYK a b c x):=by unfold DTYK; infer_instance
def ALLI {α : Type} (P : Nat → α → Prop) (l : List α) : Prop:=∀ i x,l[i]? = some x → P i x
theorem ALLI_take {α : Type} {P : Nat → α → Prop} {l : List α} {j : Nat} {x : α} (h : ALLI P (l.take j)) (e : l[j]? = some x) (hx : P j x) : ALLI P (l.take (j + 1)):=by
  intro i y hy
  rw [List.getElem?_take] at hy
  split at hy
  · by_cases hi : i = j
    · subst hi
      rw [e] at hy
      cases hy; exact hx
    · exact h i y (by rw [List.getElem?_take,if_pos (by omega)]; exact hy)
  · simp at hy
structure Dis where
  (nm : ByteArray) (hours cap start : Int) (rs : List Rch) (fs : List Frm) (cs : List Crp) (gs : List Rgt) (ds : List Dty)
def Dis.K (D : Dis) : Prop:=(1 ≤ D.hours ∧ D.hours ≤ 4096) ∧ (0 ≤ D.start ∧ D.start ≤ D.cap ∧ D.cap ≤ 1099511627776) ∧ 0 < D.rs.length ∧
  ALLI (fun i x => RUP i x ∧ RIN x) D.rs ∧ ALLI (fun _ x => CRPK x) D.cs ∧ ALLI (fun _ x => FRMK D.rs.length D.cs.length x) D.fs ∧
  ALLI (fun _ x => RGT D.hours D.fs.length D.rs.length x) D.gs ∧ ALLI (fun _ x => DTYK D.hours D.fs.length D.rs.length x) D.ds
def EX (D : List PV) (e : Int) (H : Heap) (s : St) : Prop:=s.tmps 2 = .bptr H.next 2 0 0 ∧ s.tmps 1 = I e ∧ s.boxes 2 = some (0,D) ∧ s.defers = [] ∧ s.fid = H.next ∧ s.H.rows = H.rows ∧ H.next ≤ s.H.next
def PEX (e : Int) (H : Heap) (ex : Ex) (s : St) : Prop:=ex = .pan (.iface 155 (I e)) ∧ s.defers = [] ∧ s.H.rows = H.rows ∧ H.next ≤ s.H.next
theorem endK_p {P : Program} {pol : Pol} {rs : List ResultVar} {v : PV} {s : St} (h : s.defers = []) : endK P pol rs (some v) s = some (.pan v,s.H):=by
  obtain ⟨f,t,b,d,H,rc⟩:=s
  simp only at h; subst h; rfl
theorem c_examine (D : Dis) (hr : ∀ x ∈ D.rs,x.OK) (l1 : D.rs.length ≤ 10000) (l2 : D.fs.length ≤ 10000) (l3 : D.cs.length ≤ 10000) (l4 : D.gs.length ≤ 10000) (l5 : D.ds.length ≤ 10000)
    (rc fc : Option Nat) (cs gs ds ws : PV) (hcs : SL 2 (D.cs.map crp) cs) (hgs : SL 10 (D.gs.map rgt) gs) (hds : SL 4 (D.ds.map dty) ds) (e : Int) (H : Heap) (X : Option (CR × Heap))
    (hX : callF G Tryz.prog pol 92 [dist D.nm D.hours D.cap D.start (.vs 12 (D.rs.map rch) rc) (.vs 4 (D.fs.map frm) fc) cs gs ds ws,I e] H = X) :
    ∃ H' r,X = some (r,H') ∧ H'.rows = H.rows ∧ H.next ≤ H'.next ∧ ((D.K ∧ r = .ret (.tup [])) ∨ (¬ D.K ∧ r = .pan (.iface 155 (I e)))):=by
  subst hX
  obtain ⟨nm,hours,cap,start,rs,fs,cl,gl,dl⟩:=D
  simp only at *
  rw [callF_eq _ _ Tryz.func92 rfl Tryz.ntmps92 Tryz.results92 (by kernel_rfl) rfl (by exact Nat.le_of_ble_eq_true rfl)]
  by_cases a1 : 1 ≤ hours ∧ hours ≤ 4096
  rotate_left
  · simp (maxSteps:=999999) only [E0,seval,-Int.reduceNatCast',NUM,c_ris3,a1,c_demand]
    exact ⟨_,_,rfl,rfl,by simp,.inr ⟨fun h => a1 h.1,rfl⟩⟩
  by_cases a2 : 0 ≤ start ∧ start ≤ cap ∧ cap ≤ 1099511627776
  rotate_left
  · simp (maxSteps:=999999) only [E0,seval,-Int.reduceNatCast',NUM,c_ris3,c_ris4,a1,a2,c_demand]
    exact ⟨_,_,rfl,rfl,by simp,.inr ⟨fun h => a2 h.2.1,rfl⟩⟩
  by_cases a3 : 0 < rs.length
  rotate_left
  · simp (maxSteps:=999999) only [E0,seval,-Int.reduceNatCast',NUM,c_ris3,c_ris4,a1,a2,c_demand,List.length_map,(show ¬ 0 < (rs.length : Int) by omega)]
    exact ⟨_,_,rfl,rfl,by simp,.inr ⟨fun h => a3 h.2.2.1,rfl⟩⟩
  simp (maxSteps:=999999) only [E0,seval,-Int.reduceNatCast',NUM,c_ris3,c_ris4,a1,a2,c_demand,List.length_map,(show 0 < (rs.length : Int) by omega)]
  generalize hL : W _ (.loop _) _ = L
  obtain ⟨ex,s,rfl,hex⟩:=loop_at hL (α:=Nat) (fun j => rs.length - j)
    (fun s0 j s => j ≤ rs.length ∧ ALLI (fun i x => RUP i x ∧ RIN x) (rs.take j) ∧ s.tmps 40 = I j ∧ s.tmps 39 = I rs.length ∧ s.tmps 38 = (.vs 12 (rs.map rch) rc) ∧ EX [.str nm,I hours,I cap,I start,.vs 12 (rs.map rch) rc,.vs 4 (fs.map frm) fc,cs,gs,ds,ws] e H s)
    (fun s0 ex s => (ex = .exit 0 ∧ ALLI (fun i x => RUP i x ∧ RIN x) rs ∧ EX [.str nm,I hours,I cap,I start,.vs 12 (rs.map rch) rc,.vs 4 (fs.map frm) fc,cs,gs,ds,ws] e H s) ∨ (PEX e H ex s ∧ ¬ ALLI (fun i x => RUP i x ∧ RIN x) rs)) 0
    (by simp (maxSteps:=999999) only [E0,seval,-Int.reduceNatCast',EX,start_tm,List.take_zero]
        refine ⟨Nat.zero_le _,fun i x h => by simp at h,?_⟩
        simp) (by
      rintro j s r hW ⟨hj,ht,h40,h39,h38,x2,x1,xb,xd,xf,xh,xn⟩
      by_cases hp : j < rs.length
      · have e0 : rs[j]? = some rs[j]:=List.getElem?_eq_getElem hp
        have e1 : (rs.map rch)[j]? = some (rch rs[j]):=by simp [e0]
        generalize rs[j] = x at e0 e1
        by_cases hx : (RUP j x ∧ RIN x)
        · simp (maxSteps:=999999) only [E0,seval,-Int.reduceNatCast',NUM,h40,h39,h38,x2,x1,xb,xd,xf,e1,c_demand,List.length_map,hcs.len,hgs.len,hds.len,c_reach j x (hr x (List.mem_of_getElem? e0)),hx,Int.toNat_natCast,(show (j : Int) < rs.length by omega),(show (0 : Int) ≤ j by omega),(i64_in (x:=(j : Int) + 1) (by unfold I64; omega))] at hW
          subst hW
          refine rd_next (j + 1) ?_ (show rs.length - (j + 1) < rs.length - j by omega)
          refine ⟨by omega,ALLI_take ht e0 hx,?_⟩
          simp (maxSteps:=999999) only [E0,seval,-Int.reduceNatCast',EX,h39,h38,x2,x1,xb,xh]
          exact ⟨by congr 1,by omega⟩
        · simp (maxSteps:=999999) only [E0,seval,-Int.reduceNatCast',NUM,h40,h39,h38,x2,x1,xb,xd,xf,e1,c_demand,List.length_map,hcs.len,hgs.len,hds.len,c_reach j x (hr x (List.mem_of_getElem? e0)),hx,Int.toNat_natCast,(show (j : Int) < rs.length by omega),(show (0 : Int) ≤ j by omega),(i64_in (x:=(j : Int) + 1) (by unfold I64; omega))] at hW
          subst hW
          refine rd_pan (.inr ⟨⟨rfl,?_⟩,fun h => hx (h j x e0)⟩)
          simp (maxSteps:=999999) only [E0,seval,-Int.reduceNatCast',xh]
          omega
      · simp (maxSteps:=999999) only [E0,seval,-Int.reduceNatCast',h40,h39,h38,x2,x1,xb,xd,xf,(show ¬ (j : Int) < rs.length by omega)] at hW
        subst hW
        rw [List.take_of_length_le (by omega)] at ht
        refine rd_exit (.inl ⟨rfl,ht,?_⟩)
        simp (maxSteps:=999999) only [E0,seval,-Int.reduceNatCast',EX,x2,x1,xb,xh]
        exact xn)
  rcases hex with ⟨rfl,b0,x2,x1,xb,xd,xf,xh,xn⟩ | ⟨⟨rfl,xd,xh,xn⟩,hbad⟩
  rotate_left
  · simp (maxSteps:=999999) only [E0,seval,-Int.reduceNatCast',xd,endK_p xd]
    exact ⟨_,_,rfl,xh,xn,.inr ⟨fun h => hbad h.2.2.2.1,rfl⟩⟩
  simp (maxSteps:=999999) only [E0,seval,-Int.reduceNatCast',x2,x1,xb,xd,xf,List.length_map,hcs.len,hgs.len,hds.len]
  clear hL
  generalize hL : W _ (.loop _) _ = L
  obtain ⟨ex,s,rfl,hex⟩:=loop_at hL (α:=Nat) (fun j => cl.length - j)
    (fun s0 j s => j ≤ cl.length ∧ ALLI (fun _ x => CRPK x) (cl.take j) ∧ s.tmps 54 = I j ∧ s.tmps 53 = I cl.length ∧ s.tmps 52 = cs ∧ EX [.str nm,I hours,I cap,I start,.vs 12 (rs.map rch) rc,.vs 4 (fs.map frm) fc,cs,gs,ds,ws] e H s)
    (fun s0 ex s => (ex = .exit 2 ∧ ALLI (fun _ x => CRPK x) cl ∧ EX [.str nm,I hours,I cap,I start,.vs 12 (rs.map rch) rc,.vs 4 (fs.map frm) fc,cs,gs,ds,ws] e H s) ∨ (PEX e H ex s ∧ ¬ ALLI (fun _ x => CRPK x) cl)) 0
    (by simp (maxSteps:=999999) only [E0,seval,-Int.reduceNatCast',EX,x2,x1,xb,xd,xf,xh,List.take_zero]
        refine ⟨Nat.zero_le _,fun i x h => by simp at h,?_⟩
        simp [xn]) (by
      rintro j s r hW ⟨hj,ht,h54,h53,h52,x2,x1,xb,xd,xf,xh,xn⟩
      by_cases hp : j < cl.length
      · have e0 : cl[j]? = some cl[j]:=List.getElem?_eq_getElem hp
        have e1 : (cl.map crp)[j]? = some (crp cl[j]):=by simp [e0]
        generalize cl[j] = x at e0 e1
        simp (maxSteps:=999999) only [E0,seval,-Int.reduceNatCast',NUM,h54,h53,h52,x2,x1,xb,xd,xf,e1,c_demand,List.length_map,hcs.len,hgs.len,hds.len,c_ris3,hcs.at_,Int.toNat_natCast,(show (j : Int) < cl.length by omega),(show (0 : Int) ≤ j by omega),(i64_in (x:=(j : Int) + 1) (by unfold I64; omega))] at hW
        subst hW
        refine rd_ite (fun y1 => ?_) (fun y1 => ?_)
        · refine rd_next (j + 1) ?_ (show cl.length - (j + 1) < cl.length - j by omega)
          refine ⟨by omega,ALLI_take ht e0 y1,?_⟩
          simp (maxSteps:=999999) only [E0,seval,-Int.reduceNatCast',EX,h53,h52,x2,x1,xb,xh]
          exact ⟨by congr 1,by omega⟩
        · refine rd_pan (.inr ⟨⟨rfl,?_⟩,fun h => y1 (h j x e0)⟩)
          simp (maxSteps:=999999) only [E0,seval,-Int.reduceNatCast',xh]
          omega
      · simp (maxSteps:=999999) only [E0,seval,-Int.reduceNatCast',h54,h53,h52,x2,x1,xb,xd,xf,(show ¬ (j : Int) < cl.length by omega)] at hW
        subst hW
        rw [List.take_of_length_le (by omega)] at ht
        refine rd_exit (.inl ⟨rfl,ht,?_⟩)
        simp (maxSteps:=999999) only [E0,seval,-Int.reduceNatCast',EX,x2,x1,xb,xh]
        exact xn)
  rcases hex with ⟨rfl,b1,x2,x1,xb,xd,xf,xh,xn⟩ | ⟨⟨rfl,xd,xh,xn⟩,hbad⟩
  rotate_left
  · simp (maxSteps:=999999) only [E0,seval,-Int.reduceNatCast',xd,endK_p xd]
    exact ⟨_,_,rfl,xh,xn,.inr ⟨fun h => hbad h.2.2.2.2.1,rfl⟩⟩
  simp (maxSteps:=999999) only [E0,seval,-Int.reduceNatCast',x2,x1,xb,xd,xf,List.length_map,hcs.len,hgs.len,hds.len]
  clear hL
  generalize hL : W _ (.loop _) _ = L
  obtain ⟨ex,s,rfl,hex⟩:=loop_at hL (α:=Nat) (fun j => fs.length - j)
    (fun s0 j s => j ≤ fs.length ∧ ALLI (fun _ x => FRMK rs.length cl.length x) (fs.take j) ∧ s.tmps 68 = I j ∧ s.tmps 67 = I fs.length ∧ s.tmps 66 = (.vs 4 (fs.map frm) fc) ∧ EX [.str nm,I hours,I cap,I start,.vs 12 (rs.map rch) rc,.vs 4 (fs.map frm) fc,cs,gs,ds,ws] e H s)
    (fun s0 ex s => (ex = .exit 4 ∧ ALLI (fun _ x => FRMK rs.length cl.length x) fs ∧ EX [.str nm,I hours,I cap,I start,.vs 12 (rs.map rch) rc,.vs 4 (fs.map frm) fc,cs,gs,ds,ws] e H s) ∨ (PEX e H ex s ∧ ¬ ALLI (fun _ x => FRMK rs.length cl.length x) fs)) 0
    (by simp (maxSteps:=999999) only [E0,seval,-Int.reduceNatCast',EX,x2,x1,xb,xd,xf,xh,List.take_zero]
        refine ⟨Nat.zero_le _,fun i x h => by simp at h,?_⟩
        simp [xn]) (by
      rintro j s r hW ⟨hj,ht,h68,h67,h66,x2,x1,xb,xd,xf,xh,xn⟩
      by_cases hp : j < fs.length
      · have e0 : fs[j]? = some fs[j]:=List.getElem?_eq_getElem hp
        have e1 : (fs.map frm)[j]? = some (frm fs[j]):=by simp [e0]
        generalize fs[j] = x at e0 e1
        by_cases hx0 : 0 < x.ar
        · have ek : FRMK rs.length cl.length x ↔ ((0 ≤ x.at_ ∧ x.at_ < rs.length) ∧ (0 ≤ x.ar ∧ x.ar ≤ 1048576) ∧ (0 ≤ x.cr ∧ x.cr < cl.length)):=by unfold FRMK; simp only [hx0,if_true,if_false]
          simp (maxSteps:=999999) only [E0,seval,-Int.reduceNatCast',NUM,h68,h67,h66,x2,x1,xb,xd,xf,e1,c_demand,List.length_map,hcs.len,hgs.len,hds.len,c_ris3,c_index,hcs.len,hx0,Int.toNat_natCast,(show (j : Int) < fs.length by omega),(show (0 : Int) ≤ j by omega),(i64_in (x:=(j : Int) + 1) (by unfold I64; omega))] at hW
          subst hW
          refine rd_ite (fun y1 => ?_) (fun y1 => ?_)
          · refine rd_ite (fun y2 => ?_) (fun y2 => ?_)
            · refine rd_ite (fun y3 => ?_) (fun y3 => ?_)
              · refine rd_next (j + 1) ?_ (show fs.length - (j + 1) < fs.length - j by omega)
                refine ⟨by omega,ALLI_take ht e0 (ek.2 ⟨y2,y3,y1⟩),?_⟩
                simp (maxSteps:=999999) only [E0,seval,-Int.reduceNatCast',EX,h67,h66,x2,x1,xb,xh]
                exact ⟨by congr 1,by omega⟩
              · refine rd_pan (.inr ⟨⟨rfl,?_⟩,fun h => y3 (ek.1 (h j x e0)).2.1⟩)
                simp (maxSteps:=999999) only [E0,seval,-Int.reduceNatCast',xh]
                omega
            · refine rd_pan (.inr ⟨⟨rfl,?_⟩,fun h => y2 (ek.1 (h j x e0)).1⟩)
              simp (maxSteps:=999999) only [E0,seval,-Int.reduceNatCast',xh]
              omega
          · refine rd_pan (.inr ⟨⟨rfl,?_⟩,fun h => y1 (ek.1 (h j x e0)).2.2⟩)
            simp (maxSteps:=999999) only [E0,seval,-Int.reduceNatCast',xh]
            omega
        · have ek : FRMK rs.length cl.length x ↔ ((0 ≤ x.at_ ∧ x.at_ < rs.length) ∧ (0 ≤ x.ar ∧ x.ar ≤ 1048576) ∧ (x.cr = -1)):=by unfold FRMK; simp only [hx0,if_true,if_false]
          simp (maxSteps:=999999) only [E0,seval,-Int.reduceNatCast',NUM,h68,h67,h66,x2,x1,xb,xd,xf,e1,c_demand,List.length_map,hcs.len,hgs.len,hds.len,c_ris3,c_index,hcs.len,hx0,Int.toNat_natCast,(show (j : Int) < fs.length by omega),(show (0 : Int) ≤ j by omega),(i64_in (x:=(j : Int) + 1) (by unfold I64; omega))] at hW
          subst hW
          refine rd_ite (fun y1 => ?_) (fun y1 => ?_)
          · refine rd_ite (fun y2 => ?_) (fun y2 => ?_)
            · refine rd_ite (fun y3 => ?_) (fun y3 => ?_)
              · refine rd_next (j + 1) ?_ (show fs.length - (j + 1) < fs.length - j by omega)
                refine ⟨by omega,ALLI_take ht e0 (ek.2 ⟨y2,y3,y1⟩),?_⟩
                simp (maxSteps:=999999) only [E0,seval,-Int.reduceNatCast',EX,h67,h66,x2,x1,xb,xh]
                exact ⟨by congr 1,by omega⟩
              · refine rd_pan (.inr ⟨⟨rfl,?_⟩,fun h => y3 (ek.1 (h j x e0)).2.1⟩)
                simp (maxSteps:=999999) only [E0,seval,-Int.reduceNatCast',xh]
                omega
            · refine rd_pan (.inr ⟨⟨rfl,?_⟩,fun h => y2 (ek.1 (h j x e0)).1⟩)
              simp (maxSteps:=999999) only [E0,seval,-Int.reduceNatCast',xh]
              omega
          · refine rd_pan (.inr ⟨⟨rfl,?_⟩,fun h => y1 (ek.1 (h j x e0)).2.2⟩)
            simp (maxSteps:=999999) only [E0,seval,-Int.reduceNatCast',xh]
            omega
      · simp (maxSteps:=999999) only [E0,seval,-Int.reduceNatCast',h68,h67,h66,x2,x1,xb,xd,xf,(show ¬ (j : Int) < fs.length by omega)] at hW
        subst hW
        rw [List.take_of_length_le (by omega)] at ht
        refine rd_exit (.inl ⟨rfl,ht,?_⟩)
        simp (maxSteps:=999999) only [E0,seval,-Int.reduceNatCast',EX,x2,x1,xb,xh]
        exact xn)
  rcases hex with ⟨rfl,b2,x2,x1,xb,xd,xf,xh,xn⟩ | ⟨⟨rfl,xd,xh,xn⟩,hbad⟩
  rotate_left
  · simp (maxSteps:=999999) only [E0,seval,-Int.reduceNatCast',xd,endK_p xd]
    exact ⟨_,_,rfl,xh,xn,.inr ⟨fun h => hbad h.2.2.2.2.2.1,rfl⟩⟩
  simp (maxSteps:=999999) only [E0,seval,-Int.reduceNatCast',x2,x1,xb,xd,xf,List.length_map,hcs.len,hgs.len,hds.len]
  clear hL
  generalize hL : W _ (.loop _) _ = L
  obtain ⟨ex,s,rfl,hex⟩:=loop_at hL (α:=Nat) (fun j => gl.length - j)
    (fun s0 j s => j ≤ gl.length ∧ ALLI (fun _ x => RGT hours fs.length rs.length x) (gl.take j) ∧ s.tmps 105 = I j ∧ s.tmps 104 = I gl.length ∧ s.tmps 103 = gs ∧ EX [.str nm,I hours,I cap,I start,.vs 12 (rs.map rch) rc,.vs 4 (fs.map frm) fc,cs,gs,ds,ws] e H s)
    (fun s0 ex s => (ex = .exit 6 ∧ ALLI (fun _ x => RGT hours fs.length rs.length x) gl ∧ EX [.str nm,I hours,I cap,I start,.vs 12 (rs.map rch) rc,.vs 4 (fs.map frm) fc,cs,gs,ds,ws] e H s) ∨ (PEX e H ex s ∧ ¬ ALLI (fun _ x => RGT hours fs.length rs.length x) gl)) 0
    (by simp (maxSteps:=999999) only [E0,seval,-Int.reduceNatCast',EX,x2,x1,xb,xd,xf,xh,List.take_zero]
        refine ⟨Nat.zero_le _,fun i x h => by simp at h,?_⟩
        simp [xn]) (by
      rintro j s r hW ⟨hj,ht,h105,h104,h103,x2,x1,xb,xd,xf,xh,xn⟩
      by_cases hp : j < gl.length
      · have e0 : gl[j]? = some gl[j]:=List.getElem?_eq_getElem hp
        have e1 : (gl.map rgt)[j]? = some (rgt gl[j]):=by simp [e0]
        generalize gl[j] = x at e0 e1
        by_cases hx : RGT hours fs.length rs.length x
        · simp (maxSteps:=999999) only [E0,seval,-Int.reduceNatCast',NUM,h105,h104,h103,x2,x1,xb,xd,xf,e1,c_demand,List.length_map,hcs.len,hgs.len,hds.len,c_right nm hours cap start _ _ rc fc cs gs ds ws x a1.1 a1.2,hgs.at_,hx,Int.toNat_natCast,(show (j : Int) < gl.length by omega),(show (0 : Int) ≤ j by omega),(i64_in (x:=(j : Int) + 1) (by unfold I64; omega))] at hW
          subst hW
          refine rd_next (j + 1) ?_ (show gl.length - (j + 1) < gl.length - j by omega)
          refine ⟨by omega,ALLI_take ht e0 hx,?_⟩
          simp (maxSteps:=999999) only [E0,seval,-Int.reduceNatCast',EX,h104,h103,x2,x1,xb,xh]
          exact ⟨by congr 1,by omega⟩
        · simp (maxSteps:=999999) only [E0,seval,-Int.reduceNatCast',NUM,h105,h104,h103,x2,x1,xb,xd,xf,e1,c_demand,List.length_map,hcs.len,hgs.len,hds.len,c_right nm hours cap start _ _ rc fc cs gs ds ws x a1.1 a1.2,hgs.at_,hx,Int.toNat_natCast,(show (j : Int) < gl.length by omega),(show (0 : Int) ≤ j by omega),(i64_in (x:=(j : Int) + 1) (by unfold I64; omega))] at hW
          subst hW
          refine rd_pan (.inr ⟨⟨rfl,?_⟩,fun h => hx (h j x e0)⟩)
          simp (maxSteps:=999999) only [E0,seval,-Int.reduceNatCast',xh]
          omega
      · simp (maxSteps:=999999) only [E0,seval,-Int.reduceNatCast',h105,h104,h103,x2,x1,xb,xd,xf,(show ¬ (j : Int) < gl.length by omega)] at hW
        subst hW
        rw [List.take_of_length_le (by omega)] at ht
        refine rd_exit (.inl ⟨rfl,ht,?_⟩)
        simp (maxSteps:=999999) only [E0,seval,-Int.reduceNatCast',EX,x2,x1,xb,xh]
        exact xn)
  rcases hex with ⟨rfl,b3,x2,x1,xb,xd,xf,xh,xn⟩ | ⟨⟨rfl,xd,xh,xn⟩,hbad⟩
  rotate_left
  · simp (maxSteps:=999999) only [E0,seval,-Int.reduceNatCast',xd,endK_p xd]
    exact ⟨_,_,rfl,xh,xn,.inr ⟨fun h => hbad h.2.2.2.2.2.2.1,rfl⟩⟩
  simp (maxSteps:=999999) only [E0,seval,-Int.reduceNatCast',x2,x1,xb,xd,xf,List.length_map,hcs.len,hgs.len,hds.len]
  clear hL
  generalize hL : W _ (.loop _) _ = L
  obtain ⟨ex,s,rfl,hex⟩:=loop_at hL (α:=Nat) (fun j => dl.length - j)
    (fun s0 j s => j ≤ dl.length ∧ ALLI (fun _ x => DTYK hours fs.length rs.length x) (dl.take j) ∧ s.tmps 118 = I j ∧ s.tmps 117 = I dl.length ∧ s.tmps 116 = ds ∧ EX [.str nm,I hours,I cap,I start,.vs 12 (rs.map rch) rc,.vs 4 (fs.map frm) fc,cs,gs,ds,ws] e H s)
    (fun s0 ex s => (ex = .exit 8 ∧ ALLI (fun _ x => DTYK hours fs.length rs.length x) dl ∧ EX [.str nm,I hours,I cap,I start,.vs 12 (rs.map rch) rc,.vs 4 (fs.map frm) fc,cs,gs,ds,ws] e H s) ∨ (PEX e H ex s ∧ ¬ ALLI (fun _ x => DTYK hours fs.length rs.length x) dl)) 0
    (by simp (maxSteps:=999999) only [E0,seval,-Int.reduceNatCast',EX,x2,x1,xb,xd,xf,xh,List.take_zero]
        refine ⟨Nat.zero_le _,fun i x h => by simp at h,?_⟩
        simp [xn]) (by
      rintro j s r hW ⟨hj,ht,h118,h117,h116,x2,x1,xb,xd,xf,xh,xn⟩
      by_cases hp : j < dl.length
      · have e0 : dl[j]? = some dl[j]:=List.getElem?_eq_getElem hp
        have e1 : (dl.map dty)[j]? = some (dty dl[j]):=by simp [e0]
        generalize dl[j] = x at e0 e1
        simp (maxSteps:=999999) only [E0,seval,-Int.reduceNatCast',NUM,h118,h117,h116,x2,x1,xb,xd,xf,e1,c_demand,List.length_map,hcs.len,hgs.len,hds.len,c_ris3,c_index,hds.at_,Int.toNat_natCast,(show (j : Int) < dl.length by omega),(show (0 : Int) ≤ j by omega),(i64_in (x:=(j : Int) + 1) (by unfold I64; omega))] at hW
        subst hW
        refine rd_ite (fun y1 => ?_) (fun y1 => ?_)
        · refine rd_ite (fun y2 => ?_) (fun y2 => ?_)
          · refine rd_ite (fun y3 => ?_) (fun y3 => ?_)
            · refine rd_next (j + 1) ?_ (show dl.length - (j + 1) < dl.length - j by omega)
              refine ⟨by omega,ALLI_take ht e0 ⟨y1,y2,y3⟩,?_⟩
              simp (maxSteps:=999999) only [E0,seval,-Int.reduceNatCast',EX,h117,h116,x2,x1,xb,xh]
              exact ⟨by congr 1,by omega⟩
            · refine rd_pan (.inr ⟨⟨rfl,?_⟩,fun h => y3 (h j x e0).2.2⟩)
              simp (maxSteps:=999999) only [E0,seval,-Int.reduceNatCast',xh]
              omega
          · refine rd_pan (.inr ⟨⟨rfl,?_⟩,fun h => y2 (h j x e0).2.1⟩)
            simp (maxSteps:=999999) only [E0,seval,-Int.reduceNatCast',xh]
            omega
        · refine rd_pan (.inr ⟨⟨rfl,?_⟩,fun h => y1 (h j x e0).1⟩)
          simp (maxSteps:=999999) only [E0,seval,-Int.reduceNatCast',xh]
          omega
      · simp (maxSteps:=999999) only [E0,seval,-Int.reduceNatCast',h118,h117,h116,x2,x1,xb,xd,xf,(show ¬ (j : Int) < dl.length by omega)] at hW
        subst hW
        rw [List.take_of_length_le (by omega)] at ht
        refine rd_exit (.inl ⟨rfl,ht,?_⟩)
        simp (maxSteps:=999999) only [E0,seval,-Int.reduceNatCast',EX,x2,x1,xb,xh]
        exact xn)
  rcases hex with ⟨rfl,b4,x2,x1,xb,xd,xf,xh,xn⟩ | ⟨⟨rfl,xd,xh,xn⟩,hbad⟩
  rotate_left
  · simp (maxSteps:=999999) only [E0,seval,-Int.reduceNatCast',xd,endK_p xd]
    exact ⟨_,_,rfl,xh,xn,.inr ⟨fun h => hbad h.2.2.2.2.2.2.2,rfl⟩⟩
  simp (maxSteps:=999999) only [E0,seval,-Int.reduceNatCast',x2,x1,xb,xd,xf,List.length_map,hcs.len,hgs.len,hds.len]
  clear hL
  exact ⟨_,_,rfl,xh,xn,.inl ⟨⟨a1,a2,a3,b0,b1,b2,b3,b4⟩,rfl⟩⟩
theorem c_caught (e : Int) : ap Tryz.prog pol 90 [.iface 155 (I e)] = some (.ret (I e)):=by
  rw [ap_eq _ Tryz.func90 rfl Tryz.ntmps90 Tryz.results90 (by kernel_rfl) rfl (by exact Nat.le_of_ble_eq_true rfl)]
  simp (maxSteps:=999999) only [E0,seval,-Int.reduceNatCast',BRU]
theorem neq_nil (xo : Operand) (k : Value) : binPV Tryz.prog .neq 20 xo (.const k) .nili .nili = some (.bool false):=by
  have e : (isC xo || isC (.const k)) = true:=by simp [isC]
  have : eqPV Tryz.prog Op.maxDepth 20 .nili .nili = some true:=by kernel_rfl
  simp only [binPV,eqOp]
  rw [this,if_pos e]; rfl
theorem neq_iface (xo yo : Operand) (t : Nat) (v : PV) : binPV Tryz.prog .neq 20 xo yo (.iface t v) .nili = some (.bool true):=by
  simp only [binPV,eqOp]
  have : ∀ n,eqPV Tryz.prog (n + 1) 20 (.iface t v) .nili = some false:=by
    intro n
    simp only [eqPV,Tryz.underlying20]
  rw [show Op.maxDepth = 9999 + 1 from rfl,this]; rfl
def Dis.LEN (D : Dis) : Prop:=D.rs.length ≤ 64 ∧ D.fs.length ≤ 600 ∧ D.cs.length ≤ 32 ∧ D.gs.length ≤ 256 ∧ D.ds.length ≤ 256
instance (D : Dis) : Decidable D.LEN:=by unfold Dis.LEN; infer_instance
theorem c_xcheck (D : Dis) (hr : ∀ x ∈ D.rs,x.OK)
    (rc fc : Option Nat) (cs gs ds ws : PV) (hcs : SL 2 (D.cs.map crp) cs) (hgs : SL 10 (D.gs.map rgt) gs) (hds : SL 4 (D.ds.map dty) ds) (H : Heap) (X : Option (CR × Heap))
    (hX : callF G Tryz.prog pol 77 [dist D.nm D.hours D.cap D.start (.vs 12 (D.rs.map rch) rc) (.vs 4 (D.fs.map frm) fc) cs gs ds ws] H = X) :
    ∃ H' c,X = some (.ret (I c),H') ∧ (∀ i < H.next,H'.rows i = H.rows i) ∧ H.next ≤ H'.next ∧ ((¬ D.LEN ∧ c = 2) ∨ (D.LEN ∧ D.K ∧ c = 0) ∨ (D.LEN ∧ ¬ D.K ∧ c = 191)):=by
  subst hX
  have ne : ∀ i < H.next,¬ i = H.next + 1:=by omega
  rw [callF_eq _ _ Tryz.func77 rfl Tryz.ntmps77 Tryz.results77 (by kernel_rfl) rfl (by exact Nat.le_of_ble_eq_true rfl)]
  have l1 : D.rs.length ≤ 64 ↔ (D.rs.length : Int) ≤ 64:=by omega
  have l2 : D.fs.length ≤ 600 ↔ (D.fs.length : Int) ≤ 600:=by omega
  have l3 : D.cs.length ≤ 32 ↔ (D.cs.length : Int) ≤ 32:=by omega
  have l4 : D.gs.length ≤ 256 ↔ (D.gs.length : Int) ≤ 256:=by omega
  have l5 : D.ds.length ≤ 256 ↔ (D.ds.length : Int) ≤ 256:=by omega
  by_cases hL : D.LEN
  · have hL':=hL
    obtain ⟨a1,a2,a3,a4,a5⟩:=hL'
    simp (maxSteps:=999999) only [E0,seval,-Int.reduceNatCast',BRU,hcs.len,hgs.len,hds.len,List.length_map,l1.1 a1,l2.1 a2,l3.1 a3,l4.1 a4,l5.1 a5,c_demand]
    generalize hE : callF _ _ _ _ _ _ = E
    obtain ⟨H',r,rfl,hh,hn,hk⟩:=c_examine D hr (by omega) (by omega) (by omega) (by omega) (by omega) rc fc cs gs ds ws hcs hgs hds 191 _ _ hE
    simp only [heap_set_rows,heap_add_rows,heap_set_next,heap_add_next] at hh hn
    rcases hk with ⟨hk,rfl⟩ | ⟨hk,rfl⟩
    · simp (maxSteps:=999999) only [E0,seval,-Int.reduceNatCast',BRU,hh]
      rw [endK_call _ Tryz.func89 rfl Tryz.ntmps89 Tryz.results89 (by kernel_rfl) rfl (by exact Nat.le_of_ble_eq_true rfl)]
      simp (maxSteps:=999999) only [E0,seval,-Int.reduceNatCast',BRU,hh,neq_nil]
      refine ⟨_,_,rfl,fun i hi => ?_,?_,.inr (.inl ⟨hL,hk,rfl⟩)⟩
      · simp (maxSteps:=999999) only [E0,seval,-Int.reduceNatCast',hh,ne i hi]
      · simp (maxSteps:=999999) only [E0,seval,-Int.reduceNatCast']
        omega
    · simp (maxSteps:=999999) only [E0,seval,-Int.reduceNatCast',BRU,hh]
      rw [endK_call _ Tryz.func89 rfl Tryz.ntmps89 Tryz.results89 (by kernel_rfl) rfl (by exact Nat.le_of_ble_eq_true rfl)]
      simp (maxSteps:=999999) only [E0,seval,-Int.reduceNatCast',BRU,hh,neq_iface,c_caught]
      refine ⟨_,_,rfl,fun i hi => ?_,?_,.inr (.inr ⟨hL,hk,rfl⟩)⟩
      · simp (maxSteps:=999999) only [E0,seval,-Int.reduceNatCast',hh,ne i hi]
      · simp (maxSteps:=999999) only [E0,seval,-Int.reduceNatCast']
        omega
  by_cases a1 : D.rs.length ≤ 64
  rotate_left
  · simp (maxSteps:=999999) only [E0,seval,-Int.reduceNatCast',BRU,hcs.len,hgs.len,hds.len,List.length_map,(mt l1.2 a1),c_demand]
    rw [endK_call _ Tryz.func89 rfl Tryz.ntmps89 Tryz.results89 (by kernel_rfl) rfl (by exact Nat.le_of_ble_eq_true rfl)]
    simp (maxSteps:=999999) only [E0,seval,-Int.reduceNatCast',BRU,neq_iface,c_caught]
    refine ⟨_,_,rfl,fun i hi => ?_,?_,.inl ⟨hL,rfl⟩⟩
    · simp (maxSteps:=999999) only [E0,seval,-Int.reduceNatCast',ne i hi]
    · simp (maxSteps:=999999) only [E0,seval,-Int.reduceNatCast']
      omega
  by_cases a2 : D.fs.length ≤ 600
  rotate_left
  · simp (maxSteps:=999999) only [E0,seval,-Int.reduceNatCast',BRU,hcs.len,hgs.len,hds.len,List.length_map,l1.1 a1,(mt l2.2 a2),c_demand]
    rw [endK_call _ Tryz.func89 rfl Tryz.ntmps89 Tryz.results89 (by kernel_rfl) rfl (by exact Nat.le_of_ble_eq_true rfl)]
    simp (maxSteps:=999999) only [E0,seval,-Int.reduceNatCast',BRU,neq_iface,c_caught]
    refine ⟨_,_,rfl,fun i hi => ?_,?_,.inl ⟨hL,rfl⟩⟩
    · simp (maxSteps:=999999) only [E0,seval,-Int.reduceNatCast',ne i hi]
    · simp (maxSteps:=999999) only [E0,seval,-Int.reduceNatCast']
      omega
  by_cases a3 : D.cs.length ≤ 32
  rotate_left
  · simp (maxSteps:=999999) only [E0,seval,-Int.reduceNatCast',BRU,hcs.len,hgs.len,hds.len,List.length_map,l1.1 a1,l2.1 a2,(mt l3.2 a3),c_demand]
    rw [endK_call _ Tryz.func89 rfl Tryz.ntmps89 Tryz.results89 (by kernel_rfl) rfl (by exact Nat.le_of_ble_eq_true rfl)]
    simp (maxSteps:=999999) only [E0,seval,-Int.reduceNatCast',BRU,neq_iface,c_caught]
    refine ⟨_,_,rfl,fun i hi => ?_,?_,.inl ⟨hL,rfl⟩⟩
    · simp (maxSteps:=999999) only [E0,seval,-Int.reduceNatCast',ne i hi]
    · simp (maxSteps:=999999) only [E0,seval,-Int.reduceNatCast']
      omega
  by_cases a4 : D.gs.length ≤ 256
  rotate_left
  · simp (maxSteps:=999999) only [E0,seval,-Int.reduceNatCast',BRU,hcs.len,hgs.len,hds.len,List.length_map,l1.1 a1,l2.1 a2,l3.1 a3,(mt l4.2 a4),c_demand]
    rw [endK_call _ Tryz.func89 rfl Tryz.ntmps89 Tryz.results89 (by kernel_rfl) rfl (by exact Nat.le_of_ble_eq_true rfl)]
    simp (maxSteps:=999999) only [E0,seval,-Int.reduceNatCast',BRU,neq_iface,c_caught]
    refine ⟨_,_,rfl,fun i hi => ?_,?_,.inl ⟨hL,rfl⟩⟩
    · simp (maxSteps:=999999) only [E0,seval,-Int.reduceNatCast',ne i hi]
    · simp (maxSteps:=999999) only [E0,seval,-Int.reduceNatCast']
      omega
  by_cases a5 : D.ds.length ≤ 256
  rotate_left
  · simp (maxSteps:=999999) only [E0,seval,-Int.reduceNatCast',BRU,hcs.len,hgs.len,hds.len,List.length_map,l1.1 a1,l2.1 a2,l3.1 a3,l4.1 a4,(mt l5.2 a5),c_demand]
    rw [endK_call _ Tryz.func89 rfl Tryz.ntmps89 Tryz.results89 (by kernel_rfl) rfl (by exact Nat.le_of_ble_eq_true rfl)]
    simp (maxSteps:=999999) only [E0,seval,-Int.reduceNatCast',BRU,neq_iface,c_caught]
    refine ⟨_,_,rfl,fun i hi => ?_,?_,.inl ⟨hL,rfl⟩⟩
    · simp (maxSteps:=999999) only [E0,seval,-Int.reduceNatCast',ne i hi]
    · simp (maxSteps:=999999) only [E0,seval,-Int.reduceNatCast']
      omega
  exact absurd ⟨a1,a2,a3,a4,a5⟩ hL
section
variable {α : Type} (f : α → PV)
theorem STR (h0 : ∀ x,strip0 (f x) = f x) (h1 : ∀ H x,strip1 H (f x) = f x) (h2 : ∀ H x,strip2 H (f x) = f x) :
    (∀ l : List α,strip0L (l.map f) = l.map f) ∧ (∀ l : List α,(l.map f).map strip0 = l.map f) ∧ (∀ H (l : List α),(l.map f).map (strip1 H) = l.map f) ∧ (∀ H (l : List α),(l.map f).map (strip2 H) = l.map f) ∧ (∀ H (l : List α),strip1L H (l.map f) = l.map f) ∧ (∀ H (l : List α),strip2L H (l.map f) = l.map f):=by
  refine ⟨fun l => ?_,fun l => ?_,fun H l => ?_,fun H l => ?_,fun H l => ?_,fun H l => ?_⟩
  · rw [strip0L_map]; simp [h0]
  · simp [h0]
  · simp [h1]
  · simp [h2]
  · rw [strip1L_map]; simp [h1]
  · rw [strip2L_map]; simp [h2]
end
theorem SRCH : (∀ l : List Rch,strip0L (l.map rch) = l.map rch) ∧ (∀ l : List Rch,(l.map rch).map strip0 = l.map rch) ∧ (∀ H (l : List Rch),(l.map rch).map (strip1 H) = l.map rch) ∧ (∀ H (l : List Rch),(l.map rch).map (strip2 H) = l.map rch) ∧ (∀ H (l : List Rch),strip1L H (l.map rch) = l.map rch) ∧ (∀ H (l : List Rch),strip2L H (l.map rch) = l.map rch):=STR rch (fun _ => rfl) (fun _ _ => rfl) (fun _ _ => rfl)
theorem SFRM : (∀ l : List Frm,strip0L (l.map frm) = l.map frm) ∧ (∀ l : List Frm,(l.map frm).map strip0 = l.map frm) ∧ (∀ H (l : List Frm),(l.map frm).map (strip1 H) = l.map frm) ∧ (∀ H (l : List Frm),(l.map frm).map (strip2 H) = l.map frm) ∧ (∀ H (l : List Frm),strip1L H (l.map frm) = l.map frm) ∧ (∀ H (l : List Frm),strip2L H (l.map frm) = l.map frm):=STR frm (fun _ => rfl) (fun _ _ => rfl) (fun _ _ => rfl)
theorem SCRP : (∀ l : List Crp,strip0L (l.map crp) = l.map crp) ∧ (∀ l : List Crp,(l.map crp).map strip0 = l.map crp) ∧ (∀ H (l : List Crp),(l.map crp).map (strip1 H) = l.map crp) ∧ (∀ H (l : List Crp),(l.map crp).map (strip2 H) = l.map crp) ∧ (∀ H (l : List Crp),strip1L H (l.map crp) = l.map crp) ∧ (∀ H (l : List Crp),strip2L H (l.map crp) = l.map crp):=STR crp (fun _ => rfl) (fun _ _ => rfl) (fun _ _ => rfl)
theorem SRGT : (∀ l : List Rgt,strip0L (l.map rgt) = l.map rgt) ∧ (∀ l : List Rgt,(l.map rgt).map strip0 = l.map rgt) ∧ (∀ H (l : List Rgt),(l.map rgt).map (strip1 H) = l.map rgt) ∧ (∀ H (l : List Rgt),(l.map rgt).map (strip2 H) = l.map rgt) ∧ (∀ H (l : List Rgt),strip1L H (l.map rgt) = l.map rgt) ∧ (∀ H (l : List Rgt),strip2L H (l.map rgt) = l.map rgt):=STR rgt (fun _ => rfl) (fun _ _ => rfl) (fun _ _ => rfl)
theorem SDTY : (∀ l : List Dty,strip0L (l.map dty) = l.map dty) ∧ (∀ l : List Dty,(l.map dty).map strip0 = l.map dty) ∧ (∀ H (l : List Dty),(l.map dty).map (strip1 H) = l.map dty) ∧ (∀ H (l : List Dty),(l.map dty).map (strip2 H) = l.map dty) ∧ (∀ H (l : List Dty),strip1L H (l.map dty) = l.map dty) ∧ (∀ H (l : List Dty),strip2L H (l.map dty) = l.map dty):=STR dty (fun _ => rfl) (fun _ _ => rfl) (fun _ _ => rfl)
structure Wel where
  (f r d : Int) (k : List Int)
abbrev wel (x : Wel) : PV:=well x.f x.r x.d x.k none
theorem SWEL : (∀ l : List Wel,strip0L (l.map wel) = l.map wel) ∧ (∀ l : List Wel,(l.map wel).map strip0 = l.map wel) ∧ (∀ H (l : List Wel),(l.map wel).map (strip1 H) = l.map wel) ∧ (∀ H (l : List Wel),(l.map wel).map (strip2 H) = l.map wel) ∧ (∀ H (l : List Wel),strip1L H (l.map wel) = l.map wel) ∧ (∀ H (l : List Wel),strip2L H (l.map wel) = l.map wel):=STR wel
  (fun x => by show PV.agg [I x.f,I x.r,I x.d,.vs 1 (strip0L (x.k.map I)) none] = _; rw [strip0_ints])
  (fun H x => by show PV.agg [I x.f,I x.r,I x.d,.vs 1 (strip1L H (x.k.map I)) none] = _; rw [strip1_ints])
  (fun H x => by show PV.agg [I x.f,I x.r,I x.d,.vs 1 (strip2L H (x.k.map I)) none] = _; rw [strip2_ints])
abbrev dv (D : Dis) (ws : List Wel) : PV:=dist D.nm D.hours D.cap D.start (.vs 12 (D.rs.map rch) none) (.vs 4 (D.fs.map frm) none) (.vs 2 (D.cs.map crp) none) (.vs 10 (D.gs.map rgt) none) (.vs 4 (D.ds.map dty) none) (.vs 4 (ws.map wel) none)
theorem ALLI_not {α : Type} {P : Nat → α → Prop} {l : List α} {j : Nat} {x : α} (e : l[j]? = some x) (h : ¬ P j x) : ¬ ALLI P l:=fun g => h (g j x e)
theorem ALLI_full {α : Type} {P : Nat → α → Prop} {l : List α} {j : Nat} (h : ALLI P (l.take j)) (hj : l.length ≤ j) : ALLI P l:=by rwa [List.take_of_length_le hj] at h
theorem ALLI_0 {α : Type} {P : Nat → α → Prop} (l : List α) : ALLI P (l.take 0):=fun i x h => by simp at h
theorem map_get {α : Type} {f : α → PV} {l : List α} {k : Nat} {x : α} (h : l[k]? = some x) : (l.map f)[k]? = some (f x):=by simp [h]
def UPD (x d : Int) : Int:=(x + d - 1) / d
theorem UPD_neg {x d : Int} (hd : 1 ≤ d) : -((-x) / d) = UPD x d:=by
  unfold UPD
  have h1:=Int.mul_ediv_add_emod (-x) d
  have a1:=Int.emod_nonneg (-x) (show d ≠ 0 by omega)
  have a2:=Int.emod_lt_of_pos (-x) (show 0 < d by omega)
  generalize (-x) / d = q at *
  generalize (-x) % d = m at *
  have e : x + d - 1 = (d - 1 - m) + d * (-q):=by rw [Int.mul_neg]; omega
  have z : (d - 1 - m) / d = 0:=Int.ediv_eq_zero_of_lt (by omega) (by omega)
  rw [e,Int.add_mul_ediv_left _ _ (by omega),z]; omega
theorem UPD_le {x d B : Int} (hd : 1 ≤ d) (h : x ≤ B * d) : UPD x d ≤ B:=by
  unfold UPD
  have : (x + d - 1) / d < B + 1:=Int.ediv_lt_of_lt_mul (by omega) (by rw [Int.add_mul]; omega)
  omega
theorem UPD_nonneg {x d : Int} (hd : 1 ≤ d) (h : 0 ≤ x) : 0 ≤ UPD x d:=Int.ediv_nonneg (by omega) (by omega)
theorem UPD_mono {x y d : Int} (hd : 1 ≤ d) (h : x ≤ y) : UPD x d ≤ UPD y d:=Int.ediv_le_ediv (by omega) (by omega)
theorem UPD_step {x y d k : Int} (hd : 1 ≤ d) (h : y ≤ x + d * k) : UPD y d ≤ UPD x d + k:=by
  unfold UPD
  have : (y + d - 1) / d ≤ (x + d - 1 + d * k) / d:=Int.ediv_le_ediv (by omega) (by omega)
  rw [Int.add_mul_ediv_left _ _ (by omega)] at this
  omega
theorem DIV_step {x y d k : Int} (hd : 1 ≤ d) (h : y ≤ x + d * k) : y / d ≤ x / d + k:=by
  have : y / d ≤ (x + d * k) / d:=Int.ediv_le_ediv (by omega) h
  rw [Int.add_mul_ediv_left _ _ (by omega)] at this
  exact this
theorem UPD_add {x y d : Int} (hd : 1 ≤ d) : UPD (x + y) d ≤ UPD x d + UPD y d:=by
  rw [← UPD_neg hd,← UPD_neg hd,← UPD_neg hd]
  have : (-x) / d + (-y) / d ≤ (-x + -y) / d:=by
    have h1:=Int.mul_ediv_add_emod (-x) d
    have h2:=Int.mul_ediv_add_emod (-y) d
    have a1:=Int.emod_nonneg (-x) (show d ≠ 0 by omega)
    have b1:=Int.emod_nonneg (-y) (show d ≠ 0 by omega)
    refine (Int.le_ediv_iff_mul_le (by omega)).2 ?_
    rw [Int.mul_comm,Int.mul_add]; omega
  rw [show -(x + y) = -x + -y by omega]
  omega
structure Los where
  (e0 e1 n0 d0 n1 d1 : Int)
structure Los.RT (r : Los) : Prop where
  (ea : 0 ≤ r.e0) (eb : r.e0 ≤ r.e1) (ec : r.e1 ≤ 1073741824) (na : 0 ≤ r.n0) (nb : r.n0 ≤ r.d0) (nc : 0 ≤ r.n1) (nd : r.n1 ≤ r.d1) (da : 1 ≤ r.d0) (db : 1 ≤ r.d1) (dc : r.d0 ≤ 1073741824) (dd : r.d1 ≤ 1073741824) (cr : r.n0 * r.d1 ≤ r.n1 * r.d0)
def LO (r : Los) (v : Int) : Int:=if v = 0 then 0 else min v (r.e0 + r.n0 * v / r.d0)
def HI (r : Los) (v : Int) : Int:=if v = 0 then 0 else min v (r.e1 + UPD (r.n1 * v) r.d1)
def WO (r : Los) (v : Int) : Int:=v - HI r v
def BE (r : Los) (v : Int) : Int:=v - LO r v
section
variable {r : Los} (h : r.RT)
include h
theorem LO_bd {v : Int} (hv : 0 ≤ v) : 0 ≤ LO r v ∧ LO r v ≤ v:=by
  have:=Int.ediv_nonneg (Int.mul_nonneg h.na hv) (show (0 : Int) ≤ r.d0 by have:=h.da; omega)
  have:=h.ea
  unfold LO; split <;> omega
theorem HI_bd {v : Int} (hv : 0 ≤ v) : 0 ≤ HI r v ∧ HI r v ≤ v:=by
  have:=UPD_nonneg h.db (Int.mul_nonneg h.nc hv)
  have:=h.ea
  have:=h.eb
  unfold HI; split <;> omega
theorem lo_part {v : Int} (hv : 0 ≤ v) : 0 ≤ r.n0 * v / r.d0 ∧ r.n0 * v / r.d0 ≤ v:=by
  have h0:=h.da
  refine ⟨Int.ediv_nonneg (Int.mul_nonneg h.na hv) (by omega),?_⟩
  have:=Int.mul_le_mul_of_nonneg_right h.nb hv
  have:=DIV_step (x:=0) (y:=r.n0 * v) (d:=r.d0) (k:=v) h0 (by omega)
  simpa using this
theorem hi_part {v : Int} (hv : 0 ≤ v) : 0 ≤ UPD (r.n1 * v) r.d1 ∧ UPD (r.n1 * v) r.d1 ≤ v:=by
  have h0:=h.db
  refine ⟨UPD_nonneg h0 (Int.mul_nonneg h.nc hv),UPD_le h0 ?_⟩
  have:=Int.mul_le_mul_of_nonneg_right h.nd hv
  rw [Int.mul_comm v]; omega
theorem lo_hi {v : Int} (hv : 0 ≤ v) : r.n0 * v / r.d0 ≤ UPD (r.n1 * v) r.d1:=by
  have h0:=h.da
  have h1:=h.db
  refine (Int.le_ediv_iff_mul_le (by omega)).2 ?_
  have q:=Int.mul_ediv_add_emod (r.n0 * v) r.d0
  have q1:=Int.emod_nonneg (r.n0 * v) (show r.d0 ≠ 0 by omega)
  generalize r.n0 * v / r.d0 = a at *
  have s1 : r.d0 * a ≤ r.n0 * v:=by omega
  have s2 : r.d0 * a * r.d1 ≤ r.n0 * v * r.d1:=Int.mul_le_mul_of_nonneg_right s1 (by omega)
  have s3 : r.n0 * r.d1 * v ≤ r.n1 * r.d0 * v:=Int.mul_le_mul_of_nonneg_right h.cr hv
  have s4 : r.d0 * (a * r.d1) ≤ r.d0 * (r.n1 * v):=by
    calc r.d0 * (a * r.d1) = r.d0 * a * r.d1:=by rw [Int.mul_assoc]
      _ ≤ r.n0 * v * r.d1:=s2
      _ = r.n0 * r.d1 * v:=by rw [Int.mul_right_comm]
      _ ≤ r.n1 * r.d0 * v:=s3
      _ = r.d0 * (r.n1 * v):=by rw [Int.mul_comm r.n1,Int.mul_assoc]
  have s5:=Int.le_of_mul_le_mul_left s4 (by omega)
  omega
theorem LO_HI {v : Int} (hv : 0 ≤ v) : LO r v ≤ HI r v:=by
  have:=lo_hi h hv
  have:=h.eb
  unfold LO HI; split <;> omega
theorem WO_mono {a b : Int} (ha : 0 ≤ a) (hab : a ≤ b) : WO r a ≤ WO r b:=by
  have s : r.n1 * b ≤ r.n1 * a + r.d1 * (b - a):=by
    have:=Int.mul_le_mul_of_nonneg_right h.nd (show 0 ≤ b - a by omega)
    rw [Int.mul_sub] at this
    omega
  have:=UPD_step h.db s
  have:=HI_bd h ha
  have:=HI_bd h (show 0 ≤ b by omega)
  have:=h.ea
  have:=h.eb
  unfold WO HI at *
  by_cases h1 : a = 0
  · simp only [h1,if_true] at *; omega
  · rw [if_neg h1] at *; rw [if_neg (show ¬ b = 0 by omega)] at *; omega
theorem BE_mono {a b : Int} (ha : 0 ≤ a) (hab : a ≤ b) : BE r a ≤ BE r b:=by
  have s : r.n0 * b ≤ r.n0 * a + r.d0 * (b - a):=by
    have:=Int.mul_le_mul_of_nonneg_right h.nb (show 0 ≤ b - a by omega)
    rw [Int.mul_sub] at this
    omega
  have:=DIV_step h.da s
  have:=LO_bd h ha
  have:=LO_bd h (show 0 ≤ b by omega)
  have:=h.ea
  unfold BE LO at *
  by_cases h1 : a = 0
  · simp only [h1,if_true] at *; omega
  · rw [if_neg h1] at *; rw [if_neg (show ¬ b = 0 by omega)] at *; omega
theorem WO_add {a b : Int} (ha : 0 ≤ a) (hb : 0 ≤ b) : WO r a + WO r b ≤ WO r (a + b):=by
  have m1:=WO_mono h ha (show a ≤ a + b by omega)
  have m2:=WO_mono h hb (show b ≤ a + b by omega)
  have s:=UPD_add (x:=r.n1 * a) (y:=r.n1 * b) h.db
  rw [← Int.mul_add] at s
  have p1:=HI_bd h ha
  have p2:=HI_bd h hb
  have p3:=HI_bd h (show 0 ≤ a + b by omega)
  have:=h.ea
  have:=h.eb
  unfold WO HI at *
  by_cases h1 : a = 0
  · subst h1; simp only [Int.zero_add,if_true] at *; omega
  · by_cases h2 : b = 0
    · subst h2; simp only [Int.add_zero,if_true] at *; omega
    · rw [if_neg h1,if_neg h2] at *; rw [if_neg (show ¬ a + b = 0 by omega)] at *; omega
end
structure IsL (p : Int → Prop) (n r : Int) : Prop where
  (lo : 0 ≤ r) (hi : r ≤ n) (no : ∀ i,0 ≤ i → i < r → ¬ p i) (yes : ∀ i,r ≤ i → i < n → p i)
theorem IsL_one {p : Int → Prop} {n r s : Int} (h : IsL p n r) (h' : IsL p n s) : r = s:=by
  have a:=h.lo; have b:=h.hi; have c:=h'.lo; have d:=h'.hi
  by_cases h1 : r < s
  · exact absurd (h.yes r (Int.le_refl _) (by omega)) (h'.no r a h1)
  · by_cases h2 : s < r
    · exact absurd (h'.yes s (Int.le_refl _) (by omega)) (h.no s c h2)
    · omega
theorem c_down (n d : Int) (hn : -4611686018427387904 ≤ n ∧ n ≤ 4611686018427387904) (hd : 1 ≤ d ∧ d ≤ 1073741824) : ap Tryz.prog pol 134 [I n,I d] = some (.ret (I (n / d))):=by
  rw [ap_eq _ Tryz.func134 rfl Tryz.ntmps134 Tryz.results134 (by kernel_rfl) rfl (by exact Nat.le_of_ble_eq_true rfl)]
  simp (maxSteps:=999999) only [E0,seval,-Int.reduceNatCast',(show ¬ d = 0 by omega)]
  have e1 : (n.tmod d + d).tmod d = n % d:=by
    rw [Int.tmod_eq_emod_of_nonneg (by have:=Int.lt_tmod_of_pos n (b:=d) (by omega); omega)]
    rw [Int.add_emod_right]
    have:=Int.tmod_eq_emod (a:=n) (b:=d)
    rw [this]
    split
    · simp
    · rw [Int.sub_emod]; simp
      rw [show (d.natAbs : Int) = d by omega]
      simp
  have b1:=Int.lt_tmod_of_pos n (b:=d) (by omega)
  have b2:=Int.tmod_lt_of_pos n (b:=d) (by omega)
  rw [i64_in (x:=n.tmod d + d) (by unfold I64; omega),e1]
  have b3:=Int.emod_nonneg n (b:=d) (by omega)
  have b4:=Int.emod_lt_of_pos n (b:=d) (by omega)
  rw [i64_in (x:=n - n % d) (by unfold I64; omega)]
  have e2 : n - n % d = d * (n / d):=by have:=Int.mul_ediv_add_emod n d; omega
  rw [e2,Int.mul_tdiv_cancel_left _ (by omega)]
  have b5 : n / d ≤ 4611686018427387904:=by
    apply Int.ediv_le_of_le_mul (by omega)
    omega
  have b6 : -4611686018427387904 ≤ n / d:=by
    apply Int.le_ediv_of_mul_le (by omega)
    omega
  rw [i64_in (by unfold I64; omega)]
theorem ediv_bd {n d B : Int} (hd : 1 ≤ d) (hB : 0 ≤ B) (h : -B ≤ n ∧ n ≤ B) : -B ≤ n / d ∧ n / d ≤ B:=by
  constructor
  · apply Int.le_ediv_of_mul_le (by omega)
    have:=Int.mul_le_mul_of_nonneg_left hd hB
    rw [Int.neg_mul]; omega
  · apply Int.ediv_le_of_le_mul (by omega)
    have:=Int.mul_le_mul_of_nonneg_left hd hB
    omega
theorem mul_bd {a n M N : Int} (ha : -M ≤ a ∧ a ≤ M) (hn : -N ≤ n ∧ n ≤ N) : -(M * N) ≤ a * n ∧ a * n ≤ M * N:=by
  have h : (a * n).natAbs ≤ (M * N).natAbs:=by
    rw [Int.natAbs_mul,Int.natAbs_mul]
    exact Nat.mul_le_mul (by omega) (by omega)
  have : 0 ≤ M * N:=Int.mul_nonneg (by omega) (by omega)
  omega
abbrev tup3 (r : Int × Int × Int) : PV:=.tup [I r.1,I r.2.1,I r.2.2]
def TIMES (a b n : Int) : Int × Int × Int:=if VALID a b then (if n < -1073741824 ∨ 1073741824 < n then (0,0,1) else ((a * n) / b,-((-a * n) / b),0)) else (0,0,120)
theorem c_times (a b n : Int) (ha : I64 a) (hb : I64 b) (hn : I64 n) : ap Tryz.prog pol 127 [rat a b,I n] = some (.ret (tup3 (TIMES a b n))):=by
  rw [ap_eq _ Tryz.func127 rfl Tryz.ntmps127 Tryz.results127 (by kernel_rfl) rfl (by exact Nat.le_of_ble_eq_true rfl)]
  unfold TIMES
  by_cases h : VALID a b
  · by_cases h1 : n < -1073741824
    · simp (maxSteps:=999999) only [E0,seval,-Int.reduceNatCast',c_check a b ha hb,h,h1,true_or]
    · by_cases h2 : 1073741824 < n
      · simp (maxSteps:=999999) only [E0,seval,-Int.reduceNatCast',c_check a b ha hb,h,h1,h2]
      · obtain ⟨v1,v2,v3,v4,v5⟩:=h
        have m1:=mul_bd (a:=a) (n:=n) (M:=1073741824) (N:=1073741824) ⟨v3,v4⟩ ⟨by omega,by omega⟩
        have m2:=mul_bd (a:=-a) (n:=n) (M:=1073741824) (N:=1073741824) ⟨by omega,by omega⟩ ⟨by omega,by omega⟩
        have b2:=ediv_bd (n:=-a * n) v1 (B:=4611686018427387904) (by omega) (by omega)
        simp (maxSteps:=999999) only [E0,seval,-Int.reduceNatCast',c_check a b ha hb,(show VALID a b from ⟨v1,v2,v3,v4,v5⟩),h1,h2,Int.zero_sub,(i64_in (x:=a * n) (by unfold I64; omega)),(i64_in (x:=-a) (by unfold I64; omega)),(i64_in (x:=-a * n) (by unfold I64; omega)),
          c_down (a * n) b (by omega) ⟨v1,v2⟩,c_down (-a * n) b (by omega) ⟨v1,v2⟩,(i64_in (x:=-(-a * n / b)) (by unfold I64; omega))]
  · simp (maxSteps:=999999) only [E0,seval,-Int.reduceNatCast',c_check a b ha hb,h,(show ¬ (120 : Int) = 0 by omega)]
theorem wrap_prod {a b c d : Int} (h : VALID a b ∧ VALID c d) : w64 (a * d) = a * d ∧ w64 (c * b) = c * b ∧ w64 (b * d) = b * d ∧ w64 (a * c) = a * c:=by
  obtain ⟨⟨a1,a2,a3,a4,_⟩,⟨b1,b2,b3,b4,_⟩⟩:=h
  have m1:=mul_bd (a:=a) (n:=d) (M:=1073741824) (N:=1073741824) ⟨by omega,by omega⟩ ⟨by omega,by omega⟩
  have m2:=mul_bd (a:=c) (n:=b) (M:=1073741824) (N:=1073741824) ⟨by omega,by omega⟩ ⟨by omega,by omega⟩
  have m3:=mul_bd (a:=b) (n:=d) (M:=1073741824) (N:=1073741824) ⟨by omega,by omega⟩ ⟨by omega,by omega⟩
  have m4:=mul_bd (a:=a) (n:=c) (M:=1073741824) (N:=1073741824) ⟨by omega,by omega⟩ ⟨by omega,by omega⟩
  exact ⟨i64_in (by unfold I64; omega),i64_in (by unfold I64; omega),i64_in (by unfold I64; omega),i64_in (by unfold I64; omega)⟩
theorem c_in (n lo hi : Int) : ap Tryz.prog pol 124 [I n,I lo,I hi] = some (.ret (.bool (decide (lo ≤ n ∧ n ≤ hi)))):=by
  rw [ap_eq _ Tryz.func124 rfl Tryz.ntmps124 Tryz.results124 (by kernel_rfl) rfl (by exact Nat.le_of_ble_eq_true rfl)]
  simp (maxSteps:=999999) only [E0,seval,-Int.reduceNatCast',b_and]
def SH (n d : Int) : Prop:=VALID n d ∧ 0 ≤ n ∧ n ≤ d
instance (n d : Int) : Decidable (SH n d):=by unfold SH; infer_instance
def SHS (a b c d : Int) : Prop:=SH a b ∧ SH c d ∧ a * d ≤ c * b
instance (a b c d : Int) : Decidable (SHS a b c d):=by unfold SHS; infer_instance
theorem c_sh (n d : Int) (hn : I64 n) (hd : I64 d) : ap Tryz.prog pol 132 [rat n d] = some (.ret (.bool (decide (SH n d)))):=by
  rw [ap_eq _ Tryz.func132 rfl Tryz.ntmps132 Tryz.results132 (by kernel_rfl) rfl (by exact Nat.le_of_ble_eq_true rfl)]
  by_cases h : VALID n d
  · simp (maxSteps:=999999) only [E0,seval,-Int.reduceNatCast',NUM,c_check n d hn hd,h,c_in]
    refine b_iff ?_
    simp only [SH,h,true_and]
  · simp (maxSteps:=999999) only [E0,seval,-Int.reduceNatCast',NUM,c_check n d hn hd,h]
    exact b_no fun g => h g.1
theorem CMP_le (x y : Int) : CMP x y ≤ 0 ↔ x ≤ y:=by
  unfold CMP; split
  · omega
  · split <;> omega
theorem c_shares (a b c d : Int) (ha : I64 a) (hb : I64 b) (hc : I64 c) (hd : I64 d) : ap Tryz.prog pol 123 [.agg [I a,I b,I c,I d]] = some (.ret (.bool (decide (SHS a b c d)))):=by
  rw [ap_eq _ Tryz.func123 rfl Tryz.ntmps123 Tryz.results123 (by kernel_rfl) rfl (by exact Nat.le_of_ble_eq_true rfl)]
  by_cases h1 : SH a b
  rotate_left
  · simp (maxSteps:=999999) only [E0,seval,-Int.reduceNatCast',NUM,c_sh a b ha hb,h1]
    exact b_no fun g => h1 g.1
  by_cases h2 : SH c d
  rotate_left
  · simp (maxSteps:=999999) only [E0,seval,-Int.reduceNatCast',NUM,c_sh a b ha hb,c_sh c d hc hd,h1,h2]
    exact b_no fun g => h2 g.2.1
  have w:=wrap_prod ⟨h1.1,h2.1⟩
  have e : CMPR a b c d = (CMP (a * d) (c * b),0):=by simp only [CMPR,h1.1,h2.1,and_self,if_true,w]
  simp (maxSteps:=999999) only [E0,seval,-Int.reduceNatCast',NUM,c_sh a b ha hb,c_sh c d hc hd,h1,h2,c_cmp a b c d ha hb hc hd,e]
  refine b_iff ?_
  rw [CMP_le]
  simp only [SHS,h1,h2,true_and]
theorem c_ordered (lo hi most : Int) : ap Tryz.prog pol 122 [.agg [I lo,I hi],I most] = some (.ret (.bool (decide (0 ≤ lo ∧ lo ≤ hi ∧ hi ≤ most)))):=by
  rw [ap_eq _ Tryz.func122 rfl Tryz.ntmps122 Tryz.results122 (by kernel_rfl) rfl (by exact Nat.le_of_ble_eq_true rfl)]
  simp (maxSteps:=999999) only [E0,seval,-Int.reduceNatCast',b_and]
def los (x : Rch) : Los:=⟨x.e0,x.e1,x.s0,x.s1,x.s2,x.s3⟩
def RIGHT (x : Rch) : Prop:=(0 ≤ x.e0 ∧ x.e0 ≤ x.e1 ∧ x.e1 ≤ 1073741824) ∧ SHS x.s0 x.s1 x.s2 x.s3
instance (x : Rch) : Decidable (RIGHT x):=by unfold RIGHT; infer_instance
theorem RIGHT.RT {x : Rch} (h : RIGHT x) : (los x).RT:=by
  obtain ⟨⟨h1,h2,h3⟩,⟨⟨v1,v2,_⟩,a2,a3⟩,⟨⟨w1,w2,_⟩,b2,b3⟩,h4⟩:=h
  exact ⟨h1,h2,h3,a2,a3,b2,b3,v1,w1,v2,w2,h4⟩
def VC (x : Rch) (n : Int) : Int:=if RIGHT x then (if 0 ≤ n ∧ n ≤ 1073741824 then 0 else 1) else 210
theorem c_valid47 (x : Rch) (hx : x.OK) (n : Int) : ap Tryz.prog pol 111 [rch x,I n] = some (.ret (I (VC x n))):=by
  obtain ⟨nm,up,dl,cp,bk,si,e0,e1,s0,s1,s2,s3⟩:=x
  obtain ⟨ha,hb,hc,hd⟩:=hx
  simp only at ha hb hc hd
  rw [ap_eq _ Tryz.func111 rfl Tryz.ntmps111 Tryz.results111 (by kernel_rfl) rfl (by exact Nat.le_of_ble_eq_true rfl)]
  unfold VC RIGHT
  simp only
  by_cases h1 : 0 ≤ e0 ∧ e0 ≤ e1 ∧ e1 ≤ 1073741824
  rotate_left
  · simp (maxSteps:=999999) only [E0,seval,-Int.reduceNatCast',NUM,c_ordered,h1]
    simp only [false_and,if_false]
  by_cases h2 : SHS s0 s1 s2 s3
  rotate_left
  · simp (maxSteps:=999999) only [E0,seval,-Int.reduceNatCast',NUM,c_ordered,h1,c_shares s0 s1 s2 s3 ha hb hc hd,h2]
  by_cases h3 : 0 ≤ n ∧ n ≤ 1073741824
  · simp (maxSteps:=999999) only [E0,seval,-Int.reduceNatCast',NUM,c_ordered,h1,c_shares s0 s1 s2 s3 ha hb hc hd,h2,c_in,h3]
  · simp (maxSteps:=999999) only [E0,seval,-Int.reduceNatCast',NUM,c_ordered,h1,c_shares s0 s1 s2 s3 ha hb hc hd,h2,c_in,h3]
section
variable (x : Rch) (h : RIGHT x) (v : Int) (hv : 0 ≤ v ∧ v ≤ 1073741824)
include h hv
theorem c_lost (hx : x.OK) : ap Tryz.prog pol 114 [rch x,I v] = some (.ret (.agg [I (LO (los x) v),I (HI (los x) v)])):=by
  have p1:=lo_part h.RT hv.1
  have p2:=hi_part h.RT hv.1
  have hr:=h.RT
  have v1:=h.2.1.1
  have v2:=h.2.2.1.1
  obtain ⟨nm,up,dl,cp,bk,si,e0,e1,s0,s1,s2,s3⟩:=x
  obtain ⟨ha,hb,hc,hd⟩:=hx
  have he:=h.1
  simp only [los] at *
  have u:=UPD_neg (x:=s2 * v) (d:=s3) hr.db
  rw [← Int.neg_mul] at u
  have vi : I64 v:=by unfold I64; omega
  have t1:=c_times s0 s1 v ha hb vi
  have t2:=c_times s2 s3 v hc hd vi
  simp only [TIMES,v1,v2,if_true,if_neg (show ¬ (v < -1073741824 ∨ 1073741824 < v) by omega)] at t1 t2
  rw [u] at t2
  rw [ap_eq _ Tryz.func114 rfl Tryz.ntmps114 Tryz.results114 (by kernel_rfl) rfl (by exact Nat.le_of_ble_eq_true rfl)]
  by_cases h0 : v = 0
  · subst h0
    simp (maxSteps:=999999) only [E0,seval,-Int.reduceNatCast',NUM]
    simp [LO,HI]
  · simp (maxSteps:=999999) only [E0,seval,-Int.reduceNatCast',NUM,h0,t1,t2,i64_in (x:=e0 + s0 * v / s1) (by unfold I64; omega),i64_in (x:=e1 + UPD (s2 * v) s3) (by unfold I64; omega)]
    simp [LO,HI,h0]
end
def ARR (f : Nat) (r : Los) (v : Int) : Int:=WO r v
theorem ARR_mono {f : Nat} {r : Los} (h : r.RT) {a b : Int} (ha : 0 ≤ a) (hab : a ≤ b) : ARR f r a ≤ ARR f r b:=by
  exact WO_mono h ha hab
abbrev rchc (x : Rch) : List PV:=[.str x.nm,I x.up,I x.dl,I x.cp,I x.bk,I x.si,I x.e0,I x.e1,I x.s0,I x.s1,I x.s2,I x.s3]
theorem strip_rchc (x : Rch) : strip0 (.rop (rchc x)) = .rop (rchc x):=rfl
theorem c_arr (f : Nat) (hf : f = 113) (x : Rch) (hx : x.OK) (h : RIGHT x) (v : Int) (hv : 0 ≤ v ∧ v ≤ 1073741824) :
    ap Tryz.prog pol f [I v,.rop (rchc x)] = some (.ret (I (ARR f (los x) v))):=by
  have cl:=c_lost x h v hv hx
  have b1:=LO_bd h.RT hv.1
  have b2:=HI_bd h.RT hv.1
  rcases hf with rfl
  · rw [ap_eq _ Tryz.func113 rfl Tryz.ntmps113 Tryz.results113 (by kernel_rfl) rfl (by exact Nat.le_of_ble_eq_true rfl)]
    simp (maxSteps:=999999) only [E0,seval,-Int.reduceNatCast',NUM,cl,i64_in (x:=v - HI (los x) v) (by unfold I64; omega)]
    rfl
theorem c_least1 (f : Nat) (hf : f = 113) (x : Rch) (hx : x.OK) (h : RIGHT x) (w : Int) (v : Int) (hv : 0 ≤ v ∧ v ≤ 1073741824) :
    ap Tryz.prog pol 126 [I v,.rop [.fn f [.rop (rchc x)]],.rop [I w]] = some (.ret (.bool (decide (w < ARR f (los x) v)))):=by
  have ca:=c_arr f hf x hx h v hv
  rcases hf with rfl
  rw [ap_eq _ Tryz.func126 rfl Tryz.ntmps126 Tryz.results126 (by kernel_rfl) rfl (by exact Nat.le_of_ble_eq_true rfl)]
  simp (maxSteps:=999999) only [E0,seval,-Int.reduceNatCast',NUM,ca,strip_rchc]
theorem c_search (f : Nat) (hf : f = 113) (x : Rch) (hx : x.OK) (h : RIGHT x) (w : Int) :
    ∃ r,ap Tryz.prog pol 125 [I 1073741825,.fn 126 [.rop [.fn f [.rop (rchc x)]],.rop [I w]]] = some (.ret (I r)) ∧ IsL (fun v => w < ARR f (los x) v) 1073741825 r:=by
  rw [ap_eq _ Tryz.func125 rfl Tryz.ntmps125 Tryz.results125 (by kernel_rfl) rfl (by exact Nat.le_of_ble_eq_true rfl)]
  simp (maxSteps:=999999) only [E0,seval,-Int.reduceNatCast']
  generalize hL : W _ (.loop _) _ = L
  obtain ⟨ex,s,rfl,rfl,r,h5,hd,hfi,hl⟩:=loop_at hL (α:=Int × Int) (fun p => (p.2 - p.1).toNat)
    (fun s0 p s => 0 ≤ p.1 ∧ p.1 ≤ p.2 ∧ p.2 ≤ 1073741825 ∧ s.tmps 5 = I p.1 ∧ s.tmps 6 = I p.2 ∧ s.tmps 1 = .fn 126 [.rop [.fn f [.rop (rchc x)]],.rop [I w]] ∧ s.defers = [] ∧ s.fid = 0 ∧ (∀ i,0 ≤ i → i < p.1 → ¬ w < ARR f (los x) i) ∧ (∀ i,p.2 ≤ i → i < 1073741825 → w < ARR f (los x) i))
    (fun s0 ex s => ex = .exit 0 ∧ ∃ r,s.tmps 5 = I r ∧ s.defers = [] ∧ s.fid = 0 ∧ IsL (fun v => w < ARR f (los x) v) 1073741825 r) (0,1073741825)
    (by simp (maxSteps:=999999) only [E0,seval,-Int.reduceNatCast']; exact ⟨fun i h1 h2 => by omega,fun i h1 h2 => by omega⟩) (by
      rintro ⟨a,b⟩ s r0 hW ⟨h0a,hab,hb,q5,q6,q1,hd,hfi,no,yes⟩
      simp only at *
      by_cases hp : a < b
      · obtain ⟨m,em,hm⟩ : ∃ m,(a + b) / 2 = m ∧ (a ≤ m ∧ m < b):=⟨_,rfl,by omega⟩
        have cl:=c_least1 f hf x hx h w m (by omega)
        have mid : (IntKind.u64.wrap (a + b)).fdiv (2 ^ min 1 IntKind.u64.bits) = m:=by
          rw [u64_in (by unfold U64; omega),show (2 : Int) ^ min 1 IntKind.u64.bits = 2 by decide,Int.fdiv_eq_ediv_of_nonneg _ (by decide),em]
        by_cases hm' : w < ARR f (los x) m
        · simp (maxSteps:=999999) only [E0,seval,-Int.reduceNatCast',NUM,q5,q6,q1,hd,hfi,hp,i64_in (x:=a + b) (by unfold I64; omega),mid,i64_in (x:=m) (by unfold I64; omega),cl,hm',strip_rchc] at hW
          subst hW
          refine rd_next (a,m) ?_ (show (m - a).toNat < (b - a).toNat by omega)
          simp (maxSteps:=999999) only [E0,seval,-Int.reduceNatCast',q5,q1]
          refine ⟨h0a,hm.1,by omega,no,fun i h1 h2 => ?_⟩
          have:=ARR_mono (f:=f) h.RT (show 0 ≤ m by omega) h1
          omega
        · simp (maxSteps:=999999) only [E0,seval,-Int.reduceNatCast',NUM,q5,q6,q1,hd,hfi,hp,i64_in (x:=a + b) (by unfold I64; omega),mid,i64_in (x:=m) (by unfold I64; omega),i64_in (x:=m + 1) (by unfold I64; omega),cl,hm',strip_rchc] at hW
          subst hW
          refine rd_next (m + 1,b) ?_ (show (b - (m + 1)).toNat < (b - a).toNat by omega)
          simp (maxSteps:=999999) only [E0,seval,-Int.reduceNatCast',q6,q1]
          refine ⟨by omega,by omega,hb,fun i h1 h2 => ?_,yes⟩
          have:=ARR_mono (f:=f) h.RT h1 (show i ≤ m by omega)
          omega
      · simp (maxSteps:=999999) only [E0,seval,-Int.reduceNatCast',NUM,q5,q6,q1,hd,hfi,hp] at hW
        subst hW
        have : a = b:=by omega
        subst this
        refine rd_exit ⟨rfl,a,?_⟩
        simp (maxSteps:=999999) only [E0,seval,-Int.reduceNatCast',q5]
        exact ⟨h0a,hb,no,yes⟩)
  simp (maxSteps:=999999) only [E0,seval,-Int.reduceNatCast',h5,hd,hfi]
  exact ⟨r,rfl,hl⟩
theorem VC_0 (x : Rch) (n : Int) : VC x n = 0 ↔ RIGHT x ∧ 0 ≤ n ∧ n ≤ 1073741824:=by
  unfold VC
  by_cases h : RIGHT x
  · by_cases h2 : 0 ≤ n ∧ n ≤ 1073741824 <;> simp [h,h2]
  · simp [h]
theorem c_least (f : Nat) (hf : f = 113) (x : Rch) (hx : x.OK) (h : RIGHT x) (w : Int) :
    ∃ r,ap Tryz.prog pol 112 [I w,.fn f [.rop (rchc x)]] = some (.ret (I r)) ∧ IsL (fun v => w < ARR f (los x) v) 1073741825 r:=by
  obtain ⟨r,e,hl⟩:=c_search f hf x hx h w
  refine ⟨r,?_,hl⟩
  rw [ap_eq _ Tryz.func112 rfl Tryz.ntmps112 Tryz.results112 (by kernel_rfl) rfl (by exact Nat.le_of_ble_eq_true rfl)]
  simp (maxSteps:=999999) only [E0,seval,-Int.reduceNatCast',NUM,e]
theorem c_need (x : Rch) (hx : x.OK) (w : Int) : (VC x w ≠ 0 ∧ ap Tryz.prog pol 97 [rch x,I w] = some (.ret (.tup [I 0,.bool false,I (VC x w)]))) ∨
    (VC x w = 0 ∧ ∃ r,IsL (fun v => w - 1 < WO (los x) v) 1073741825 r ∧ ap Tryz.prog pol 97 [rch x,I w] = some (.ret (if r ≤ 1073741824 then .tup [I r,.bool true,I 0] else .tup [I 0,.bool false,I 0]))):=by
  by_cases h : VC x w = 0
  · right
    refine ⟨h,?_⟩
    obtain ⟨h1,h2⟩:=(VC_0 x w).1 h
    obtain ⟨r,er,hl⟩:=c_least 113 rfl x hx h1 (w - 1)
    refine ⟨r,hl,?_⟩
    rw [ap_eq _ Tryz.func97 rfl Tryz.ntmps97 Tryz.results97 (by kernel_rfl) rfl (by exact Nat.le_of_ble_eq_true rfl)]
    by_cases hr : r ≤ 1073741824
    · simp (maxSteps:=999999) only [E0,seval,-Int.reduceNatCast',NUM,c_valid47 x hx w,h,i64_in (x:=w - 1) (by unfold I64; omega),er,(show ¬ 1073741824 < r by omega),hr]
    · simp (maxSteps:=999999) only [E0,seval,-Int.reduceNatCast',NUM,c_valid47 x hx w,h,i64_in (x:=w - 1) (by unfold I64; omega),er,(show 1073741824 < r by omega),hr]
  · left
    refine ⟨h,?_⟩
    rw [ap_eq _ Tryz.func97 rfl Tryz.ntmps97 Tryz.results97 (by kernel_rfl) rfl (by exact Nat.le_of_ble_eq_true rfl)]
    simp (maxSteps:=999999) only [E0,seval,-Int.reduceNatCast',NUM,c_valid47 x hx w,h]
theorem perm_ext (f g : Nat → Nat) (h1 : ∀ x,g (f x) = x) (h2 : ∀ x,f (g x) = x) (k c : Nat) : ∃ f' g' : Nat → Nat,(∀ x,g' (f' x) = x) ∧ (∀ x,f' (g' x) = x) ∧ f' k = c ∧ ∀ j,j ≠ k → f j ≠ c → f' j = f j:=by
  have sw : ∀ p q x,swp p q (swp p q x) = x:=by
    intro p q x
    unfold swp
    split <;> (try split) <;> (try split) <;> (try split) <;> omega
  refine ⟨fun x => f (swp k (g c) x),fun x => swp k (g c) (g x),fun x => ?_,fun x => ?_,?_,fun j hj hc => ?_⟩
  · show swp k (g c) (g (f _)) = x
    rw [h1,sw]
  · show f (swp k (g c) (swp k (g c) _)) = x
    rw [sw,h2]
  · show f (swp k (g c) k) = c
    unfold swp
    rw [if_pos rfl,h2]
  · show f (swp k (g c) j) = f j
    unfold swp
    rw [if_neg hj,if_neg]
    intro e
    rw [e,h2] at hc
    exact hc rfl
theorem inv_inj {f g : Nat → Nat} (h : ∀ x,g (f x) = x) (a b : Nat) (e : f a = f b) : a = b:=by
  rw [← h a,← h b,e]
theorem ite_chk1 {α : Type} {ops : Array Oper} (L : Nat → List (Nat × MF)) (a : Nat) {x y z : α} (h : ∀ f : Nat → Nat,f 1 = a → renL f (L 1) = L a) (hk : chkL ops (L 1) (L 1) = true) (e : (if chkL ops (L a) (L a) = true then x else y) = z) : x = z:=by
  obtain ⟨f,g,h1,h2,e1,_⟩:=perm_ext id id (fun _ => rfl) (fun _ => rfl) 1 a
  have : chkL ops (L a) (L a) = true:=by rw [← h f e1,chkL_ren (inv_inj h1)]; exact hk
  rw [if_pos this] at e; exact e
theorem ite_chk2 {α : Type} {ops : Array Oper} (L : Nat → Nat → List (Nat × MF)) (a b : Nat) (hab : a ≠ b) {x y z : α} (h : ∀ f : Nat → Nat,f 1 = a → f 2 = b → renL f (L 1 2) = L a b) (hk : chkL ops (L 1 2) (L 1 2) = true) (e : (if chkL ops (L a b) (L a b) = true then x else y) = z) : x = z:=by
  obtain ⟨f,g,h1,h2,e1,_⟩:=perm_ext id id (fun _ => rfl) (fun _ => rfl) 1 a
  obtain ⟨f',g',h1',h2',e2,k2⟩:=perm_ext f g h1 h2 2 b
  have : chkL ops (L a b) (L a b) = true:=by rw [← h f' (by rw [k2 1 (by decide) (by omega)]; exact e1) e2,chkL_ren (inv_inj h1')]; exact hk
  rw [if_pos this] at e; exact e
theorem ite_chk3 {α : Type} {ops : Array Oper} (L : Nat → Nat → Nat → List (Nat × MF)) (a b c : Nat) (hab : a ≠ b) (hac : a ≠ c) (hbc : b ≠ c) {x y z : α} (h : ∀ f : Nat → Nat,f 1 = a → f 2 = b → f 3 = c → renL f (L 1 2 3) = L a b c) (hk : chkL ops (L 1 2 3) (L 1 2 3) = true) (e : (if chkL ops (L a b c) (L a b c) = true then x else y) = z) : x = z:=by
  obtain ⟨f,g,h1,h2,e1,_⟩:=perm_ext id id (fun _ => rfl) (fun _ => rfl) 1 a
  obtain ⟨f',g',h1',h2',e2,k2⟩:=perm_ext f g h1 h2 2 b
  obtain ⟨f'',g'',h1'',h2'',e3,k3⟩:=perm_ext f' g' h1' h2' 3 c
  have q1 : f' 1 = a:=by rw [k2 1 (by decide) (by omega)]; exact e1
  have : chkL ops (L a b c) (L a b c) = true:=by rw [← h f'' (by rw [k3 1 (by decide) (by omega)]; exact q1) (by rw [k3 2 (by decide) (by omega)]; exact e2) e3,chkL_ren (inv_inj h1'')]; exact hk
  rw [if_pos this] at e; exact e
theorem ite_chkF2 {α : Type} {ops : Array Oper} (L : Nat → Nat → List (Nat × MF)) (a b : Nat) (hab : a ≠ b) {x y z : α} (h : ∀ f : Nat → Nat,f 1 = a → f 2 = b → renL f (L 1 2) = L a b) (hk : chkL ops (L 1 2) (L 1 2) = false) (e : (if chkL ops (L a b) (L a b) = true then x else y) = z) : y = z:=by
  obtain ⟨f,g,h1,h2,e1,_⟩:=perm_ext id id (fun _ => rfl) (fun _ => rfl) 1 a
  obtain ⟨f',g',h1',h2',e2,k2⟩:=perm_ext f g h1 h2 2 b
  have : chkL ops (L a b) (L a b) = false:=by rw [← h f' (by rw [k2 1 (by decide) (by omega)]; exact e1) e2,chkL_ren (inv_inj h1')]; exact hk
  rw [if_neg (by rw [this]; simp)] at e; exact e
structure PBG {α : Type} (enc : α → PV) (sz B : Nat) (F : Int → List α) (M : Nat) (mm : List (Int × PV)) (g : Int → Nat) (H : Heap) : Prop where
  row : H.rows M = some (.map (kmap (PV.int .i64) mm))
  none : ∀ f,F f = [] → aget mm f = none
  some : ∀ f,F f ≠ [] → aget mm f = some (.gsl sz (g f) (F f).length 0 (F f).length) ∧ H.rows (g f) = some (.gro sz ((F f).map enc) 0) ∧ B < g f ∧ g f < H.next
  inj : ∀ f f',F f ≠ [] → F f' ≠ [] → g f = g f' → f = f'
section
variable {α : Type} {enc : α → PV} {sz B : Nat} {F F' : Int → List α} {M : Nat} {mm : List (Int × PV)} {g : Int → Nat} {H H2 : Heap} {k : Int} {x : α} {id : Nat}
theorem PBG_new (hP : PBG enc sz B F M mm g H) (hF : ∀ f,f ≠ k → F' f = F f) (h0 : F k = []) (hk : F' k = [x])
    (k1 : H2.rows M = some (.map (kmap (PV.int .i64) (aset mm k (.gsl sz id 1 0 1))))) (k2 : H2.rows id = some (.gro sz [enc x] 0)) (k3 : ∀ i,B < i → i ≠ id → H2.rows i = H.rows i) (k4 : H.next ≤ id) (k5 : id < H2.next) (k6 : H.next ≤ H2.next) (k7 : B < id) :
    PBG enc sz B F' M (aset mm k (.gsl sz id 1 0 1)) (fun f => if f = k then id else g f) H2:=by
  refine ⟨k1,fun f hf => ?_,fun f hf => ?_,fun f f' hf hf' hg => ?_⟩
  · rw [aget_aset]
    by_cases hx : f = k
    · subst hx; rw [hk] at hf; simp at hf
    · rw [if_neg hx]; rw [hF f hx] at hf; exact hP.none f hf
  · rw [aget_aset]
    by_cases hx : f = k
    · subst hx
      simp only [if_true]
      rw [hk]
      exact ⟨rfl,k2,k7,k5⟩
    · simp only [if_neg hx]
      rw [hF f hx] at hf ⊢
      obtain ⟨q1,q2,q3,q4⟩:=hP.some f hf
      exact ⟨q1,by rw [k3 _ q3 (by omega)]; exact q2,q3,by omega⟩
  · by_cases hx : f = k
    · by_cases hx' : f' = k
      · rw [hx,hx']
      · rw [if_pos hx,if_neg hx'] at hg
        rw [hF f' hx'] at hf'
        have:=(hP.some f' hf').2.2.2
        omega
    · by_cases hx' : f' = k
      · rw [if_neg hx,if_pos hx'] at hg
        rw [hF f hx] at hf
        have:=(hP.some f hf).2.2.2
        omega
      · rw [if_neg hx,if_neg hx'] at hg
        rw [hF f hx] at hf
        rw [hF f' hx'] at hf'
        exact hP.inj f f' hf hf' hg
theorem PBG_app {n : Nat} (hP : PBG enc sz B F M mm g H) (hF : ∀ f,f ≠ k → F' f = F f) (h0 : F k ≠ []) (hk : F' k = F k ++ [x]) (hid : g k = id) (hn : (F k).length = n)
    (k1 : H2.rows M = some (.map (kmap (PV.int .i64) (aset mm k (.gsl sz id (n + 1) 0 (n + 1)))))) (k2 : H2.rows id = some (.gro sz ((F k).map enc ++ [enc x]) 0)) (k3 : ∀ i,B < i → i ≠ id → H2.rows i = H.rows i) (k6 : H.next ≤ H2.next) :
    PBG enc sz B F' M (aset mm k (.gsl sz id (n + 1) 0 (n + 1))) g H2:=by
  have hs:=hP.some k h0
  have ne : ∀ f,F' f ≠ [] → F f ≠ []:=fun f hf => by
    by_cases hx : f = k
    · rw [hx]; exact h0
    · rw [hF f hx] at hf; exact hf
  refine ⟨k1,fun f hf => ?_,fun f hf => ?_,fun f f' hf hf' hg => hP.inj f f' (ne f hf) (ne f' hf') hg⟩
  · rw [aget_aset]
    by_cases hx : f = k
    · subst hx; rw [hk] at hf; simp at hf
    · rw [if_neg hx]; rw [hF f hx] at hf; exact hP.none f hf
  · rw [aget_aset]
    by_cases hx : f = k
    · subst hx
      simp only [if_true]
      rw [hk,hid]
      refine ⟨by rw [List.length_append,hn]; rfl,by rw [k2,List.map_append]; rfl,by omega,by omega⟩
    · simp only [if_neg hx]
      rw [hF f hx] at hf ⊢
      obtain ⟨q1,q2,q3,q4⟩:=hP.some f hf
      refine ⟨q1,?_,q3,by omega⟩
      rw [k3 _ q3 (fun h => hx (hP.inj f k hf h0 (h.trans hid.symm)))]; exact q2
end
structure Prt where
  (fm : Bool) (ix : Nat)
abbrev prt (p : Prt) : PV:=.agg [.bool p.fm,I p.ix]
def PRF (D : Dis) (r : Int) : Nat → List Prt
  | 0 => []
  | j + 1 => PRF D r j ++ match D.fs[j]? with
    | some x => if x.at_ = r then [⟨true,j⟩] else []
    | none => []
def PRR (D : Dis) (r : Int) : Nat → List Prt
  | 0 => []
  | j + 1 => PRR D r j ++ match D.rs[j]? with
    | some x => if x.up = r then [⟨false,j⟩] else []
    | none => []
theorem PRF_succ {D : Dis} {r : Int} {j : Nat} {x : Frm} (e : D.fs[j]? = some x) : PRF D r (j + 1) = PRF D r j ++ if x.at_ = r then [⟨true,j⟩] else []:=by
  show PRF D r j ++ _ = _
  rw [e]
theorem PRR_succ {D : Dis} {r : Int} {j : Nat} {x : Rch} (e : D.rs[j]? = some x) : PRR D r (j + 1) = PRR D r j ++ if x.up = r then [⟨false,j⟩] else []:=by
  show PRR D r j ++ _ = _
  rw [e]
theorem PRF_len (D : Dis) (r : Int) : ∀ j,(PRF D r j).length ≤ j
  | 0 => by simp [PRF]
  | j + 1 => by
    have ih:=PRF_len D r j
    show (PRF D r j ++ _).length ≤ _
    rw [List.length_append]
    split
    · split <;> simp <;> omega
    · simp; omega
theorem PRR_len (D : Dis) (r : Int) : ∀ j,(PRR D r j).length ≤ j
  | 0 => by simp [PRR]
  | j + 1 => by
    have ih:=PRR_len D r j
    show (PRR D r j ++ _).length ≤ _
    rw [List.length_append]
    split
    · split <;> simp <;> omega
    · simp; omega
def PRT (D : Dis) (r : Int) : List Prt:=PRF D r D.fs.length ++ PRR D r D.rs.length
def PIN (D : Dis) (p : Prt) : Prop:=if p.fm then p.ix < D.fs.length else p.ix < D.rs.length
theorem PRF_in {D : Dis} {r : Int} {p : Prt} : ∀ {j : Nat},j ≤ D.fs.length → p ∈ PRF D r j → PIN D p
  | 0,_,h => by simp [PRF] at h
  | j + 1,hj,h => by
    have e0 : D.fs[j]? = some D.fs[j]:=List.getElem?_eq_getElem (by omega)
    rw [PRF_succ e0,List.mem_append] at h
    rcases h with h | h
    · exact PRF_in (by omega) h
    · split at h
      · simp only [List.mem_singleton] at h; subst h; show (if true = true then j < _ else _); simp; omega
      · simp at h
theorem PRR_in {D : Dis} {r : Int} {p : Prt} : ∀ {j : Nat},j ≤ D.rs.length → p ∈ PRR D r j → PIN D p
  | 0,_,h => by simp [PRR] at h
  | j + 1,hj,h => by
    have e0 : D.rs[j]? = some D.rs[j]:=List.getElem?_eq_getElem (by omega)
    rw [PRR_succ e0,List.mem_append] at h
    rcases h with h | h
    · exact PRR_in (by omega) h
    · split at h
      · simp only [List.mem_singleton] at h; subst h; show (if false = true then _ else j < _); simp; omega
      · simp at h
theorem PRT_in {D : Dis} {r : Int} : ∀ p ∈ PRT D r,PIN D p:=fun p h => by
  rcases List.mem_append.1 h with h | h
  · exact PRF_in (Nat.le_refl _) h
  · exact PRR_in (Nat.le_refl _) h
theorem PRT_len (D : Dis) (r : Int) : (PRT D r).length ≤ D.fs.length + D.rs.length:=by
  have:=PRF_len D r D.fs.length
  have:=PRR_len D r D.rs.length
  unfold PRT
  rw [List.length_append]; omega
def PVL (cl hs : List Int) (p : Prt) : Int:=((if p.fm then cl[p.ix]? else hs[p.ix]?).getD 0)
def SUMP (cl hs : List Int) : List Prt → Int
  | [] => 0
  | p :: l => PVL cl hs p + SUMP cl hs l
theorem SUMP_app (cl hs : List Int) (a : List Prt) (p : Prt) : SUMP cl hs (a ++ [p]) = SUMP cl hs a + PVL cl hs p:=by
  induction a with
  | nil => simp [SUMP]
  | cons q a ih => simp only [List.cons_append,SUMP,ih]; omega
def LIT (l : List Int) : Prop:=∀ x ∈ l,0 ≤ x ∧ x ≤ 1073741824
theorem PVL_bd {cl hs : List Int} (hc : LIT cl) (hh : LIT hs) (p : Prt) : 0 ≤ PVL cl hs p ∧ PVL cl hs p ≤ 1073741824:=by
  unfold PVL
  split
  · cases e : cl[p.ix]? with
    | none => simp
    | some x => exact hc x (List.mem_of_getElem? e)
  · cases e : hs[p.ix]? with
    | none => simp
    | some x => exact hh x (List.mem_of_getElem? e)
theorem SUMP_bd {cl hs : List Int} (hc : LIT cl) (hh : LIT hs) : ∀ l : List Prt,0 ≤ SUMP cl hs l ∧ SUMP cl hs l ≤ 1073741824 * l.length
  | [] => by simp [SUMP]
  | p :: l => by
    have ih:=SUMP_bd hc hh l
    have b:=PVL_bd hc hh p
    simp only [SUMP,List.length_cons]
    omega
theorem SUMP_take {cl hs : List Int} {l : List Prt} {j : Nat} {p : Prt} (e : l[j]? = some p) : SUMP cl hs (l.take (j + 1)) = SUMP cl hs (l.take j) + PVL cl hs p:=by
  rw [List.take_add_one,e]
  exact SUMP_app cl hs _ p
noncomputable def LST (p : Int → Prop) (n : Int) : Int:=Classical.epsilon (fun r => IsL p n r)
theorem LST_eq {p : Int → Prop} {n r : Int} (h : IsL p n r) : LST p n = r:=IsL_one (Classical.epsilon_spec (p:=fun r => IsL p n r) ⟨r,h⟩) h
noncomputable def NEED (x : Rch) (t : Int) : Option Int:=
  if t = 0 then some 0 else if 1073741824 < t then none else if LST (fun v => t ≤ WO (los x) v) 1073741825 ≤ 1073741824 then some (max (LST (fun v => t ≤ WO (los x) v) 1073741825) x.si) else none
noncomputable def NDS (D : Dis) (cl : List Int) : Nat → Option (List Int)
  | 0 => some (List.replicate D.rs.length 0)
  | k + 1 => (NDS D cl k).bind fun hs => (D.rs[D.rs.length - 1 - k]?).bind fun x => (NEED x (SUMP cl hs (PRT D ((D.rs.length - 1 - k : Nat) : Int)))).map fun v => hs.set (D.rs.length - 1 - k) v
theorem NDS_succ {D : Dis} {cl hs : List Int} {k : Nat} {x : Rch} (h : NDS D cl k = some hs) (e : D.rs[D.rs.length - 1 - k]? = some x) : NDS D cl (k + 1) = (NEED x (SUMP cl hs (PRT D ((D.rs.length - 1 - k : Nat) : Int)))).map fun v => hs.set (D.rs.length - 1 - k) v:=by
  show (NDS D cl k).bind _ = _
  rw [h,Option.bind_some,e,Option.bind_some]
theorem NDS_none {D : Dis} {cl : List Int} {k : Nat} (h : NDS D cl k = none) : NDS D cl (k + 1) = none:=by
  show (NDS D cl k).bind _ = _
  rw [h]; rfl
theorem NDS_none_le {D : Dis} {cl : List Int} {k : Nat} (h : NDS D cl k = none) : ∀ {j : Nat},k ≤ j → NDS D cl j = none:=by
  intro j hj
  induction j with
  | zero => have : k = 0:=by omega
            subst this; exact h
  | succ j ih =>
    by_cases e : k = j + 1
    · subst e; exact h
    · exact NDS_none (ih (by omega))
theorem NEED_bd {x : Rch} (hx : 0 ≤ x.si ∧ x.si ≤ 1073741824) {t v : Int} (h : NEED x t = some v) : 0 ≤ v ∧ v ≤ 1073741824:=by
  unfold NEED at h
  split at h
  · cases h; omega
  · split at h
    · cases h
    · split at h
      · cases h; omega
      · cases h
structure NOK (D : Dis) (k : Nat) (hs : List Int) : Prop where
  len : hs.length = D.rs.length
  lit : LIT hs
  zero : ∀ j,j < D.rs.length - k → hs[j]? = some 0
theorem NDS_ok {D : Dis} (hD : ∀ x ∈ D.rs,0 ≤ x.si ∧ x.si ≤ 1073741824) {cl : List Int} : ∀ {k : Nat} {hs : List Int},k ≤ D.rs.length → NDS D cl k = some hs → NOK D k hs
  | 0,hs,_,h => by
    simp only [NDS,Option.some.injEq] at h
    subst h
    refine ⟨by simp,fun x hx => ?_,fun j hj => ?_⟩
    · rw [List.mem_replicate] at hx; omega
    · rw [List.getElem?_replicate,if_pos (by omega)]
  | k + 1,hs,hk,h => by
    cases e : NDS D cl k with
    | none => rw [NDS_none e] at h; cases h
    | some hs0 =>
      have e0 : D.rs[D.rs.length - 1 - k]? = some (D.rs[D.rs.length - 1 - k]'(by omega)):=List.getElem?_eq_getElem _
      have ih:=NDS_ok hD (by omega) e
      have hm:=hD _ (List.getElem_mem (l:=D.rs) (n:=D.rs.length - 1 - k) (by omega))
      rw [NDS_succ e e0] at h
      cases q : NEED (D.rs[D.rs.length - 1 - k]'(by omega)) (SUMP cl hs0 (PRT D ((D.rs.length - 1 - k : Nat) : Int))) with
      | none => rw [q] at h; cases h
      | some v =>
        rw [q] at h
        cases h
        refine ⟨by simp [ih.len],fun y hy => ?_,fun j hj => ?_⟩
        · rcases List.mem_or_eq_of_mem_set hy with hy | rfl
          · exact ih.lit y hy
          · exact NEED_bd hm q
        · rw [List.getElem?_set_ne (by omega)]
          exact ih.zero j (by omega)
theorem set_zero {hs : List Int} {i : Nat} (h : hs[i]? = some 0) : hs.set i 0 = hs:=by
  obtain ⟨hi,e⟩:=List.getElem?_eq_some_iff.1 h
  rw [← e,List.set_getElem_self]
def RV (cl : List Int) (v : PV) : Prop:=(∃ c,v = .vs 1 (cl.map I) c) ∨ (cl = [] ∧ v = .nils)
theorem RV_vs (cl : List Int) (c : Option Nat) : RV cl (.vs 1 (cl.map I) c):=.inl ⟨c,rfl⟩
theorem RVS {cl : List Int} {v : PV} (h : RV cl v) : (strip0 v = v ∧ (∀ H,strip1 H v = v) ∧ (∀ H,strip2 H v = v)) ∧ ((∀ H,freezeArg H v = (v,H)) ∧ (∀ H,freezeArg0 H v = (v,H))) ∧ (PV.fits v 1 = true ∧ PV.cells v = [v]) ∧ lenK (some (.slice 3)) v = some (I cl.length):=by
  rcases h with ⟨c,rfl⟩ | ⟨rfl,rfl⟩
  · have s0 : strip0 (.vs 1 (cl.map I) c) = .vs 1 (cl.map I) c:=by show PV.vs 1 (strip0L (cl.map I)) c = _; rw [strip0_ints]
    refine ⟨⟨s0,fun H => ?_,fun H => ?_⟩,⟨fun H => ?_,fun H => ?_⟩,⟨rfl,rfl⟩,by rw [lenK_vs,List.length_map]⟩
    · show PV.vs 1 (strip1L H (cl.map I)) c = _; rw [strip1_ints]
    · show PV.vs 1 (strip2L H (cl.map I)) c = _; rw [strip2_ints]
    · show (strip0 (.vs 1 (cl.map I) c),H) = _; rw [s0]
    · show (strip0 (.vs 1 (cl.map I) c),H) = _; rw [s0]
  · exact ⟨⟨rfl,fun _ => rfl,fun _ => rfl⟩,⟨fun _ => rfl,fun _ => rfl⟩,⟨rfl,rfl⟩,rfl⟩
def LV {α : Type} (enc : α → PV) (sz : Nat) (l : List α) (v : PV) (H : Heap) : Prop:=(l = [] ∧ v = .nils) ∨ (l ≠ [] ∧ ∃ id,v = .gsl sz id l.length 0 l.length ∧ H.rows id = some (.gro sz (l.map enc) 0) ∧ id < H.next)
set_option maxHeartbeats 4000000 in
theorem c_claims (D : Dis) (l : List Prt) (hl : ∀ p ∈ l,PIN D p) (cl hs : List Int) (lc : cl.length = D.fs.length) (lh : hs.length = D.rs.length) (hc : LIT cl) (hh : LIT hs) (ll : l.length ≤ 100000) (vc : PV) (hvc : RV cl vc) (H : Heap) (v : PV) (hv : LV prt 2 l v H) (h0 : Nat) (hr0 : H.rows h0 = some (.gro 1 (hs.map I) 0)) (hn0 : h0 < H.next) (X : Option (CR × Heap))
    (hX : callF G Tryz.prog pol 96 [v,vc,.gsl 1 h0 D.rs.length 0 D.rs.length] H = X) : ∃ w H',X = some (.ret (.tup [w,I (SUMP cl hs l)]),H') ∧ (∀ i < H.next,H'.rows i = H.rows i) ∧ H.next ≤ H'.next:=by
  rw [← lh] at hX
  subst hX
  rw [callF_eq _ _ Tryz.func96 rfl Tryz.ntmps96 Tryz.results96 (by kernel_rfl) rfl (by exact Nat.le_of_ble_eq_true rfl)]
  rcases hv with ⟨rfl,rfl⟩ | ⟨hne,id,rfl,hrow,hid⟩
  · simp (maxSteps:=999999) only [E0,seval,-Int.reduceNatCast',NUM,WW_loop]
    exact ⟨_,_,rfl,fun i hi => if_neg (show ¬ i = H.next + 1 by omega),(show H.next ≤ H.next + 2 by omega)⟩
  simp (maxSteps:=999999) only [E0,seval,-Int.reduceNatCast',NUM]
  generalize hL : W _ (.loop _) _ = L
  obtain ⟨ex,s,rfl,rfl,h6,h7,hfr,hnx,hd⟩:=loop_at hL (α:=Nat) (fun j => l.length - j)
    (fun s0 j s => j ≤ l.length ∧ s.tmps 13 = I j ∧ s.tmps 12 = I l.length ∧ s.tmps 11 = .gsl 2 id l.length 0 l.length ∧ s.tmps 1 = vc ∧ s.tmps 2 = .gsl 1 h0 hs.length 0 hs.length ∧ s.tmps 6 = .gsl 1 (H.next + 1) j 0 j ∧ s.tmps 7 = I (SUMP cl hs (l.take j)) ∧ (∃ es : List PV,s.H.rows (H.next + 1) = some (.gro 1 es 0) ∧ es.length = j) ∧ (∀ i < H.next,s.H.rows i = H.rows i) ∧ s.H.next = H.next + 2 ∧ s.defers = [] ∧ s.fid = H.next)
    (fun s0 ex s => ex = .exit 0 ∧ s.tmps 6 = .gsl 1 (H.next + 1) l.length 0 l.length ∧ s.tmps 7 = I (SUMP cl hs l) ∧ (∀ i < H.next,s.H.rows i = H.rows i) ∧ s.H.next = H.next + 2 ∧ s.defers = []) 0
    (by simp (maxSteps:=999999) only [E0,seval,-Int.reduceNatCast',List.take_zero,SUMP]; exact ⟨Nat.zero_le _,by simp,⟨[],rfl,rfl⟩,fun i hi => by rw [if_neg (show ¬ i = H.next + 1 by omega)]⟩) (by
      rintro j s r hW ⟨hj,h13,h12,h11,h1,h2,h6,h7,⟨es,hes,hel⟩,hfr,hnx,hd,hf⟩
      by_cases hp : j < l.length
      rotate_left
      · simp (maxSteps:=999999) only [E0,seval,-Int.reduceNatCast',NUM,h13,h12,hd,hf,(show ¬ (j : Int) < l.length by omega)] at hW
        subst hW
        have : j = l.length:=by omega
        subst this
        rw [List.take_length] at h7
        refine rd_exit ⟨rfl,?_⟩
        simp (maxSteps:=999999) only [E0,seval,-Int.reduceNatCast',h6,h7,hnx,hd]
        exact hfr
      have e0 : l[j]? = some l[j]:=List.getElem?_eq_getElem hp
      have e1:=map_get (f:=prt) e0
      have hin:=hl _ (List.getElem_mem hp)
      have st:=SUMP_take (cl:=cl) (hs:=hs) e0
      have sb:=SUMP_bd hc hh (l.take j)
      have lt : (l.take j).length ≤ 100000:=by simp; omega
      generalize l[j] = p at *
      obtain ⟨fm,ix⟩:=p
      have pb:=PVL_bd hc hh ⟨fm,ix⟩
      have gr:=hfr id hid
      rw [hrow] at gr
      have g0:=hfr h0 hn0
      rw [hr0] at g0
      generalize SUMP cl hs (l.take j) = S at *
      cases fm with
      | true =>
        have hx : ix < cl.length:=by rw [lc]; exact hin
        have f0 : cl[ix]? = some cl[ix]:=List.getElem?_eq_getElem hx
        have f1:=ints_get f0
        have ev : PVL cl hs ⟨true,ix⟩ = cl[ix]:=by unfold PVL; simp [f0]
        rw [ev] at st pb
        obtain ⟨c,rfl⟩ : ∃ c,vc = .vs 1 (cl.map I) c:=by
          rcases hvc with h | ⟨rfl,_⟩
          · exact h
          · simp at hx
        generalize cl[ix] = n at *
        rcases hb9 : s.boxes 9 with _ | ⟨v9,c9⟩
        all_goals
          simp (maxSteps:=999999) only [E0,seval,-Int.reduceNatCast',NUM,INTS,h13,h12,h11,h1,h2,h6,h7,hes,hel,hnx,gr,hd,hf,hb9,e1,f1,List.length_map,Int.toNat_natCast,Nat.zero_add,hp,hx,(show (j : Int) < l.length by omega),(show (0 : Int) ≤ j by omega),(show (0 : Int) ≤ ix by omega),(show (ix : Int) < cl.length by omega),(i64_in (x:=(j : Int) + 1) (by unfold I64; omega)),(i64_in (x:=S + n) (by unfold I64; omega)),(show j ≤ 67108863 by omega)] at hW
          subst hW
          refine rd_next (j + 1) ?_ (show l.length - (j + 1) < l.length - j by omega)
          simp (maxSteps:=999999) only [E0,seval,-Int.reduceNatCast',h12,h11,h1,h2,hnx,hd,st]
          exact ⟨by omega,by simp,⟨_,rfl,by simp [hel]⟩,fun i hi => by rw [if_neg (show ¬ i = H.next + 1 by omega)]; exact hfr i hi⟩
      | false =>
        have hx : ix < hs.length:=by rw [lh]; exact hin
        have f0 : hs[ix]? = some hs[ix]:=List.getElem?_eq_getElem hx
        have f1:=ints_get f0
        have ev : PVL cl hs ⟨false,ix⟩ = hs[ix]:=by unfold PVL; simp [f0]
        rw [ev] at st pb
        generalize hs[ix] = n at *
        rcases hb9 : s.boxes 9 with _ | ⟨v9,c9⟩
        all_goals
          simp (maxSteps:=999999) only [E0,seval,-Int.reduceNatCast',NUM,INTS,h13,h12,h11,h1,h2,h6,h7,hes,hel,hnx,gr,g0,hd,hf,hb9,e1,f1,List.length_map,Int.toNat_natCast,Nat.zero_add,hp,hx,(show (j : Int) < l.length by omega),(show (0 : Int) ≤ j by omega),(show (0 : Int) ≤ ix by omega),(show (ix : Int) < hs.length by omega),(i64_in (x:=(j : Int) + 1) (by unfold I64; omega)),(i64_in (x:=S + n) (by unfold I64; omega)),(show j ≤ 67108863 by omega)] at hW
          subst hW
          refine rd_next (j + 1) ?_ (show l.length - (j + 1) < l.length - j by omega)
          simp (maxSteps:=999999) only [E0,seval,-Int.reduceNatCast',h12,h11,h1,h2,hnx,hd,st]
          exact ⟨by omega,by simp,⟨_,rfl,by simp [hel]⟩,fun i hi => by rw [if_neg (show ¬ i = H.next + 1 by omega)]; exact hfr i hi⟩)
  simp (maxSteps:=999999) only [E0,seval,-Int.reduceNatCast',h6,h7,hd]
  exact ⟨_,_,rfl,hfr,by omega⟩
theorem PRF_own {D : Dis} {j : Nat} {x : Frm} (e : D.fs[j]? = some x) : PRF D x.at_ (j + 1) = PRF D x.at_ j ++ [⟨true,j⟩]:=by rw [PRF_succ e,if_pos rfl]
theorem PRF_oth {D : Dis} {j : Nat} {x : Frm} (e : D.fs[j]? = some x) {f : Int} (h : f ≠ x.at_) : PRF D f (j + 1) = PRF D f j:=by rw [PRF_succ e,if_neg (fun g => h g.symm),List.append_nil]
abbrev dcel (D : Dis) (rc fc : Option Nat) (cs gs ds ws : PV) : List PV:=[.str D.nm,I D.hours,I D.cap,I D.start,.vs 12 (D.rs.map rch) rc,.vs 4 (D.fs.map frm) fc,cs,gs,ds,ws]
set_option maxHeartbeats 8000000 in
theorem c_grow (D : Dis) (rc fc : Option Nat) (cs gs ds ws : PV) (lf : D.fs.length ≤ 600) (lr : D.rs.length ≤ 64) (H : Heap) (X : Option (CR × Heap))
    (hX : callF G Tryz.prog pol 82 [.agg (dcel D rc fc cs gs ds ws)] H = X) : ∃ mm g H',X = some (.ret (.agg (dcel D rc fc cs gs ds ws ++ [.map (H.next + 1)])),H') ∧ PBG prt 2 (H.next + 1) (PRT D) (H.next + 1) mm g H' ∧ (∀ i < H.next + 1,H'.rows i = H.rows i) ∧ H.next + 1 < H'.next:=by
  subst hX
  rw [callF_eq _ _ Tryz.func82 rfl Tryz.ntmps82 Tryz.results82 (by kernel_rfl) rfl (by exact Nat.le_of_ble_eq_true rfl)]
  simp (maxSteps:=999999) only [E0,seval,-Int.reduceNatCast',NUM,List.length_map]
  generalize hL : W _ (.loop _) _ = L
  obtain ⟨ex,s,rfl,rfl,⟨mm,g,hP⟩,h1,hb1,h2,hb2,h3,hb3,hfr,hnx,hd,hf⟩:=loop_at hL (α:=Nat) (fun j => D.fs.length - j)
    (fun s0 j s => j ≤ D.fs.length ∧ (∃ mm g,PBG prt 2 (H.next + 1) (fun r => PRF D r j) (H.next + 1) mm g s.H) ∧ s.tmps 14 = I j ∧ s.tmps 13 = I D.fs.length ∧ s.tmps 12 = .vs 4 (D.fs.map frm) fc ∧ s.tmps 1 = .bptr H.next 1 0 0 ∧ s.boxes 1 = some (0,dcel D rc fc cs gs ds ws) ∧ s.tmps 2 = s0.tmps 2 ∧ s.boxes 2 = s0.boxes 2 ∧ s.tmps 3 = .bptr H.next 3 0 0 ∧ s.boxes 3 = some (0,dcel D rc fc cs gs ds ws ++ [.map (H.next + 1)]) ∧ (∀ i < H.next + 1,s.H.rows i = H.rows i) ∧ H.next + 1 < s.H.next ∧ s.defers = [] ∧ s.fid = H.next)
    (fun s0 ex s => ex = .exit 0 ∧ (∃ mm g,PBG prt 2 (H.next + 1) (fun r => PRF D r D.fs.length) (H.next + 1) mm g s.H) ∧ s.tmps 1 = .bptr H.next 1 0 0 ∧ s.boxes 1 = some (0,dcel D rc fc cs gs ds ws) ∧ s.tmps 2 = s0.tmps 2 ∧ s.boxes 2 = s0.boxes 2 ∧ s.tmps 3 = .bptr H.next 3 0 0 ∧ s.boxes 3 = some (0,dcel D rc fc cs gs ds ws ++ [.map (H.next + 1)]) ∧ (∀ i < H.next + 1,s.H.rows i = H.rows i) ∧ H.next + 1 < s.H.next ∧ s.defers = [] ∧ s.fid = H.next) 0
    (by simp (maxSteps:=999999) only [E0,seval,-Int.reduceNatCast',List.cons_append,List.nil_append]
        refine ⟨Nat.zero_le _,⟨[],fun _ => 0,⟨?_,fun f _ => rfl,fun f h => absurd rfl h,fun f f' h => absurd rfl h⟩⟩,by simp,fun i hi => if_neg (show ¬ i = H.next + 1 by omega),by omega⟩
        simp (maxSteps:=999999) only [E0,seval,-Int.reduceNatCast']
        rfl) (by
      rintro j s r hW ⟨hj,⟨mm,g,hP⟩,h14,h13,h12,h1,hb1,h2,hb2,h3,hb3,hfr,hnx,hd,hf⟩
      by_cases hp : j < D.fs.length
      rotate_left
      · simp (maxSteps:=999999) only [E0,seval,-Int.reduceNatCast',NUM,h14,h13,hd,hf,(show ¬ (j : Int) < D.fs.length by omega)] at hW
        subst hW
        have : j = D.fs.length:=by omega
        subst this
        refine rd_exit ⟨rfl,⟨mm,g,hP⟩,?_⟩
        simp (maxSteps:=999999) only [E0,seval,-Int.reduceNatCast',h1,hb1,h2,hb2,h3,hb3,hd]
        exact ⟨hfr,hnx⟩
      have e0 : D.fs[j]? = some D.fs[j]:=List.getElem?_eq_getElem hp
      have e1:=map_get (f:=frm) e0
      have lp:=PRF_len D
      generalize D.fs[j] = x at *
      have hrow:=hP.row
      have own:=PRF_own e0
      have oth:=fun f (h : f ≠ x.at_) => PRF_oth e0 h
      by_cases hE : PRF D x.at_ j = []
      · have hn:=hP.none x.at_ hE
        rcases hb5 : s.boxes 5 with _ | ⟨v5,c5⟩
        all_goals
          simp (maxSteps:=999999) only [E0,seval,-Int.reduceNatCast',NUM,MAPI,List.cons_append,List.nil_append,h14,h13,h12,h3,hb3,hrow,hn,hd,hf,hb5,e1,List.length_map,Int.toNat_natCast,Nat.zero_le,(show (j : Int) < D.fs.length by omega),(show (0 : Int) ≤ j by omega),(i64_in (x:=(j : Int) + 1) (by unfold I64; omega)),(show ¬ H.next + 1 = s.H.next by omega)] at hW
          replace hW:=ite_chk2 (fun M id => [(13,[Vr.row M],[Vr.row M]),(12,[Vr.nx,Vr.row id],[Vr.nx,Vr.row id]),(8,[Vr.row M],[]),(7,[Vr.box 5],[]),(5,[Vr.box 3],[]),(3,[Vr.box 5],[]),(1,[Vr.box 3],[])]) (H.next + 1) s.H.next (by omega) (by intro f h1 h2; simp [renL,renM,renV,h1,h2]) (by kernel_rfl) hW
          subst hW
          refine rd_next (j + 1) ?_ (show D.fs.length - (j + 1) < D.fs.length - j by omega)
          simp (maxSteps:=999999) only [E0,seval,-Int.reduceNatCast',List.cons_append,List.nil_append,h13,h12,h1,hb1,h2,hb2,h3,hb3]
          refine ⟨by omega,⟨_,_,PBG_new (id:=s.H.next) hP oth hE (by rw [own,hE]; rfl) ?_ ?_ ?_ (Nat.le_refl _) ?_ ?_ (by omega)⟩,by simp,?_,by omega⟩
          · simp (maxSteps:=999999) only [E0,seval,-Int.reduceNatCast']
          · simp (maxSteps:=999999) only [E0,seval,-Int.reduceNatCast',(show ¬ s.H.next = H.next + 1 by omega)]
          · intro i hi hne
            simp (maxSteps:=999999) only [E0,seval,-Int.reduceNatCast',hne,(show ¬ i = H.next + 1 by omega)]
          · simp (maxSteps:=999999) only [E0,seval,-Int.reduceNatCast']
            omega
          · simp (maxSteps:=999999) only [E0,seval,-Int.reduceNatCast']
            omega
          · intro i hi
            simp (maxSteps:=999999) only [E0,seval,-Int.reduceNatCast',(show ¬ i = H.next + 1 by omega),(show ¬ i = s.H.next by omega)]
            exact hfr i hi
      · obtain ⟨hs1,hs2,hs3,hs4⟩:=hP.some x.at_ hE
        have lpf:=lp x.at_ j
        obtain ⟨id,hid⟩ : ∃ id,g x.at_ = id:=⟨_,rfl⟩
        rw [hid] at hs1 hs2 hs3 hs4
        rcases hb5 : s.boxes 5 with _ | ⟨v5,c5⟩
        all_goals
          simp (maxSteps:=999999) only [E0,seval,-Int.reduceNatCast',NUM,MAPI,List.cons_append,List.nil_append,h14,h13,h12,h3,hb3,hrow,hs1,hs2,hd,hf,hb5,e1,List.length_map,Int.toNat_natCast,Nat.zero_le,(show (j : Int) < D.fs.length by omega),(show (0 : Int) ≤ j by omega),(i64_in (x:=(j : Int) + 1) (by unfold I64; omega)),(show (PRF D x.at_ j).length + 1 ≤ 67108864 by omega),(show (PRF D x.at_ j).length ≤ 67108863 by omega),(show ¬ H.next + 1 = id by omega)] at hW
          replace hW:=ite_chk2 (fun M id => [(13,[Vr.row M],[Vr.row M]),(12,[Vr.row id],[Vr.row id]),(8,[Vr.row M],[]),(7,[Vr.box 5],[]),(5,[Vr.box 3],[]),(3,[Vr.box 5],[]),(1,[Vr.box 3],[])]) (H.next + 1) id (by omega) (by intro f h1 h2; simp [renL,renM,renV,h1,h2]) (by kernel_rfl) hW
          subst hW
          refine rd_next (j + 1) ?_ (show D.fs.length - (j + 1) < D.fs.length - j by omega)
          simp (maxSteps:=999999) only [E0,seval,-Int.reduceNatCast',List.cons_append,List.nil_append,h13,h12,h1,hb1,h2,hb2,h3,hb3]
          refine ⟨by omega,⟨_,_,PBG_app (id:=id) (n:=(PRF D x.at_ j).length) hP oth hE own hid rfl ?_ ?_ ?_ ?_⟩,by simp,?_,by omega⟩
          · simp (maxSteps:=999999) only [E0,seval,-Int.reduceNatCast']
          · simp (maxSteps:=999999) only [E0,seval,-Int.reduceNatCast',(show ¬ id = H.next + 1 by omega)]
          · intro i hi hne
            simp (maxSteps:=999999) only [E0,seval,-Int.reduceNatCast',hne,(show ¬ i = H.next + 1 by omega)]
          · simp (maxSteps:=999999) only [E0,seval,-Int.reduceNatCast']
            omega
          · intro i hi
            simp (maxSteps:=999999) only [E0,seval,-Int.reduceNatCast',(show ¬ i = H.next + 1 by omega),(show ¬ i = id by omega)]
            exact hfr i hi)
  clear hL
  simp (maxSteps:=999999) only [E0,seval,-Int.reduceNatCast',NUM,List.cons_append,List.nil_append,h1,hb1,hd,hf,List.length_map]
  generalize hL : W _ (.loop _) _ = L
  obtain ⟨ex,s2,rfl,rfl,⟨mm,g,hP⟩,k2,hc2,k3,hc3,kfr,knx,kd,kf⟩:=loop_at hL (α:=Nat) (fun j => D.rs.length - j)
    (fun s0 j s => j ≤ D.rs.length ∧ (∃ mm g,PBG prt 2 (H.next + 1) (fun r => PRF D r D.fs.length ++ PRR D r j) (H.next + 1) mm g s.H) ∧ s.tmps 36 = I j ∧ s.tmps 35 = I D.rs.length ∧ s.tmps 34 = .vs 12 (D.rs.map rch) rc ∧ s.tmps 1 = .bptr H.next 1 0 0 ∧ s.boxes 1 = some (0,dcel D rc fc cs gs ds ws) ∧ s.tmps 2 = s0.tmps 2 ∧ s.boxes 2 = s0.boxes 2 ∧ s.tmps 3 = .bptr H.next 3 0 0 ∧ s.boxes 3 = some (0,dcel D rc fc cs gs ds ws ++ [.map (H.next + 1)]) ∧ (∀ i < H.next + 1,s.H.rows i = H.rows i) ∧ H.next + 1 < s.H.next ∧ s.defers = [] ∧ s.fid = H.next)
    (fun s0 ex s => ex = .exit 2 ∧ (∃ mm g,PBG prt 2 (H.next + 1) (PRT D) (H.next + 1) mm g s.H) ∧ s.tmps 2 = s0.tmps 2 ∧ s.boxes 2 = s0.boxes 2 ∧ s.tmps 3 = .bptr H.next 3 0 0 ∧ s.boxes 3 = some (0,dcel D rc fc cs gs ds ws ++ [.map (H.next + 1)]) ∧ (∀ i < H.next + 1,s.H.rows i = H.rows i) ∧ H.next + 1 < s.H.next ∧ s.defers = [] ∧ s.fid = H.next) 0
    (by simp (maxSteps:=999999) only [E0,seval,-Int.reduceNatCast',List.cons_append,List.nil_append,h1,hb1,h3,hb3]
        refine ⟨Nat.zero_le _,⟨mm,g,?_⟩,by simp,hfr,hnx⟩
        have e : (fun r => PRF D r D.fs.length ++ PRR D r 0) = fun r => PRF D r D.fs.length:=by funext r; simp [PRR]
        rw [e]; exact hP) (by
      rintro j s r hW ⟨hj,⟨mm,g,hP⟩,h36,h35,h34,h1,hb1,h2,hb2,h3,hb3,hfr,hnx,hd,hf⟩
      by_cases hp : j < D.rs.length
      rotate_left
      · simp (maxSteps:=999999) only [E0,seval,-Int.reduceNatCast',NUM,h36,h35,hd,hf,(show ¬ (j : Int) < D.rs.length by omega)] at hW
        subst hW
        have : j = D.rs.length:=by omega
        subst this
        refine rd_exit ⟨rfl,⟨mm,g,hP⟩,?_⟩
        simp (maxSteps:=999999) only [E0,seval,-Int.reduceNatCast',h1,hb1,h2,hb2,h3,hb3,hd]
        exact ⟨hfr,hnx⟩
      have e0 : D.rs[j]? = some D.rs[j]:=List.getElem?_eq_getElem hp
      have e1:=map_get (f:=rch) e0
      have lq : ∀ r j,(PRF D r D.fs.length ++ PRR D r j).length ≤ 600 + j:=by
        intro r j
        have:=PRF_len D r D.fs.length
        have:=PRR_len D r j
        rw [List.length_append]; omega
      generalize D.rs[j] = x at *
      have hrow:=hP.row
      have own : PRF D x.up D.fs.length ++ PRR D x.up (j + 1) = (PRF D x.up D.fs.length ++ PRR D x.up j) ++ [⟨false,j⟩]:=by rw [PRR_succ e0,if_pos rfl,List.append_assoc]
      have oth : ∀ f,f ≠ x.up → PRF D f D.fs.length ++ PRR D f (j + 1) = PRF D f D.fs.length ++ PRR D f j:=fun f h => by rw [PRR_succ e0,if_neg (fun g => h g.symm),List.append_nil]
      by_cases hE : PRF D x.up D.fs.length ++ PRR D x.up j = []
      · have hn:=hP.none x.up hE
        rcases hb7 : s.boxes 7 with _ | ⟨v7,c7⟩
        all_goals
          simp (maxSteps:=999999) only [E0,seval,-Int.reduceNatCast',NUM,MAPI,List.cons_append,List.nil_append,h36,h35,h34,h3,hb3,hrow,hn,hd,hf,hb7,e1,List.length_map,Int.toNat_natCast,Nat.zero_le,(show (j : Int) < D.rs.length by omega),(show (0 : Int) ≤ j by omega),(i64_in (x:=(j : Int) + 1) (by unfold I64; omega)),(show ¬ H.next + 1 = s.H.next by omega)] at hW
          replace hW:=ite_chk2 (fun M id => [(13,[Vr.row M],[Vr.row M]),(12,[Vr.nx,Vr.row id],[Vr.nx,Vr.row id]),(8,[Vr.row M],[]),(7,[Vr.box 7],[]),(5,[Vr.box 3],[]),(3,[Vr.box 7],[]),(1,[Vr.box 3],[])]) (H.next + 1) s.H.next (by omega) (by intro f h1 h2; simp [renL,renM,renV,h1,h2]) (by kernel_rfl) hW
          subst hW
          refine rd_next (j + 1) ?_ (show D.rs.length - (j + 1) < D.rs.length - j by omega)
          simp (maxSteps:=999999) only [E0,seval,-Int.reduceNatCast',List.cons_append,List.nil_append,h35,h34,h1,hb1,h2,hb2,h3,hb3]
          refine ⟨by omega,⟨_,_,PBG_new (id:=s.H.next) hP oth hE (by rw [own,hE]; rfl) ?_ ?_ ?_ (Nat.le_refl _) ?_ ?_ (by omega)⟩,by simp,?_,by omega⟩
          · simp (maxSteps:=999999) only [E0,seval,-Int.reduceNatCast']
          · simp (maxSteps:=999999) only [E0,seval,-Int.reduceNatCast',(show ¬ s.H.next = H.next + 1 by omega)]
          · intro i hi hne
            simp (maxSteps:=999999) only [E0,seval,-Int.reduceNatCast',hne,(show ¬ i = H.next + 1 by omega)]
          · simp (maxSteps:=999999) only [E0,seval,-Int.reduceNatCast']
            omega
          · simp (maxSteps:=999999) only [E0,seval,-Int.reduceNatCast']
            omega
          · intro i hi
            simp (maxSteps:=999999) only [E0,seval,-Int.reduceNatCast',(show ¬ i = H.next + 1 by omega),(show ¬ i = s.H.next by omega)]
            exact hfr i hi
      · obtain ⟨hs1,hs2,hs3,hs4⟩:=hP.some x.up hE
        have lpf:=lq x.up j
        obtain ⟨id,hid⟩ : ∃ id,g x.up = id:=⟨_,rfl⟩
        rw [hid] at hs1 hs2 hs3 hs4
        rcases hb7 : s.boxes 7 with _ | ⟨v7,c7⟩
        all_goals
          simp (maxSteps:=999999) only [E0,seval,-Int.reduceNatCast',NUM,MAPI,List.cons_append,List.nil_append,h36,h35,h34,h3,hb3,hrow,hs1,hs2,hd,hf,hb7,e1,List.length_map,Int.toNat_natCast,Nat.zero_le,(show (j : Int) < D.rs.length by omega),(show (0 : Int) ≤ j by omega),(i64_in (x:=(j : Int) + 1) (by unfold I64; omega)),(show (PRF D x.up D.fs.length ++ PRR D x.up j).length + 1 ≤ 67108864 by omega),(show (PRF D x.up D.fs.length ++ PRR D x.up j).length ≤ 67108863 by omega),(show ¬ H.next + 1 = id by omega)] at hW
          replace hW:=ite_chk2 (fun M id => [(13,[Vr.row M],[Vr.row M]),(12,[Vr.row id],[Vr.row id]),(8,[Vr.row M],[]),(7,[Vr.box 7],[]),(5,[Vr.box 3],[]),(3,[Vr.box 7],[]),(1,[Vr.box 3],[])]) (H.next + 1) id (by omega) (by intro f h1 h2; simp [renL,renM,renV,h1,h2]) (by kernel_rfl) hW
          subst hW
          refine rd_next (j + 1) ?_ (show D.rs.length - (j + 1) < D.rs.length - j by omega)
          simp (maxSteps:=999999) only [E0,seval,-Int.reduceNatCast',List.cons_append,List.nil_append,h35,h34,h1,hb1,h2,hb2,h3,hb3]
          refine ⟨by omega,⟨_,_,PBG_app (id:=id) (n:=(PRF D x.up D.fs.length ++ PRR D x.up j).length) hP oth hE own hid rfl ?_ ?_ ?_ ?_⟩,by simp,?_,by omega⟩
          · simp (maxSteps:=999999) only [E0,seval,-Int.reduceNatCast']
          · simp (maxSteps:=999999) only [E0,seval,-Int.reduceNatCast',(show ¬ id = H.next + 1 by omega)]
          · intro i hi hne
            simp (maxSteps:=999999) only [E0,seval,-Int.reduceNatCast',hne,(show ¬ i = H.next + 1 by omega)]
          · simp (maxSteps:=999999) only [E0,seval,-Int.reduceNatCast']
            omega
          · intro i hi
            simp (maxSteps:=999999) only [E0,seval,-Int.reduceNatCast',(show ¬ i = H.next + 1 by omega),(show ¬ i = id by omega)]
            exact hfr i hi)
  simp (maxSteps:=999999) only [E0,seval,-Int.reduceNatCast',h2] at k2
  simp (maxSteps:=999999) only [E0,seval,-Int.reduceNatCast',hb2] at hc2
  simp (maxSteps:=999999) only [E0,seval,-Int.reduceNatCast',NUM,List.cons_append,List.nil_append,k2,hc2,k3,hc3,kd,kf]
  exact ⟨_,_,_,rfl,hP,kfr,knx⟩
theorem none_more {α : Type} {P : α → Prop} {l : List α} {j : Nat} {x : α} (e : l[j]? = some x) (h : ∀ y ∈ l.take j,¬ P y) (hx : ¬ P x) : ∀ y ∈ l.take (j + 1),¬ P y:=by
  intro y hy
  rw [List.take_add_one,e] at hy
  rcases List.mem_append.1 hy with hy | hy
  · exact h y hy
  · simp only [Option.toList_some,List.mem_singleton] at hy
    rw [hy]; exact hx
def BADL (x : Int) : Prop:=x < 0 ∨ 1073741824 < x
instance (x : Int) : Decidable (BADL x):=by unfold BADL; infer_instance
theorem c_wins (n lo hi : Int) : ap Tryz.prog pol 60 [I n,I lo,I hi] = some (.ret (.bool (decide (lo ≤ n ∧ n ≤ hi)))):=by
  rw [ap_eq _ Tryz.func60 rfl Tryz.ntmps60 Tryz.results60 (by kernel_rfl) rfl (by exact Nat.le_of_ble_eq_true rfl)]
  by_cases h1 : lo ≤ n
  · by_cases h2 : n ≤ hi
    · simp (maxSteps:=999999) only [E0,seval,-Int.reduceNatCast',NUM,(show ¬ n < lo by omega),h1,h2]
    · simp (maxSteps:=999999) only [E0,seval,-Int.reduceNatCast',NUM,(show ¬ n < lo by omega),h1,h2]
  · simp (maxSteps:=999999) only [E0,seval,-Int.reduceNatCast',NUM,(show n < lo by omega),h1]
    simp
theorem c_bad1 (x : Int) : ap Tryz.prog pol 94 [I x] = some (.ret (.bool (decide (BADL x)))):=by
  rw [ap_eq _ Tryz.func94 rfl Tryz.ntmps94 Tryz.results94 (by kernel_rfl) rfl (by exact Nat.le_of_ble_eq_true rfl)]
  by_cases h1 : x < 0
  · rw [decide_eq_true (show BADL x from .inl h1)]; simp (maxSteps:=999999) only [E0,seval,-Int.reduceNatCast',NUM,h1]
  · by_cases h2 : 1073741824 < x
    · rw [decide_eq_true (show BADL x from .inr h2)]; simp (maxSteps:=999999) only [E0,seval,-Int.reduceNatCast',NUM,h1,h2]
    · rw [decide_eq_false (show ¬ BADL x from fun h => h.elim h1 h2)]; simp (maxSteps:=999999) only [E0,seval,-Int.reduceNatCast',NUM,h1,h2]
theorem c_bad2 (x : Int) : ap Tryz.prog pol 64 [I x] = some (.ret (.bool (decide (BADL x)))):=by
  have cw:=c_wins x 0 1073741824
  rw [ap_eq _ Tryz.func64 rfl Tryz.ntmps64 Tryz.results64 (by kernel_rfl) rfl (by exact Nat.le_of_ble_eq_true rfl)]
  by_cases h1 : 0 ≤ x ∧ x ≤ 1073741824
  · rw [decide_eq_true h1] at cw
    rw [decide_eq_false (show ¬ BADL x from fun h => h.elim (by omega) (by omega))]; simp (maxSteps:=999999) only [E0,seval,-Int.reduceNatCast',NUM,cw]
  · rw [decide_eq_false h1] at cw
    rw [decide_eq_true (show BADL x by unfold BADL; omega)]; simp (maxSteps:=999999) only [E0,seval,-Int.reduceNatCast',NUM,cw]
theorem c_ixl (F : Nat) (hF : F = 94 ∨ F = 64) (l : List Int) (v : PV) (hv : RV l v) (hl : l.length ≤ 1000000) : ∃ k : Int,ap Tryz.prog pol 73 [v,.fn F []] = some (.ret (I k)) ∧ (0 ≤ k ↔ ∃ x ∈ l,BADL x):=by
  have cf : ∀ x,ap Tryz.prog pol F [I x] = some (.ret (.bool (decide (BADL x)))):=by
    rcases hF with rfl | rfl
    · exact c_bad1
    · exact c_bad2
  rcases hv with ⟨c,rfl⟩ | ⟨rfl,rfl⟩
  rotate_left
  · refine ⟨-1,?_,fun h => absurd h (by decide),fun ⟨x,hx,_⟩ => by simp at hx⟩
    rw [ap_eq _ Tryz.func73 rfl Tryz.ntmps73 Tryz.results73 (by kernel_rfl) rfl (by exact Nat.le_of_ble_eq_true rfl)]
    simp (maxSteps:=999999) only [E0,seval,-Int.reduceNatCast',NUM,WW_loop]
  rw [ap_eq _ Tryz.func73 rfl Tryz.ntmps73 Tryz.results73 (by kernel_rfl) rfl (by exact Nat.le_of_ble_eq_true rfl)]
  simp (maxSteps:=999999) only [E0,seval,-Int.reduceNatCast',List.length_map]
  generalize hL : W _ (.loop _) _ = L
  obtain ⟨ex,s,rfl,hex,hd⟩:=loop_at hL (α:=Nat) (fun j => l.length - j)
    (fun s0 j s => j ≤ l.length ∧ (∀ x ∈ l.take j,¬ BADL x) ∧ s.tmps 8 = I j ∧ s.tmps 7 = I l.length ∧ s.tmps 0 = .vs 1 (l.map I) c ∧ s.tmps 1 = .fn F [] ∧ s.defers = [] ∧ s.fid = 0)
    (fun s0 ex s => ((ex = .exit 0 ∧ ∀ x ∈ l,¬ BADL x) ∨ (ex = .ret ∧ (∃ x ∈ l,BADL x) ∧ ∃ k : Int,0 ≤ k ∧ s.tmps 4 = I k)) ∧ s.defers = []) 0
    (by simp (maxSteps:=999999) only [E0,seval,-Int.reduceNatCast']; exact ⟨by omega,by simp,by simp⟩) (by
      rintro j s r hW ⟨hj,hg,h8,h7,h0,h1,hd,hf⟩
      by_cases hp : j < l.length
      rotate_left
      · simp (maxSteps:=999999) only [E0,seval,-Int.reduceNatCast',h8,h7,hd,hf,(show ¬ (j : Int) < l.length by omega)] at hW
        subst hW
        have : j = l.length:=by omega
        subst this
        rw [List.take_length] at hg
        exact rd_exit ⟨.inl ⟨rfl,hg⟩,by simp (maxSteps:=999999) only [E0,seval,-Int.reduceNatCast',hd]⟩
      have e0 : l[j]? = some l[j]:=List.getElem?_eq_getElem hp
      have e1:=ints_get e0
      have hm:=List.getElem_mem hp
      generalize l[j] = x at *
      have cf:=cf x
      rcases hF with rfl | rfl
      all_goals
        by_cases hx : BADL x
        · rw [decide_eq_true hx] at cf
          simp (maxSteps:=999999) only [E0,seval,-Int.reduceNatCast',NUM,INTS,cf,h8,h7,h0,h1,hd,hf,e1,List.length_map,Int.toNat_natCast,(show (j : Int) < l.length by omega),(show (0 : Int) ≤ j by omega)] at hW
          subst hW
          refine rd_ret ⟨.inr ⟨rfl,⟨_,hm,hx⟩,j,by omega,by simp (maxSteps:=999999) only [E0,seval,-Int.reduceNatCast']⟩,by simp (maxSteps:=999999) only [E0,seval,-Int.reduceNatCast',hd]⟩
        · rw [decide_eq_false hx] at cf
          have hn:=none_more e0 hg hx
          simp (maxSteps:=999999) only [E0,seval,-Int.reduceNatCast',NUM,INTS,cf,h8,h7,h0,h1,hd,hf,e1,List.length_map,Int.toNat_natCast,(show (j : Int) < l.length by omega),(show (0 : Int) ≤ j by omega),(i64_in (x:=(j : Int) + 1) (by unfold I64; omega))] at hW
          subst hW
          refine rd_next (j + 1) ?_ (show l.length - (j + 1) < l.length - j by omega)
          simp (maxSteps:=999999) only [E0,seval,-Int.reduceNatCast',h7,h0,h1,hd]
          exact ⟨by omega,hn,by simp⟩)
  rcases hex with ⟨rfl,hg⟩ | ⟨rfl,hg,k,hk,h4⟩
  · refine ⟨-1,by simp (maxSteps:=999999) only [E0,seval,-Int.reduceNatCast',hd],fun h => absurd h (by decide),fun ⟨x,hx,hp⟩ => absurd hp (hg x hx)⟩
  · refine ⟨k,by simp (maxSteps:=999999) only [E0,seval,-Int.reduceNatCast',hd,h4],fun _ => hg,fun _ => hk⟩
noncomputable instance (l : List Int) : Decidable (LIT l):=Classical.propDecidable _
theorem LIT_iff (l : List Int) : LIT l ↔ ¬ ∃ x ∈ l,BADL x:=by
  unfold LIT BADL
  constructor
  · rintro h ⟨x,hx,g⟩; have:=h x hx; omega
  · intro h x hx
    by_cases g : x < 0 ∨ 1073741824 < x
    · exact absurd ⟨x,hx,g⟩ h
    · omega
theorem c_hasl (F : Nat) (hF : F = 94 ∨ F = 64) (l : List Int) (v : PV) (hv : RV l v) (hl : l.length ≤ 1000000) : ap Tryz.prog pol 54 [v,.fn F []] = some (.ret (.bool (decide (¬ LIT l)))):=by
  obtain ⟨k,ck,hk⟩:=c_ixl F hF l v hv hl
  have rv:=RVS hv
  have hi:=LIT_iff l
  rw [ap_eq _ Tryz.func54 rfl Tryz.ntmps54 Tryz.results54 (by kernel_rfl) rfl (by exact Nat.le_of_ble_eq_true rfl)]
  by_cases h : LIT l
  · have hk' : ¬ 0 ≤ k:=fun g => (hi.1 h) (hk.1 g)
    rw [decide_eq_false (fun g => g h)]
    simp (maxSteps:=999999) only [E0,seval,-Int.reduceNatCast',NUM,INTS,rv,ck,hk']
  · have hk' : 0 ≤ k:=hk.2 (Classical.not_not.1 (fun g => h (hi.2 g)))
    rw [decide_eq_true h]
    simp (maxSteps:=999999) only [E0,seval,-Int.reduceNatCast',NUM,INTS,rv,ck,hk']
theorem RIN_right {x : Rch} (h : RIN x) : RIGHT x:=by
  obtain ⟨_,_,_,h1,va,vc,h2,h3,h4⟩:=h
  have w:=wrap_prod ⟨va,vc⟩
  rw [w.1,w.2.1,CMP_le] at h3
  obtain ⟨a1,a2,a3,a4,a5⟩:=va
  obtain ⟨c1,c2,c3,c4,c5⟩:=vc
  have e1 : x.s2 * x.s1 ≤ x.s3 * x.s1:=Int.mul_le_mul_of_nonneg_right h4 (by omega)
  have e2 : x.s0 * x.s3 ≤ x.s1 * x.s3:=by rw [Int.mul_comm x.s1 x.s3]; omega
  have e3 : x.s0 ≤ x.s1:=Int.le_of_mul_le_mul_right e2 (by omega)
  have e4 : 0 * x.s1 ≤ x.s2 * x.s1:=by
    have:=Int.mul_nonneg h2 (show 0 ≤ x.s3 by omega)
    omega
  have e5 : 0 ≤ x.s2:=Int.le_of_mul_le_mul_right e4 (by omega)
  exact ⟨⟨h1.1,h1.2.1,h1.2.2⟩,⟨⟨a1,a2,a3,a4,a5⟩,h2,e3⟩,⟨⟨c1,c2,c3,c4,c5⟩,e5,h4⟩,h3⟩
theorem c_needv (x : Rch) (hx : x.OK) (h : RIN x) (t : Int) (h0 : t ≠ 0) (ht : 0 ≤ t ∧ t ≤ 1073741824) : (NEED x t = none ∧ ap Tryz.prog pol 97 [rch x,I t] = some (.ret (.tup [I 0,.bool false,I 0]))) ∨ ∃ r,NEED x t = some (max r x.si) ∧ (0 ≤ r ∧ r ≤ 1073741824) ∧ ap Tryz.prog pol 97 [rch x,I t] = some (.ret (.tup [I r,.bool true,I 0])):=by
  have hv:=(VC_0 x t).2 ⟨RIN_right h,ht⟩
  rcases c_need x hx t with ⟨g,_⟩ | ⟨_,r,hl,e⟩
  · exact absurd hv g
  have hl' : IsL (fun v => t ≤ WO (los x) v) 1073741825 r:=⟨hl.lo,hl.hi,fun i a b g => hl.no i a b (by omega),fun i a b => by have:=hl.yes i a b; omega⟩
  have hE : NEED x t = if r ≤ 1073741824 then some (max r x.si) else none:=by
    unfold NEED
    rw [if_neg h0,if_neg (by omega),LST_eq hl']
  by_cases hr : r ≤ 1073741824
  · rw [if_pos hr] at hE e
    exact .inr ⟨r,hE,⟨hl.lo,hr⟩,e⟩
  · rw [if_neg hr] at hE e
    exact .inl ⟨hE,e⟩
noncomputable instance (D : Dis) : Decidable D.K:=Classical.propDecidable _
noncomputable instance {α : Type} (P : Nat → α → Prop) (l : List α) : Decidable (ALLI P l):=Classical.propDecidable _
noncomputable def XC (D : Dis) : Int:=if D.LEN then if D.K then 0 else 191 else 2
theorem XC_cases (D : Dis) (c : Int) (h : (¬ D.LEN ∧ c = 2) ∨ (D.LEN ∧ D.K ∧ c = 0) ∨ (D.LEN ∧ ¬ D.K ∧ c = 191)) : c = XC D:=by
  unfold XC
  rcases h with ⟨h1,rfl⟩ | ⟨h1,h2,rfl⟩ | ⟨h1,h2,rfl⟩
  · rw [if_neg h1]
  · rw [if_pos h1,if_pos h2]
  · rw [if_pos h1,if_neg h2]
theorem XC_0 {D : Dis} (h : XC D = 0) : D.LEN ∧ D.K:=by
  unfold XC at h
  split at h
  · split at h
    · exact ⟨by assumption,by assumption⟩
    · omega
  · omega
structure DV (D : Dis) (cs gs ds ws : PV) : Prop where
  hcs : SL 2 (D.cs.map crp) cs
  hgs : SL 10 (D.gs.map rgt) gs
  hds : SL 4 (D.ds.map dty) ds
  s0 : strip0 cs = cs ∧ strip0 gs = gs ∧ strip0 ds = ds ∧ strip0 ws = ws
  s1 : ∀ H,strip1 H cs = cs ∧ strip1 H gs = gs ∧ strip1 H ds = ds ∧ strip1 H ws = ws
  s2 : ∀ H,strip2 H cs = cs ∧ strip2 H gs = gs ∧ strip2 H ds = ds ∧ strip2 H ws = ws
  fz : ∀ H,freezeArg0 H cs = (cs,H) ∧ freezeArg0 H gs = (gs,H) ∧ freezeArg0 H ds = (ds,H) ∧ freezeArg0 H ws = (ws,H)
theorem DV.st {D : Dis} {cs gs ds ws : PV} (h : DV D cs gs ds ws) : (strip0 cs = cs ∧ strip0 gs = gs ∧ strip0 ds = ds ∧ strip0 ws = ws) ∧ (∀ H,strip1 H cs = cs ∧ strip1 H gs = gs ∧ strip1 H ds = ds ∧ strip1 H ws = ws) ∧ (∀ H,strip2 H cs = cs ∧ strip2 H gs = gs ∧ strip2 H ds = ds ∧ strip2 H ws = ws) ∧ ∀ H,freezeArg0 H cs = (cs,H) ∧ freezeArg0 H gs = (gs,H) ∧ freezeArg0 H ds = (ds,H) ∧ freezeArg0 H ws = (ws,H):=⟨h.s0,h.s1,h.s2,h.fz⟩
section
variable {D : Dis} (hr : ∀ x ∈ D.rs,x.OK) (rc fc : Option Nat) {cs gs ds ws : PV} (hv : DV D cs gs ds ws)
include hr hv
noncomputable def DVC (D : Dis) (cl : List Int) : Int:=if XC D = 0 then (if cl.length = D.fs.length ∧ LIT cl then 0 else 410) else XC D
theorem c_dvcheck (cl : List Int) (v : PV) (hcv : RV cl v) : ap Tryz.prog pol 81 [.agg (dcel D rc fc cs gs ds ws),v] = some (.ret (I (DVC D cl))):=by
  have rv:=RVS hcv
  rw [ap_eq _ Tryz.func81 rfl Tryz.ntmps81 Tryz.results81 (by kernel_rfl) rfl (by exact Nat.le_of_ble_eq_true rfl)]
  simp (maxSteps:=999999) only [E0,seval,-Int.reduceNatCast',NUM]
  generalize hE : callF _ _ _ _ _ _ = E
  obtain ⟨H',e,rfl,fr,hn,he⟩:=c_xcheck D hr rc fc _ _ _ ws hv.hcs hv.hgs hv.hds _ _ hE
  have he:=XC_cases D e he
  subst he
  by_cases hX : XC D = 0
  rotate_left
  · have ed : DVC D cl = XC D:=by unfold DVC; rw [if_neg hX]
    rw [ed]
    simp (maxSteps:=999999) only [E0,seval,-Int.reduceNatCast',NUM,hX]
  obtain ⟨hL,hK⟩:=XC_0 hX
  by_cases hl : cl.length = D.fs.length
  rotate_left
  · have ed : DVC D cl = 410:=by unfold DVC; rw [if_pos hX,if_neg (fun g => hl g.1)]
    rw [ed]
    simp (maxSteps:=999999) only [E0,seval,-Int.reduceNatCast',NUM,hX,rv,List.length_map,(show ¬ (cl.length : Int) = D.fs.length by omega)]
  have cb:=c_hasl 94 (.inl rfl) cl v hcv (by have:=hL.2.1; omega)
  by_cases hc : LIT cl
  · have ed : DVC D cl = 0:=by unfold DVC; rw [if_pos hX,if_pos ⟨hl,hc⟩]
    rw [ed]
    rw [decide_eq_false (fun g => g hc)] at cb
    simp (maxSteps:=999999) only [E0,seval,-Int.reduceNatCast',NUM,INTS,rv,hX,List.length_map,hl,cb]
  · have ed : DVC D cl = 410:=by unfold DVC; rw [if_pos hX,if_neg (fun g => hc g.2)]
    rw [ed]
    rw [decide_eq_true hc] at cb
    simp (maxSteps:=999999) only [E0,seval,-Int.reduceNatCast',NUM,INTS,rv,hX,List.length_map,hl,cb]
end
def setL (st : LoopSt) : Option Row → Option Row
  | some (.loop _ fn nt t ps a b d) => some (.loop st fn nt t ps a b d)
  | r => r
theorem LV_frame {α : Type} {enc : α → PV} {sz : Nat} {l : List α} {v : PV} {H H2 : Heap} (h : LV enc sz l v H) (hf : ∀ i < H.next,H2.rows i = H.rows i) (hn : H.next ≤ H2.next) : LV enc sz l v H2:=by
  rcases h with h | ⟨h1,id,h2,h3,h4⟩
  · exact .inl h
  · exact .inr ⟨h1,id,h2,by rw [hf id h4]; exact h3,by omega⟩
theorem NADD : (∀ a b : Nat,(a = a + b) = (b = 0)) ∧ (∀ a b : Nat,(a + b = a) = (b = 0)):=⟨fun a b => by simp,fun a b => by simp⟩
section
variable {D : Dis} (hr : ∀ x ∈ D.rs,x.OK) (rc fc : Option Nat) {cs gs ds ws : PV} (hv : DV D cs gs ds ws)
include hr hv
set_option maxHeartbeats 8000000 in
theorem c_tneeds (hX0 : XC D = 0) (cl : List Int) (vc : PV) (hvc : RV cl vc) (lcl : cl.length = D.fs.length) (hc : LIT cl) (H : Heap) (B M : Nat) (mm : List (Int × PV)) (g : Int → Nat) (hP : PBG prt 2 B (PRT D) M mm g H) (hM : M < H.next) (X : Option (CR × Heap))
    (hX : callF G Tryz.prog pol 83 [.agg (dcel D rc fc cs gs ds ws ++ [.map M]),vc] H = X) : ∃ H',(∀ i < H.next,H'.rows i = H.rows i) ∧ H.next ≤ H'.next ∧
    ((NDS D cl D.rs.length = none ∧ X = some (.ret (.tup [.nils,.bool false]),H')) ∨ (∃ hs h0,NDS D cl D.rs.length = some hs ∧ X = some (.ret (.tup [.gsl 1 h0 D.rs.length 0 D.rs.length,.bool true]),H') ∧ H'.rows h0 = some (.gro 1 (hs.map I) 0))):=by
  obtain ⟨hL0,hK⟩:=XC_0 hX0
  have rv:=RVS hvc
  rw [callF_eq _ _ Tryz.func83 rfl Tryz.ntmps83 Tryz.results83 (by kernel_rfl) rfl (by exact Nat.le_of_ble_eq_true rfl)] at hX
  have zs : List.replicate D.rs.length (PV.int .i64 0) = (List.replicate D.rs.length (0 : Int)).map I:=by simp
  have lrs:=hL0.1
  have lfs:=hL0.2.1
  simp (maxSteps:=999999) only [E0,seval,-Int.reduceNatCast',NUM,NADD,rv,SRCH,SFRM,SCRP,SRGT,SDTY,hv.s0,hv.s1,hv.s2,hv.fz,List.cons_append,List.nil_append,List.length_map,Int.toNat_natCast,(show (0 : Int) ≤ D.rs.length by omega),(show (D.rs.length : Int) ≤ maxN by unfold maxN; omega),(show 8 ≤ maxB by decide),zs] at hX
  rw [callF_eq _ _ Tryz.func95 rfl Tryz.ntmps95 Tryz.results95 (by kernel_rfl) rfl (by exact Nat.le_of_ble_eq_true rfl)] at hX
  simp (maxSteps:=999999) only [E0,seval,-Int.reduceNatCast',NUM,NADD,rv,SRCH,SFRM,SCRP,SRGT,SDTY,hv.s0,hv.s1,hv.s2,hv.fz,List.cons_append,List.nil_append,List.length_map,Int.toNat_natCast,(show (0 : Int) ≤ D.rs.length by omega),(show (D.rs.length : Int) ≤ maxN by unfold maxN; omega),(show 8 ≤ maxB by decide),zs] at hX
  rw [callF_eq _ _ Tryz.func110 rfl Tryz.ntmps110 Tryz.results110 (by kernel_rfl) rfl (by exact Nat.le_of_ble_eq_true rfl)] at hX
  simp (maxSteps:=999999) only [E0,seval,-Int.reduceNatCast',NUM,NADD,rv,SRCH,SFRM,SCRP,SRGT,SDTY,hv.s0,hv.s1,hv.s2,hv.fz,List.cons_append,List.nil_append,List.length_map,Int.toNat_natCast,(show (0 : Int) ≤ D.rs.length by omega),(show (D.rs.length : Int) ≤ maxN by unfold maxN; omega),(show 8 ≤ maxB by decide),zs] at hX
  generalize hL : W _ (.loop _) _ = L at hX
  obtain ⟨ex,s,rfl,hex,g2,g5,gfr,gnx,gd,gf⟩:=loop_at hL (α:=Nat) (fun k => D.rs.length - k)
    (fun s0 k s => k ≤ D.rs.length ∧ (∃ hs,NDS D cl k = some hs ∧ s.H.rows (H.next + 1 + 1 + 1) = some (.gro 1 (hs.map I) 0)) ∧ s.tmps 9 = I k ∧ s.tmps 8 = I D.rs.length ∧ s.tmps 7 = .vs 12 (D.rs.map rch) rc ∧ s.tmps 0 = .yield (H.next + 1 + 1 + 1 + 1 + 1 + 1) ∧ s.tmps 1 = .rop [.str D.nm,I D.hours,I D.cap,I D.start,.vs 12 (D.rs.map rch) rc,.vs 4 (D.fs.map frm) fc,cs,gs,ds,ws,.map M] ∧ s.tmps 2 = .rop [.bool true] ∧ s.H.rows (H.next + 1) = some (.gro 1 [.gsl 1 (H.next + 1 + 1 + 1) D.rs.length 0 D.rs.length] 0) ∧ s.H.rows (H.next + 1 + 1) = some (.gro 1 [.bool false] 0) ∧ s.H.rows (H.next + 1 + 1 + 1 + 1 + 1) = some .dfr ∧ s.H.rows (H.next + 1 + 1 + 1 + 1 + 1 + 1) = s0.H.rows (H.next + 1 + 1 + 1 + 1 + 1 + 1) ∧ (∀ i < H.next,s.H.rows i = H.rows i) ∧ H.next + 1 + 1 + 1 + 1 + 1 + 1 + 1 < s.H.next ∧ s.defers = [] ∧ s.fid = H.next + 1 + 1 + 1 + 1 + 1 + 1 + 1)
    (fun s0 ex s => ((ex = .exit 0 ∧ ∃ hs,NDS D cl D.rs.length = some hs ∧ s.H.rows (H.next + 1 + 1 + 1) = some (.gro 1 (hs.map I) 0) ∧ s.H.rows (H.next + 1) = some (.gro 1 [.gsl 1 (H.next + 1 + 1 + 1) D.rs.length 0 D.rs.length] 0) ∧ s.H.rows (H.next + 1 + 1 + 1 + 1 + 1 + 1) = s0.H.rows (H.next + 1 + 1 + 1 + 1 + 1 + 1)) ∨ (ex = .ret ∧ NDS D cl D.rs.length = none ∧ s.H.rows (H.next + 1) = some (.gro 1 [.nils] 0) ∧ s.H.rows (H.next + 1 + 1 + 1 + 1 + 1 + 1) = setL (.over (some .ret)) (s0.H.rows (H.next + 1 + 1 + 1 + 1 + 1 + 1)))) ∧ s.H.rows (H.next + 1 + 1) = some (.gro 1 [.bool false] 0) ∧ s.H.rows (H.next + 1 + 1 + 1 + 1 + 1) = some .dfr ∧ (∀ i < H.next,s.H.rows i = H.rows i) ∧ H.next + 1 + 1 + 1 + 1 + 1 + 1 + 1 < s.H.next ∧ s.defers = [] ∧ s.fid = H.next + 1 + 1 + 1 + 1 + 1 + 1 + 1) 0
    (by simp (maxSteps:=999999) only [E0,seval,-Int.reduceNatCast',NADD]
        refine ⟨Nat.zero_le _,⟨_,rfl,?_⟩,by simp,fun i hi => ?_,by omega⟩
        · simp (maxSteps:=999999) only [E0,seval,-Int.reduceNatCast',NADD]
        · simp (maxSteps:=999999) only [E0,seval,-Int.reduceNatCast',(show ¬ i = H.next + 1 by omega),(show ¬ i = H.next + 1 + 1 by omega),(show ¬ i = H.next + 1 + 1 + 1 by omega),(show ¬ i = H.next + 1 + 1 + 1 + 1 + 1 by omega),(show ¬ i = H.next + 1 + 1 + 1 + 1 + 1 + 1 by omega)]) (by
      rintro k s r hW ⟨hk,⟨hs,hN,g3⟩,h9,h8,h7,h0,h1,h2,g1,g2,g5,g6,gfr,gnx,gd,gf⟩
      simp (maxSteps:=999999) only [E0,seval,-Int.reduceNatCast',NADD] at g6
      by_cases hp : k < D.rs.length
      rotate_left
      · simp (maxSteps:=999999) only [E0,seval,-Int.reduceNatCast',NUM,h9,h8,gd,gf,(show ¬ (k : Int) < D.rs.length by omega)] at hW
        subst hW
        have : k = D.rs.length:=by omega
        subst this
        refine rd_exit ⟨.inl ⟨rfl,hs,hN,?_⟩,?_⟩
        · simp (maxSteps:=999999) only [E0,seval,-Int.reduceNatCast',g3,g1,g6,NADD]
        · simp (maxSteps:=999999) only [E0,seval,-Int.reduceNatCast',g2,g5,gd]
          exact ⟨gfr,gnx⟩
      obtain ⟨i,hi⟩ : ∃ i,D.rs.length - 1 - k = i:=⟨_,rfl⟩
      have hii : ((D.rs.length : Int) - 1 - k) = (i : Int):=by omega
      have hil : i < D.rs.length:=by omega
      have x0 : D.rs[i]? = some D.rs[i]:=List.getElem?_eq_getElem hil
      have x1:=map_get (f:=rch) x0
      have hxr:=hr _ (List.getElem_mem hil)
      have hxi:=(hK.2.2.2.1 i _ x0).2
      have nok:=NDS_ok (D:=D) (fun x hx => by
        obtain ⟨j,ej⟩:=List.mem_iff_getElem?.1 hx
        have:=(hK.2.2.2.1 j x ej).2
        unfold RIN at this
        omega) hk hN
      have ns:=NDS_succ hN (by rw [hi]; exact x0)
      rw [hi] at ns
      have hz:=nok.zero i (by omega)
      have pin:=PRT_in (D:=D) (r:=(i : Int))
      have plen:=PRT_len D (i : Int)
      have hrow:=hP.row
      rw [← gfr M hM] at hrow
      generalize D.rs[i] = x at *
      have sb:=SUMP_bd hc nok.lit (PRT D (i : Int))
      have hlv : (aget mm (i : Int) = none ∧ LV prt 2 (PRT D (i : Int)) .nils H) ∨ (∃ id,aget mm (i : Int) = some (.gsl 2 id (PRT D (i : Int)).length 0 (PRT D (i : Int)).length) ∧ LV prt 2 (PRT D (i : Int)) (.gsl 2 id (PRT D (i : Int)).length 0 (PRT D (i : Int)).length) H):=by
        by_cases hE : PRT D (i : Int) = []
        · exact .inl ⟨hP.none _ hE,.inl ⟨hE,rfl⟩⟩
        · obtain ⟨q1,q2,q3,q4⟩:=hP.some _ hE
          exact .inr ⟨_,q1,.inr ⟨hE,_,rfl,q2,q4⟩⟩
      have hxs : 0 ≤ x.si ∧ x.si ≤ 1073741824:=by unfold RIN at hxi; omega
      rcases hlv with ⟨gm,hlv⟩ | ⟨id,gm,hlv⟩
      all_goals
        simp (maxSteps:=999999) only [E0,seval,-Int.reduceNatCast',NUM,NADD,MAPI,Tryz.func83,rv,SRCH,SFRM,SCRP,SRGT,SDTY,hv.s0,hv.s1,hv.s2,hv.fz,List.cons_append,List.nil_append,h9,h8,h7,h0,h1,h2,g1,g2,g3,g5,g6,hrow,gm,gd,gf,hii,List.length_map,Int.toNat_natCast,(show (k : Int) < D.rs.length by omega),(show (0 : Int) ≤ k by omega),(i64_in (x:=(k : Int) + 1) (by unfold I64; omega)),(i64_in (x:=(D.rs.length : Int) - 1) (by unfold I64; omega)),(i64_in (x:=(i : Int)) (by unfold I64; omega))] at hW
        rw [if_pos (by kernel_rfl)] at hW
        generalize hE1 : callF _ _ _ _ _ _ = E1 at hW
        have hcall : ∃ w H1,E1 = some (.ret (.tup [w,I (SUMP cl hs (PRT D (i : Int)))]),H1) ∧ (∀ a < H.next,H1.rows a = H.rows a) ∧ H1.rows (H.next + 1) = some (.gro 1 [.gsl 1 (H.next + 1 + 1 + 1) D.rs.length 0 D.rs.length] 0) ∧ H1.rows (H.next + 1 + 1) = some (.gro 1 [.bool false] 0) ∧ H1.rows (H.next + 1 + 1 + 1) = some (.gro 1 (hs.map I) 0) ∧ H1.rows (H.next + 1 + 1 + 1 + 1 + 1) = some .dfr ∧ H1.rows (H.next + 1 + 1 + 1 + 1 + 1 + 1) = setL .busy (s.H.rows (H.next + 1 + 1 + 1 + 1 + 1 + 1)) ∧ H.next + 1 + 1 + 1 + 1 + 1 + 1 + 1 < H1.next:=by
          obtain ⟨w,H1,rfl,fr1,nx1⟩:=c_claims D (PRT D (i : Int)) pin cl hs lcl nok.len hc nok.lit (by omega) vc hvc _ _ (LV_frame hlv (fun a ha => by simp (maxSteps:=999999) only [E0,seval,-Int.reduceNatCast',(show ¬ a = H.next + 1 + 1 + 1 + 1 + 1 + 1 by omega)]; exact gfr a ha) (by simp (maxSteps:=999999) only [E0,seval,-Int.reduceNatCast']; omega)) (H.next + 1 + 1 + 1) (by simp (maxSteps:=999999) only [E0,seval,-Int.reduceNatCast',NADD,g3]) (by simp (maxSteps:=999999) only [E0,seval,-Int.reduceNatCast']; omega) E1 hE1
          clear hE1
          simp (maxSteps:=999999) only [E0,seval,-Int.reduceNatCast'] at nx1
          refine ⟨w,H1,rfl,fun a ha => ?_,?_,?_,?_,?_,?_,by omega⟩
          · rw [fr1 a (by simp (maxSteps:=999999) only [E0,seval,-Int.reduceNatCast']; omega)]
            simp (maxSteps:=999999) only [E0,seval,-Int.reduceNatCast',(show ¬ a = H.next + 1 + 1 + 1 + 1 + 1 + 1 by omega)]
            exact gfr a ha
          · rw [fr1 _ (by simp (maxSteps:=999999) only [E0,seval,-Int.reduceNatCast']; omega)]
            simp (maxSteps:=999999) only [E0,seval,-Int.reduceNatCast',NADD,g1]
          · rw [fr1 _ (by simp (maxSteps:=999999) only [E0,seval,-Int.reduceNatCast']; omega)]
            simp (maxSteps:=999999) only [E0,seval,-Int.reduceNatCast',NADD,g2]
          · rw [fr1 _ (by simp (maxSteps:=999999) only [E0,seval,-Int.reduceNatCast']; omega)]
            simp (maxSteps:=999999) only [E0,seval,-Int.reduceNatCast',NADD,g3]
          · rw [fr1 _ (by simp (maxSteps:=999999) only [E0,seval,-Int.reduceNatCast']; omega)]
            simp (maxSteps:=999999) only [E0,seval,-Int.reduceNatCast',NADD,g5]
          · rw [fr1 _ (by simp (maxSteps:=999999) only [E0,seval,-Int.reduceNatCast']; omega)]
            simp (maxSteps:=999999) only [E0,seval,-Int.reduceNatCast',NADD,g6,setL]
        clear hE1
        obtain ⟨w,H1,rfl,qf,q1,q2,q3,q5,q6,qn⟩:=hcall
        rw [g6] at q6
        simp (maxSteps:=999999) only [E0,seval,-Int.reduceNatCast',setL] at q6
        generalize SUMP cl hs (PRT D (i : Int)) = tt at *
        by_cases ht0 : tt = 0
        · rw [show NEED x tt = some 0 by unfold NEED; rw [if_pos ht0]] at ns
          simp only [Option.map_some] at ns
          rw [set_zero hz] at ns
          simp (maxSteps:=999999) only [E0,seval,-Int.reduceNatCast',NUM,NADD,Tryz.func83,rv,SRCH,SFRM,SCRP,SRGT,SDTY,hv.s0,hv.s1,hv.s2,hv.fz,List.cons_append,List.nil_append,q1,q2,q3,q5,q6,gd,gf,h9,x1,List.length_map,Int.toNat_natCast,(i64_in (x:=(k : Int) + 1) (by unfold I64; omega)),(show (0 : Int) ≤ i by omega),(show (i : Int) < D.rs.length by omega),eq_true ht0] at hW
          subst hW
          refine rd_next (k + 1) ?_ (show D.rs.length - (k + 1) < D.rs.length - k by omega)
          simp (maxSteps:=999999) only [E0,seval,-Int.reduceNatCast',NADD,h8,h7,h0,h1,h2,q1,q2,q3,q5,g6]
          refine ⟨by omega,⟨hs,ns,?_⟩,by simp,fun a ha => ?_,by omega⟩
          · first | rfl | (rw [List.map_set]) | (simp (maxSteps:=999999) only [E0,seval,-Int.reduceNatCast',NADD,q3])
          · simp (maxSteps:=999999) only [E0,seval,-Int.reduceNatCast',(show ¬ a = H.next + 1 by omega),(show ¬ a = H.next + 1 + 1 by omega),(show ¬ a = H.next + 1 + 1 + 1 by omega),(show ¬ a = H.next + 1 + 1 + 1 + 1 + 1 by omega),(show ¬ a = H.next + 1 + 1 + 1 + 1 + 1 + 1 by omega)]
            exact qf a ha
        by_cases ht1 : 1073741824 < tt
        · rw [show NEED x tt = none by unfold NEED; rw [if_neg ht0,if_pos ht1]] at ns
          simp only [Option.map_none] at ns
          simp (maxSteps:=999999) only [E0,seval,-Int.reduceNatCast',NUM,NADD,Tryz.func83,rv,SRCH,SFRM,SCRP,SRGT,SDTY,hv.s0,hv.s1,hv.s2,hv.fz,List.cons_append,List.nil_append,q1,q2,q3,q5,q6,gd,gf,h9,x1,List.length_map,Int.toNat_natCast,(i64_in (x:=(k : Int) + 1) (by unfold I64; omega)),(show (0 : Int) ≤ i by omega),(show (i : Int) < D.rs.length by omega),ht0,ht1] at hW
          subst hW
          refine rd_ret ⟨.inr ⟨rfl,NDS_none_le ns (by omega),?_,?_⟩,?_⟩
          · simp (maxSteps:=999999) only [E0,seval,-Int.reduceNatCast',NADD]
          · simp (maxSteps:=999999) only [E0,seval,-Int.reduceNatCast',NADD,setL]
          · simp (maxSteps:=999999) only [E0,seval,-Int.reduceNatCast',NADD,q5,gd]
            refine ⟨fun a ha => ?_,by omega⟩
            simp (maxSteps:=999999) only [E0,seval,-Int.reduceNatCast',(show ¬ a = H.next + 1 by omega),(show ¬ a = H.next + 1 + 1 by omega),(show ¬ a = H.next + 1 + 1 + 1 by omega),(show ¬ a = H.next + 1 + 1 + 1 + 1 + 1 by omega),(show ¬ a = H.next + 1 + 1 + 1 + 1 + 1 + 1 by omega)]
            exact qf a ha
        rcases c_needv x hxr hxi tt ht0 (by omega) with ⟨en,cn⟩ | ⟨rr,en,hrr,cn⟩
        · rw [en] at ns
          simp only [Option.map_none] at ns
          simp (maxSteps:=999999) only [E0,seval,-Int.reduceNatCast',NUM,NADD,Tryz.func83,rv,SRCH,SFRM,SCRP,SRGT,SDTY,hv.s0,hv.s1,hv.s2,hv.fz,List.cons_append,List.nil_append,q1,q2,q3,q5,q6,gd,gf,h9,x1,List.length_map,Int.toNat_natCast,(i64_in (x:=(k : Int) + 1) (by unfold I64; omega)),(show (0 : Int) ≤ i by omega),(show (i : Int) < D.rs.length by omega),ht0,ht1,cn] at hW
          subst hW
          refine rd_ret ⟨.inr ⟨rfl,NDS_none_le ns (by omega),?_,?_⟩,?_⟩
          · simp (maxSteps:=999999) only [E0,seval,-Int.reduceNatCast',NADD]
          · simp (maxSteps:=999999) only [E0,seval,-Int.reduceNatCast',NADD,setL]
          · simp (maxSteps:=999999) only [E0,seval,-Int.reduceNatCast',NADD,q5,gd]
            refine ⟨fun a ha => ?_,by omega⟩
            simp (maxSteps:=999999) only [E0,seval,-Int.reduceNatCast',(show ¬ a = H.next + 1 by omega),(show ¬ a = H.next + 1 + 1 by omega),(show ¬ a = H.next + 1 + 1 + 1 by omega),(show ¬ a = H.next + 1 + 1 + 1 + 1 + 1 by omega),(show ¬ a = H.next + 1 + 1 + 1 + 1 + 1 + 1 by omega)]
            exact qf a ha
        · rw [en] at ns
          simp only [Option.map_some] at ns
          simp (maxSteps:=999999) only [E0,seval,-Int.reduceNatCast',NUM,NADD,Tryz.func83,rv,SRCH,SFRM,SCRP,SRGT,SDTY,hv.s0,hv.s1,hv.s2,hv.fz,List.cons_append,List.nil_append,q1,q2,q3,q5,q6,gd,gf,h9,x1,List.length_map,Int.toNat_natCast,(i64_in (x:=(k : Int) + 1) (by unfold I64; omega)),(show (0 : Int) ≤ i by omega),(show (i : Int) < D.rs.length by omega),INTS,ht0,ht1,cn,ints_get hz,nok.len,hil,Nat.zero_add,Nat.zero_le] at hW
          replace hW:=ite_chk2 (fun a b => [(12,[Vr.row b],[Vr.row b]),(0,[Vr.row a],[])]) (H.next + 1) (H.next + 1 + 1 + 1) (by omega) (by intro f h1 h2; simp [renL,renM,renV,h1,h2]) (by kernel_rfl) hW
          subst hW
          refine rd_next (k + 1) ?_ (show D.rs.length - (k + 1) < D.rs.length - k by omega)
          simp (maxSteps:=999999) only [E0,seval,-Int.reduceNatCast',NADD,List.map_set,h8,h7,h0,h1,h2,q1,q2,q3,q5,g6]
          refine ⟨by omega,⟨hs.set i (max rr x.si),ns,?_⟩,by simp,fun a ha => ?_,by omega⟩
          · first | rfl | (rw [List.map_set]) | (simp (maxSteps:=999999) only [E0,seval,-Int.reduceNatCast',NADD,q3])
          · simp (maxSteps:=999999) only [E0,seval,-Int.reduceNatCast',(show ¬ a = H.next + 1 by omega),(show ¬ a = H.next + 1 + 1 by omega),(show ¬ a = H.next + 1 + 1 + 1 by omega),(show ¬ a = H.next + 1 + 1 + 1 + 1 + 1 by omega),(show ¬ a = H.next + 1 + 1 + 1 + 1 + 1 + 1 by omega)]
            exact qf a ha)
  rcases hex with ⟨rfl,hs,hN,g3,g1,g6⟩ | ⟨rfl,hN,g1,g6⟩
  · simp (maxSteps:=999999) only [E0,seval,-Int.reduceNatCast',NADD] at g6
    simp (maxSteps:=999999) only [E0,seval,-Int.reduceNatCast',NUM,NADD,g1,g2,g3,g5,g6,gd,gf] at hX
    subst hX
    refine ⟨_,fun a ha => ?_,?_,.inr ⟨hs,_,hN,rfl,?_⟩⟩
    · simp (maxSteps:=999999) only [E0,seval,-Int.reduceNatCast',(show ¬ a = H.next + 1 by omega),(show ¬ a = H.next + 1 + 1 by omega),(show ¬ a = H.next + 1 + 1 + 1 by omega),(show ¬ a = H.next + 1 + 1 + 1 + 1 + 1 by omega),(show ¬ a = H.next + 1 + 1 + 1 + 1 + 1 + 1 by omega)]
      exact gfr a ha
    · simp (maxSteps:=999999) only [E0,seval,-Int.reduceNatCast']
      omega
    · simp (maxSteps:=999999) only [E0,seval,-Int.reduceNatCast',NADD,g3]
  · simp (maxSteps:=999999) only [E0,seval,-Int.reduceNatCast',NADD,setL] at g6
    simp (maxSteps:=999999) only [E0,seval,-Int.reduceNatCast',NUM,NADD,g1,g2,g5,g6,gd,gf] at hX
    subst hX
    refine ⟨_,fun a ha => ?_,?_,.inl ⟨hN,rfl⟩⟩
    · simp (maxSteps:=999999) only [E0,seval,-Int.reduceNatCast',(show ¬ a = H.next + 1 by omega),(show ¬ a = H.next + 1 + 1 by omega),(show ¬ a = H.next + 1 + 1 + 1 by omega),(show ¬ a = H.next + 1 + 1 + 1 + 1 + 1 by omega),(show ¬ a = H.next + 1 + 1 + 1 + 1 + 1 + 1 by omega)]
      exact gfr a ha
    · simp (maxSteps:=999999) only [E0,seval,-Int.reduceNatCast']
      omega
end
noncomputable def NDV (D : Dis) (cl : List Int) : PV:=if DVC D cl = 0 then (match NDS D cl D.rs.length with
  | none => .tup [.nils,.bool false,I 0]
  | some hs => .tup [.vs 1 (hs.map I) none,.bool true,I 0]) else .tup [.nils,.bool false,I (DVC D cl)]
theorem DVC_0 {D : Dis} {cl : List Int} (h : DVC D cl = 0) : XC D = 0 ∧ cl.length = D.fs.length ∧ LIT cl:=by
  unfold DVC at h
  split at h
  · next h1 =>
    split at h
    · next h2 => exact ⟨h1,h2.1,h2.2⟩
    · omega
  · next h1 => exact absurd h h1
theorem RSI {D : Dis} (h : XC D = 0) : ∀ x ∈ D.rs,0 ≤ x.si ∧ x.si ≤ 1073741824:=by
  intro x hx
  obtain ⟨j,ej⟩:=List.mem_iff_getElem?.1 hx
  have:=((XC_0 h).2.2.2.2.1 j x ej).2
  unfold RIN at this
  omega
section
variable {D : Dis} (hr : ∀ x ∈ D.rs,x.OK) (rc fc : Option Nat) {cs gs ds ws : PV} (hv : DV D cs gs ds ws)
include hr hv
set_option maxHeartbeats 4000000 in
theorem c_Needs (cl : List Int) (v : PV) (hcv : RV cl v) : ap Tryz.prog pol 65 [.agg (dcel D rc fc cs gs ds ws),v] = some (.ret (NDV D cl)):=by
  have ck:=c_dvcheck hr rc fc hv cl v hcv
  have rv:=RVS hcv
  rw [ap_eq _ Tryz.func65 rfl Tryz.ntmps65 Tryz.results65 (by kernel_rfl) rfl (by exact Nat.le_of_ble_eq_true rfl)]
  by_cases h0 : DVC D cl = 0
  rotate_left
  · have e : NDV D cl = .tup [.nils,.bool false,I (DVC D cl)]:=by unfold NDV; rw [if_neg h0]
    rw [e]
    simp (maxSteps:=999999) only [E0,seval,-Int.reduceNatCast',NUM,SRCH,SFRM,SCRP,SRGT,SDTY,INTS,rv,hv.s0,hv.s1,hv.s2,hv.fz,ck,h0]
  obtain ⟨hX,hl,hc⟩:=DVC_0 h0
  have hL0:=(XC_0 hX).1
  simp (maxSteps:=999999) only [E0,seval,-Int.reduceNatCast',NUM,SRCH,SFRM,SCRP,SRGT,SDTY,INTS,rv,hv.s0,hv.s1,hv.s2,hv.fz,ck,h0]
  generalize hE : callF _ _ _ _ _ _ = E
  obtain ⟨mm,g,H',rfl,hP,fr,nx⟩:=c_grow D rc fc cs gs ds ws hL0.2.1 hL0.1 _ _ hE
  clear hE
  simp (maxSteps:=999999) only [E0,seval,-Int.reduceNatCast'] at nx
  simp (maxSteps:=999999) only [E0,seval,-Int.reduceNatCast'] at hP
  simp (maxSteps:=999999) only [E0,seval,-Int.reduceNatCast',NUM,rv,List.cons_append,List.nil_append]
  generalize hE : callF _ _ _ _ _ _ = E
  obtain ⟨H2,fr2,nx2,h2⟩:=c_tneeds hr rc fc hv hX cl v hcv hl hc _ _ _ mm g hP nx _ hE
  clear hE
  rcases h2 with ⟨hN,rfl⟩ | ⟨hs,h0',hN,rfl,hrow⟩
  · have e : NDV D cl = .tup [.nils,.bool false,I 0]:=by unfold NDV; rw [if_pos h0,hN]
    rw [e]
    simp (maxSteps:=999999) only [E0,seval,-Int.reduceNatCast',NUM]
  · have e : NDV D cl = .tup [.vs 1 (hs.map I) none,.bool true,I 0]:=by unfold NDV; rw [if_pos h0,hN]
    rw [e]
    have nok:=NDS_ok (RSI hX) (Nat.le_refl _) hN
    have tk : (hs.map I).take D.rs.length = hs.map I:=List.take_of_length_le (by simp [nok.len])
    simp (maxSteps:=999999) only [E0,seval,-Int.reduceNatCast',NUM,INTS,hrow,nok.len,tk,Nat.zero_add,Nat.le_refl]
end
structure Lot where
  (w n : Int)
abbrev lot (x : Lot) : PV:=.agg [I x.w,I x.n]
structure Ofr where
  (no fm pr lo hi : Int) (lots : List Lot)
abbrev ofr (c : Option Nat) (x : Ofr) : PV:=.agg [I x.no,I x.fm,I x.pr,I x.lo,I x.hi,.vs 2 (x.lots.map lot) c]
theorem SLOT : (∀ l : List Lot,strip0L (l.map lot) = l.map lot) ∧ (∀ l : List Lot,(l.map lot).map strip0 = l.map lot) ∧ (∀ H (l : List Lot),(l.map lot).map (strip1 H) = l.map lot) ∧ (∀ H (l : List Lot),(l.map lot).map (strip2 H) = l.map lot) ∧ (∀ H (l : List Lot),strip1L H (l.map lot) = l.map lot) ∧ (∀ H (l : List Lot),strip2L H (l.map lot) = l.map lot):=STR lot (fun _ => rfl) (fun _ _ => rfl) (fun _ _ => rfl)
def PW (l : List Lot) (j : Nat) : Int:=if j = 0 then -1 else ((l[j - 1]?).map Lot.w).getD (-1)
theorem PW_succ {l : List Lot} {j : Nat} {x : Lot} (e : l[j]? = some x) : PW l (j + 1) = x.w:=by simp [PW,e]
def LOTK (p : Int) (x : Lot) : Prop:=(p < x.w ∧ x.w < 8) ∧ x.n ≠ 0 ∧ (-1073741824 ≤ x.n ∧ x.n ≤ 1073741824)
def OFK (x : Ofr) : Prop:=(0 ≤ x.no ∧ x.no ≤ 1048576) ∧ (0 ≤ x.fm ∧ x.fm < 600) ∧ (-1073741824 ≤ x.pr ∧ x.pr ≤ 1073741824) ∧ (0 ≤ x.lo ∧ x.lo ≤ x.hi ∧ x.hi ≤ 10000) ∧ 0 < x.lots.length ∧ ALLI (fun i y => LOTK (PW x.lots i) y) x.lots
noncomputable instance (x : Ofr) : Decidable (OFK x):=Classical.propDecidable _
noncomputable def OC (x : Ofr) : Int:=if 8 < x.lots.length then 2 else if OFK x then 0 else 440
set_option maxHeartbeats 4000000 in
theorem c_ocheck (x : Ofr) (c : Option Nat) : ap Tryz.prog pol 78 [ofr c x] = some (.ret (I (OC x))):=by
  rw [ap_eq _ Tryz.func78 rfl Tryz.ntmps78 Tryz.results78 (by kernel_rfl) rfl (by exact Nat.le_of_ble_eq_true rfl)]
  by_cases hl8 : 8 < x.lots.length
  · have e : OC x = 2:=by unfold OC; rw [if_pos hl8]
    rw [e]
    simp (maxSteps:=999999) only [E0,seval,-Int.reduceNatCast',NUM,SLOT,List.length_map,(show (8 : Int) < x.lots.length by omega)]
  have e : OC x = if OFK x then 0 else 440:=by unfold OC; rw [if_neg hl8]
  rw [e]
  have hno : ¬ OFK x → (if OFK x then (0 : Int) else 440) = 440:=fun g => if_neg g
  replace hl8 : ¬ (8 : Int) < x.lots.length:=by omega
  unfold OFK at hno
  by_cases a0 : x.no < 0
  · rw [show (if OFK x then (0 : Int) else 440) = 440 from if_neg (fun g => by unfold OFK at g; omega)]
    simp (maxSteps:=999999) only [E0,seval,-Int.reduceNatCast',NUM,SLOT,List.length_map,hl8,a0]
  by_cases a1 : 1048576 < x.no
  · rw [show (if OFK x then (0 : Int) else 440) = 440 from if_neg (fun g => by unfold OFK at g; omega)]
    simp (maxSteps:=999999) only [E0,seval,-Int.reduceNatCast',NUM,SLOT,List.length_map,hl8,a0,a1]
  by_cases a2 : x.fm < 0
  · rw [show (if OFK x then (0 : Int) else 440) = 440 from if_neg (fun g => by unfold OFK at g; omega)]
    simp (maxSteps:=999999) only [E0,seval,-Int.reduceNatCast',NUM,SLOT,List.length_map,hl8,a0,a1,a2]
  by_cases a3 : 600 ≤ x.fm
  · rw [show (if OFK x then (0 : Int) else 440) = 440 from if_neg (fun g => by unfold OFK at g; omega)]
    simp (maxSteps:=999999) only [E0,seval,-Int.reduceNatCast',NUM,SLOT,List.length_map,hl8,a0,a1,a2,a3]
  by_cases a4 : x.pr < -1073741824
  · rw [show (if OFK x then (0 : Int) else 440) = 440 from if_neg (fun g => by unfold OFK at g; omega)]
    simp (maxSteps:=999999) only [E0,seval,-Int.reduceNatCast',NUM,SLOT,List.length_map,hl8,a0,a1,a2,a3,a4]
  by_cases a5 : 1073741824 < x.pr
  · rw [show (if OFK x then (0 : Int) else 440) = 440 from if_neg (fun g => by unfold OFK at g; omega)]
    simp (maxSteps:=999999) only [E0,seval,-Int.reduceNatCast',NUM,SLOT,List.length_map,hl8,a0,a1,a2,a3,a4,a5]
  by_cases a6 : x.lo < 0
  · rw [show (if OFK x then (0 : Int) else 440) = 440 from if_neg (fun g => by unfold OFK at g; omega)]
    simp (maxSteps:=999999) only [E0,seval,-Int.reduceNatCast',NUM,SLOT,List.length_map,hl8,a0,a1,a2,a3,a4,a5,a6]
  by_cases a7 : x.hi < x.lo
  · rw [show (if OFK x then (0 : Int) else 440) = 440 from if_neg (fun g => by unfold OFK at g; omega)]
    simp (maxSteps:=999999) only [E0,seval,-Int.reduceNatCast',NUM,SLOT,List.length_map,hl8,a0,a1,a2,a3,a4,a5,a6,a7]
  by_cases a8 : 10000 < x.hi
  · rw [show (if OFK x then (0 : Int) else 440) = 440 from if_neg (fun g => by unfold OFK at g; omega)]
    simp (maxSteps:=999999) only [E0,seval,-Int.reduceNatCast',NUM,SLOT,List.length_map,hl8,a0,a1,a2,a3,a4,a5,a6,a7,a8]
  by_cases a9 : (x.lots.length : Int) = 0
  · rw [show (if OFK x then (0 : Int) else 440) = 440 from if_neg (fun g => by unfold OFK at g; omega)]
    simp (maxSteps:=999999) only [E0,seval,-Int.reduceNatCast',NUM,SLOT,List.length_map,hl8,a0,a1,a2,a3,a4,a5,a6,a7,a8,a9]
  simp (maxSteps:=999999) only [E0,seval,-Int.reduceNatCast',NUM,SLOT,List.length_map,hl8,a0,a1,a2,a3,a4,a5,a6,a7,a8,a9]
  generalize hL : W _ (.loop _) _ = L
  obtain ⟨ex,s,rfl,hex,hd⟩:=loop_at hL (α:=Nat) (fun j => x.lots.length - j)
    (fun s0 j s => j ≤ x.lots.length ∧ ALLI (fun i y => LOTK (PW x.lots i) y) (x.lots.take j) ∧ s.tmps 68 = I j ∧ s.tmps 67 = I x.lots.length ∧ s.tmps 66 = .vs 2 (x.lots.map lot) c ∧ s.tmps 3 = I (PW x.lots j) ∧ s.defers = [] ∧ s.fid = 0)
    (fun s0 ex s => ((ex = .exit 0 ∧ ALLI (fun i y => LOTK (PW x.lots i) y) x.lots) ∨ (ex = .ret ∧ ¬ ALLI (fun i y => LOTK (PW x.lots i) y) x.lots ∧ s.tmps 2 = I 440)) ∧ s.defers = []) 0
    (by simp (maxSteps:=999999) only [E0,seval,-Int.reduceNatCast']; exact ⟨by omega,fun i x h => by simp at h,by simp,by simp [PW]⟩) (by
      rintro j s r hW ⟨hj,ht,h68,h67,h66,h3,hd,hf⟩
      by_cases hp : j < x.lots.length
      rotate_left
      · simp (maxSteps:=999999) only [E0,seval,-Int.reduceNatCast',h68,h67,h66,hd,hf,List.length_map,(show ¬ (j : Int) < x.lots.length by omega)] at hW
        subst hW
        have ht:=ALLI_full ht (by omega)
        exact rd_exit ⟨.inl ⟨rfl,ht⟩,by simp (maxSteps:=999999) only [E0,seval,-Int.reduceNatCast',hd]⟩
      have e0 : x.lots[j]? = some x.lots[j]:=List.getElem?_eq_getElem hp
      have e1:=map_get (f:=lot) e0
      generalize x.lots[j] = y at *
      rcases hb5 : s.boxes 5 with _ | ⟨v5,c5⟩
      all_goals
        simp (maxSteps:=999999) only [E0,seval,-Int.reduceNatCast',NUM,h68,h67,h66,h3,hd,hf,hb5,e1,List.length_map,Int.toNat_natCast,(show (j : Int) < x.lots.length by omega),(show (0 : Int) ≤ j by omega),(i64_in (x:=(j : Int) + 1) (by unfold I64; omega))] at hW
        subst hW
        repeat' refine rd_ite (fun _ => ?_) (fun _ => ?_)
        all_goals first
          | (have hx : LOTK (PW x.lots j) y:=by unfold LOTK; omega
             refine rd_next (j + 1) ?_ (show x.lots.length - (j + 1) < x.lots.length - j by omega)
             simp (maxSteps:=999999) only [E0,seval,-Int.reduceNatCast',h67,h66,hd]
             exact ⟨by omega,ALLI_take ht e0 hx,by simp,by rw [PW_succ e0]⟩)
          | (refine rd_ret ⟨.inr ⟨rfl,fun g => ?_,by simp (maxSteps:=999999) only [E0,seval,-Int.reduceNatCast']⟩,by simp (maxSteps:=999999) only [E0,seval,-Int.reduceNatCast',hd]⟩
             have:=g j y e0
             unfold LOTK at this
             omega))
  rcases hex with ⟨rfl,hg⟩ | ⟨rfl,hg,h2⟩
  · rw [if_pos (show OFK x from ⟨by omega,by omega,by omega,by omega,by omega,hg⟩)]; simp (maxSteps:=999999) only [E0,seval,-Int.reduceNatCast',hd]
  · rw [if_neg (fun g => hg g.2.2.2.2.2)]; simp (maxSteps:=999999) only [E0,seval,-Int.reduceNatCast',hd,h2]
structure Mkt where
  (D : Dis) (aw : List (List Int)) (room rain : Int) (os : List Ofr)
structure Cps where
  (r f : Option Nat) (cs gs ds ws : PV) (av : List PV) (cw cl co : Option Nat)
abbrev mcl (M : Mkt) (q : Cps) : List PV:=[.str M.D.nm,I M.D.hours,I M.D.cap,I M.D.start,.vs 12 (M.D.rs.map rch) q.r,.vs 4 (M.D.fs.map frm) q.f,q.cs,q.gs,q.ds,q.ws,.vs 1 q.av q.cw,I M.room,I M.rain,.vs 6 (M.os.map (ofr q.cl)) q.co]
def RVN (l : List Int) (v : PV) : Prop:=(l ≠ [] ∧ ∃ c,v = .vs 1 (l.map I) c) ∨ (l = [] ∧ (v = .nils ∨ ∃ c,v = .vs 1 [] (some c)))
theorem RVN.rv {l : List Int} {v : PV} (h : RVN l v) : RV l v:=by
  rcases h with ⟨_,h⟩ | ⟨rfl,h | ⟨c,h⟩⟩
  · exact .inl h
  · exact .inr ⟨rfl,h⟩
  · exact .inl ⟨_,h⟩
structure AWV (aw : List (List Int)) (av : List PV) : Prop where
  len : av.length = aw.length
  get : ∀ (i : Nat) (l : List Int),aw[i]? = some l → ∃ v,av[i]? = some v ∧ RVN l v
theorem AWV.mem {aw : List (List Int)} {av : List PV} (h : AWV aw av) : ∀ v ∈ av,∃ l,RV l v:=by
  intro v hv
  obtain ⟨i,ei⟩:=List.mem_iff_getElem?.1 hv
  have hi:=(List.getElem?_eq_some_iff.1 ei).1
  obtain ⟨w,ew,hw⟩:=h.get i _ (List.getElem?_eq_getElem (by rw [← h.len]; exact hi))
  rw [ei] at ew
  cases ew
  exact ⟨_,hw.rv⟩
theorem map_id_of {f : PV → PV} : ∀ {l : List PV},(∀ v ∈ l,f v = v) → l.map f = l
  | [],_ => rfl
  | v :: l,h => by rw [List.map_cons,h v (by simp),map_id_of fun w hw => h w (by simp [hw])]
theorem SAV {aw : List (List Int)} {av : List PV} (h : AWV aw av) : (strip0L av = av ∧ av.map strip0 = av ∧ (∀ H,av.map (strip1 H) = av) ∧ (∀ H,av.map (strip2 H) = av) ∧ (∀ H,strip1L H av = av) ∧ (∀ H,strip2L H av = av)) ∧ av.length = aw.length:=by
  have h0 : av.map strip0 = av:=map_id_of fun v hv => by obtain ⟨l,hl⟩:=h.mem v hv; exact (RVS hl).1.1
  have h1 : ∀ H,av.map (strip1 H) = av:=fun H => map_id_of fun v hv => by obtain ⟨l,hl⟩:=h.mem v hv; exact (RVS hl).1.2.1 H
  have h2 : ∀ H,av.map (strip2 H) = av:=fun H => map_id_of fun v hv => by obtain ⟨l,hl⟩:=h.mem v hv; exact (RVS hl).1.2.2 H
  exact ⟨⟨by rw [strip0L_map,h0],h0,h1,h2,fun H => by rw [strip1L_map,h1],fun H => by rw [strip2L_map,h2]⟩,h.len⟩
theorem SOFR (c : Option Nat) : (∀ l : List Ofr,strip0L (l.map (ofr c)) = l.map (ofr c)) ∧ (∀ l : List Ofr,(l.map (ofr c)).map strip0 = l.map (ofr c)) ∧ (∀ H (l : List Ofr),(l.map (ofr c)).map (strip1 H) = l.map (ofr c)) ∧ (∀ H (l : List Ofr),(l.map (ofr c)).map (strip2 H) = l.map (ofr c)) ∧ (∀ H (l : List Ofr),strip1L H (l.map (ofr c)) = l.map (ofr c)) ∧ (∀ H (l : List Ofr),strip2L H (l.map (ofr c)) = l.map (ofr c)):=STR (ofr c)
  (fun x => by show PV.agg [I x.no,I x.fm,I x.pr,I x.lo,I x.hi,.vs 2 (strip0L (x.lots.map lot)) c] = _; rw [SLOT.1]) (fun H x => by show PV.agg [I x.no,I x.fm,I x.pr,I x.lo,I x.hi,.vs 2 (strip1L H (x.lots.map lot)) c] = _; rw [SLOT.2.2.2.2.1]) (fun H x => by show PV.agg [I x.no,I x.fm,I x.pr,I x.lo,I x.hi,.vs 2 (strip2L H (x.lots.map lot)) c] = _; rw [SLOT.2.2.2.2.2])
section
variable {M : Mkt} (hr : ∀ x ∈ M.D.rs,x.OK) {q : Cps} (hv : DV M.D q.cs q.gs q.ds q.ws) (hA : AWV M.aw q.av)
include hr hv hA
theorem c_week (y : Lot) (la : M.aw.length ≤ 1000000) : ap Tryz.prog pol 80 [lot y,.rop (mcl M q)] = some (.ret (.bool (decide ((M.aw.length : Int) ≤ y.w)))):=by
  rw [ap_eq _ Tryz.func80 rfl Tryz.ntmps80 Tryz.results80 (by kernel_rfl) rfl (by exact Nat.le_of_ble_eq_true rfl)]
  simp (maxSteps:=999999) only [E0,seval,-Int.reduceNatCast',NUM,SAV hA,List.length_map]
theorem c_ixw (l : List Lot) (c : Option Nat) (hl : l.length ≤ 1000000) (la : M.aw.length ≤ 1000000) : ∃ k : Int,ap Tryz.prog pol 93 [.vs 2 (l.map lot) c,.fn 80 [.rop (mcl M q)]] = some (.ret (I k)) ∧ (0 ≤ k ↔ ∃ x ∈ l,(M.aw.length : Int) ≤ x.w):=by
  rw [ap_eq _ Tryz.func93 rfl Tryz.ntmps93 Tryz.results93 (by kernel_rfl) rfl (by exact Nat.le_of_ble_eq_true rfl)]
  simp (maxSteps:=999999) only [E0,seval,-Int.reduceNatCast',List.length_map]
  generalize hL : W _ (.loop _) _ = L
  obtain ⟨ex,s,rfl,hex,hd⟩:=loop_at hL (α:=Nat) (fun j => l.length - j)
    (fun s0 j s => j ≤ l.length ∧ (∀ x ∈ l.take j,¬ (M.aw.length : Int) ≤ x.w) ∧ s.tmps 8 = I j ∧ s.tmps 7 = I l.length ∧ s.tmps 0 = .vs 2 (l.map lot) c ∧ s.tmps 1 = .fn 80 [.rop (mcl M q)] ∧ s.defers = [] ∧ s.fid = 0)
    (fun s0 ex s => ((ex = .exit 0 ∧ ∀ x ∈ l,¬ (M.aw.length : Int) ≤ x.w) ∨ (ex = .ret ∧ (∃ x ∈ l,(M.aw.length : Int) ≤ x.w) ∧ ∃ k : Int,0 ≤ k ∧ s.tmps 4 = I k)) ∧ s.defers = []) 0
    (by simp (maxSteps:=999999) only [E0,seval,-Int.reduceNatCast']; exact ⟨by omega,by simp,by simp⟩) (by
      rintro j s r hW ⟨hj,hg,h8,h7,h0,h1,hd,hf⟩
      by_cases hp : j < l.length
      rotate_left
      · simp (maxSteps:=999999) only [E0,seval,-Int.reduceNatCast',h8,h7,hd,hf,(show ¬ (j : Int) < l.length by omega)] at hW
        subst hW
        have : j = l.length:=by omega
        subst this
        rw [List.take_length] at hg
        exact rd_exit ⟨.inl ⟨rfl,hg⟩,by simp (maxSteps:=999999) only [E0,seval,-Int.reduceNatCast',hd]⟩
      have e0 : l[j]? = some l[j]:=List.getElem?_eq_getElem hp
      have e1:=map_get (f:=lot) e0
      have hm:=List.getElem_mem hp
      generalize l[j] = x at *
      have cf:=c_week (M:=M) hr hv hA x la
      by_cases hx : (M.aw.length : Int) ≤ x.w
      · rw [decide_eq_true hx] at cf
        simp (maxSteps:=999999) only [E0,seval,-Int.reduceNatCast',NUM,SRCH,SFRM,SCRP,SRGT,SDTY,hv.s0,hv.s1,hv.s2,hv.fz,SAV hA,SOFR,SLOT,INTS,cf,h8,h7,h0,h1,hd,hf,e1,List.length_map,Int.toNat_natCast,(show (j : Int) < l.length by omega),(show (0 : Int) ≤ j by omega)] at hW
        subst hW
        refine rd_ret ⟨.inr ⟨rfl,⟨_,hm,hx⟩,j,by omega,by simp (maxSteps:=999999) only [E0,seval,-Int.reduceNatCast']⟩,by simp (maxSteps:=999999) only [E0,seval,-Int.reduceNatCast',hd]⟩
      · rw [decide_eq_false hx] at cf
        have hn:=none_more e0 hg hx
        simp (maxSteps:=999999) only [E0,seval,-Int.reduceNatCast',NUM,SRCH,SFRM,SCRP,SRGT,SDTY,hv.s0,hv.s1,hv.s2,hv.fz,SAV hA,SOFR,SLOT,INTS,cf,h8,h7,h0,h1,hd,hf,e1,List.length_map,Int.toNat_natCast,(show (j : Int) < l.length by omega),(show (0 : Int) ≤ j by omega),(i64_in (x:=(j : Int) + 1) (by unfold I64; omega))] at hW
        subst hW
        refine rd_next (j + 1) ?_ (show l.length - (j + 1) < l.length - j by omega)
        simp (maxSteps:=999999) only [E0,seval,-Int.reduceNatCast',h7,h0,h1,hd]
        exact ⟨by omega,hn,by simp⟩)
  rcases hex with ⟨rfl,hg⟩ | ⟨rfl,hg,k,hk,h4⟩
  · refine ⟨-1,by simp (maxSteps:=999999) only [E0,seval,-Int.reduceNatCast',hd],fun h => absurd h (by decide),fun ⟨x,hx,hp⟩ => absurd hp (hg x hx)⟩
  · refine ⟨k,by simp (maxSteps:=999999) only [E0,seval,-Int.reduceNatCast',hd,h4],fun _ => hg,fun _ => hk⟩
def WKS (M : Mkt) (l : List Lot) : Prop:=∀ x ∈ l,x.w < M.aw.length
omit hr hv hA in
theorem WKS_iff (l : List Lot) : WKS M l ↔ ¬ ∃ x ∈ l,(M.aw.length : Int) ≤ x.w:=by
  unfold WKS
  constructor
  · rintro h ⟨x,hx,g⟩; have:=h x hx; omega
  · intro h x hx
    by_cases g : (M.aw.length : Int) ≤ x.w
    · exact absurd ⟨x,hx,g⟩ h
    · omega
noncomputable instance (M : Mkt) (l : List Lot) : Decidable (WKS M l):=Classical.propDecidable _
theorem c_hasw (l : List Lot) (c : Option Nat) (hl : l.length ≤ 1000000) (la : M.aw.length ≤ 1000000) : ap Tryz.prog pol 79 [.vs 2 (l.map lot) c,.fn 80 [.rop (mcl M q)]] = some (.ret (.bool (decide (¬ WKS M l)))):=by
  obtain ⟨k,ck,hk⟩:=c_ixw hr hv hA l c hl la
  have hi:=WKS_iff (M:=M) l
  rw [ap_eq _ Tryz.func79 rfl Tryz.ntmps79 Tryz.results79 (by kernel_rfl) rfl (by exact Nat.le_of_ble_eq_true rfl)]
  by_cases h : WKS M l
  · have hk' : ¬ 0 ≤ k:=fun g => (hi.1 h) (hk.1 g)
    rw [decide_eq_false (fun g => g h)]
    simp (maxSteps:=999999) only [E0,seval,-Int.reduceNatCast',NUM,SRCH,SFRM,SCRP,SRGT,SDTY,hv.s0,hv.s1,hv.s2,hv.fz,SAV hA,SOFR,SLOT,INTS,ck,hk']
  · have hk' : 0 ≤ k:=hk.2 (Classical.not_not.1 (fun g => h (hi.2 g)))
    rw [decide_eq_true h]
    simp (maxSteps:=999999) only [E0,seval,-Int.reduceNatCast',NUM,SRCH,SFRM,SCRP,SRGT,SDTY,hv.s0,hv.s1,hv.s2,hv.fz,SAV hA,SOFR,SLOT,INTS,ck,hk']
def NDO (D : Dis) (l : List Int) : Prop:=DVC D l = 0 ∧ ∃ hs,NDS D l D.rs.length = some hs
noncomputable instance (D : Dis) (l : List Int) : Decidable (NDO D l):=Classical.propDecidable _
def PO (l : List Ofr) (j : Nat) : Int:=if j = 0 then -1 else ((l[j - 1]?).map Ofr.no).getD (-1)
omit hr hv hA in
theorem PO_succ {l : List Ofr} {j : Nat} {x : Ofr} (e : l[j]? = some x) : PO l (j + 1) = x.no:=by simp [PO,e]
def MOF (M : Mkt) (p : Int) (x : Ofr) : Prop:=OC x = 0 ∧ p < x.no ∧ x.fm < M.D.fs.length ∧ WKS M x.lots
def MKO (M : Mkt) : Prop:=(∀ l ∈ M.aw,NDO M.D l) ∧ ALLI (fun i x => MOF M (PO M.os i) x) M.os
noncomputable instance (M : Mkt) : Decidable (MKO M):=Classical.propDecidable _
noncomputable def MC (M : Mkt) : Int:=if XC M.D = 0 then (if 8 < M.aw.length ∨ 12 < M.os.length then 2 else if M.aw.length = 0 ∨ ¬ (0 ≤ M.room ∧ M.room ≤ 1099511627776) ∨ ¬ (0 ≤ M.rain ∧ M.rain ≤ 10000) then 450 else if MKO M then 0 else 450) else XC M.D
set_option maxHeartbeats 8000000 in
theorem c_mcheck : ap Tryz.prog pol 59 [.agg (mcl M q)] = some (.ret (I (MC M))):=by
  have cr:=c_wins M.room 0 1099511627776
  have cn:=c_wins M.rain 0 10000
  rw [ap_eq _ Tryz.func59 rfl Tryz.ntmps59 Tryz.results59 (by kernel_rfl) rfl (by exact Nat.le_of_ble_eq_true rfl)]
  simp (maxSteps:=999999) only [E0,seval,-Int.reduceNatCast',NUM,SRCH,SFRM,SCRP,SRGT,SDTY,hv.s0,hv.s1,hv.s2,hv.fz,SAV hA,SOFR,SLOT,INTS]
  generalize hE : callF _ _ _ _ _ _ = E
  obtain ⟨H',e,rfl,fr,hn,he⟩:=c_xcheck M.D hr q.r q.f _ _ _ q.ws hv.hcs hv.hgs hv.hds _ _ hE
  have he:=XC_cases M.D e he
  subst he
  by_cases hX : XC M.D = 0
  rotate_left
  · have ed : MC M = XC M.D:=by unfold MC; rw [if_neg hX]
    rw [ed]
    simp (maxSteps:=999999) only [E0,seval,-Int.reduceNatCast',NUM,hX]
  by_cases h1 : (8 : Int) < M.aw.length
  · have ed : MC M = 2:=by unfold MC; rw [if_pos hX,if_pos (.inl (by omega))]
    rw [ed]
    simp (maxSteps:=999999) only [E0,seval,-Int.reduceNatCast',NUM,SAV hA,hX,List.length_map,h1]
  by_cases h2 : (12 : Int) < M.os.length
  · have ed : MC M = 2:=by unfold MC; rw [if_pos hX,if_pos (.inr (by omega))]
    rw [ed]
    simp (maxSteps:=999999) only [E0,seval,-Int.reduceNatCast',NUM,SAV hA,hX,List.length_map,h1,h2]
  by_cases h3 : (M.aw.length : Int) = 0
  · have ed : MC M = 450:=by unfold MC; rw [if_pos hX,if_neg (by omega),if_pos (.inl (by omega))]
    rw [ed]
    simp (maxSteps:=999999) only [E0,seval,-Int.reduceNatCast',NUM,SAV hA,hX,List.length_map,h1,h2,h3]
  by_cases h4 : 0 ≤ M.room ∧ M.room ≤ 1099511627776
  rotate_left
  · have ed : MC M = 450:=by unfold MC; rw [if_pos hX,if_neg (by omega),if_pos (.inr (.inl h4))]
    rw [ed]
    rw [decide_eq_false h4] at cr
    simp (maxSteps:=999999) only [E0,seval,-Int.reduceNatCast',NUM,SAV hA,hX,List.length_map,h1,h2,h3,cr]
  rw [decide_eq_true h4] at cr
  by_cases h5 : 0 ≤ M.rain ∧ M.rain ≤ 10000
  rotate_left
  · have ed : MC M = 450:=by unfold MC; rw [if_pos hX,if_neg (by omega),if_pos (.inr (.inr h5))]
    rw [ed]
    rw [decide_eq_false h5] at cn
    simp (maxSteps:=999999) only [E0,seval,-Int.reduceNatCast',NUM,SAV hA,hX,List.length_map,h1,h2,h3,cr,cn]
  rw [decide_eq_true h5] at cn
  have ed : MC M = if MKO M then 0 else 450:=by unfold MC; rw [if_pos hX,if_neg (by omega),if_neg (by omega)]
  rw [ed]
  simp (maxSteps:=999999) only [E0,seval,-Int.reduceNatCast',NUM,SAV hA,hX,List.length_map,h1,h2,h3,cr,cn]
  generalize hL : W _ (.loop _) _ = L
  obtain ⟨ex,s,rfl,hex,g1,hd,hf⟩:=loop_at hL (α:=Nat) (fun j => M.aw.length - j)
    (fun s0 j s => j ≤ M.aw.length ∧ (∀ l ∈ M.aw.take j,NDO M.D l) ∧ s.tmps 46 = I j ∧ s.tmps 45 = I M.aw.length ∧ s.tmps 44 = .vs 1 q.av q.cw ∧ s.tmps 1 = .rop (mcl M q) ∧ s.defers = [] ∧ s.fid = 0)
    (fun s0 ex s => ((ex = .exit 0 ∧ ∀ l ∈ M.aw,NDO M.D l) ∨ (ex = .ret ∧ ¬ (∀ l ∈ M.aw,NDO M.D l) ∧ s.tmps 2 = I 450)) ∧ s.tmps 1 = .rop (mcl M q) ∧ s.defers = [] ∧ s.fid = 0) 0
    (by simp (maxSteps:=999999) only [E0,seval,-Int.reduceNatCast']; exact ⟨by omega,by simp,by simp⟩) (by
      rintro j s r hW ⟨hj,ht,h46,h45,h44,g1,hd,hf⟩
      by_cases hp : j < M.aw.length
      rotate_left
      · simp (maxSteps:=999999) only [E0,seval,-Int.reduceNatCast',h46,h45,hd,hf,List.length_map,(show ¬ (j : Int) < M.aw.length by omega)] at hW
        subst hW
        rw [List.take_of_length_le (by omega)] at ht
        exact rd_exit ⟨.inl ⟨rfl,ht⟩,by simp (maxSteps:=999999) only [E0,seval,-Int.reduceNatCast',g1,hd]⟩
      have e0 : M.aw[j]? = some M.aw[j]:=List.getElem?_eq_getElem hp
      obtain ⟨v,e1,hrv⟩:=hA.get j _ e0
      have rv:=RVS hrv.rv
      have hm:=List.getElem_mem hp
      have htk : ∀ P : List Int → Prop,(∀ y ∈ M.aw.take j,P y) → P M.aw[j] → ∀ y ∈ M.aw.take (j + 1),P y:=by
        intro P a b y hy
        rw [List.take_add_one,e0] at hy
        rcases List.mem_append.1 hy with hy | hy
        · exact a y hy
        · simp only [Option.toList_some,List.mem_singleton] at hy; rw [hy]; exact b
      generalize M.aw[j] = l at *
      have cN:=c_Needs hr q.r q.f hv l v hrv.rv
      by_cases h0 : DVC M.D l = 0
      · cases hN : NDS M.D l M.D.rs.length with
        | none =>
          have e : NDV M.D l = .tup [.nils,.bool false,I 0]:=by unfold NDV; rw [if_pos h0,hN]
          rw [e] at cN
          simp (maxSteps:=999999) only [E0,seval,-Int.reduceNatCast',NUM,SRCH,SFRM,SCRP,SRGT,SDTY,hv.s0,hv.s1,hv.s2,hv.fz,SAV hA,SOFR,SLOT,INTS,rv,cN,h46,h45,h44,g1,hd,hf,e1,List.length_map,Int.toNat_natCast,(show (j : Int) < M.aw.length by omega),(show (0 : Int) ≤ j by omega)] at hW
          subst hW
          exact rd_ret ⟨.inr ⟨rfl,fun g => (by obtain ⟨_,hs,e⟩:=g l hm; rw [hN] at e; cases e),by simp (maxSteps:=999999) only [E0,seval,-Int.reduceNatCast']⟩,by simp (maxSteps:=999999) only [E0,seval,-Int.reduceNatCast',g1,hd]⟩
        | some hs =>
          have e : NDV M.D l = .tup [.vs 1 (hs.map I) none,.bool true,I 0]:=by unfold NDV; rw [if_pos h0,hN]
          rw [e] at cN
          simp (maxSteps:=999999) only [E0,seval,-Int.reduceNatCast',NUM,SRCH,SFRM,SCRP,SRGT,SDTY,hv.s0,hv.s1,hv.s2,hv.fz,SAV hA,SOFR,SLOT,INTS,rv,cN,h46,h45,h44,g1,hd,hf,e1,List.length_map,Int.toNat_natCast,(show (j : Int) < M.aw.length by omega),(show (0 : Int) ≤ j by omega),(i64_in (x:=(j : Int) + 1) (by unfold I64; omega))] at hW
          subst hW
          refine rd_next (j + 1) ?_ (show M.aw.length - (j + 1) < M.aw.length - j by omega)
          simp (maxSteps:=999999) only [E0,seval,-Int.reduceNatCast',h45,h44,g1,hd]
          exact ⟨by omega,htk _ ht ⟨h0,hs,hN⟩,by simp⟩
      · have e : NDV M.D l = .tup [.nils,.bool false,I (DVC M.D l)]:=by unfold NDV; rw [if_neg h0]
        rw [e] at cN
        simp (maxSteps:=999999) only [E0,seval,-Int.reduceNatCast',NUM,SRCH,SFRM,SCRP,SRGT,SDTY,hv.s0,hv.s1,hv.s2,hv.fz,SAV hA,SOFR,SLOT,INTS,rv,cN,h0,h46,h45,h44,g1,hd,hf,e1,List.length_map,Int.toNat_natCast,(show (j : Int) < M.aw.length by omega),(show (0 : Int) ≤ j by omega)] at hW
        subst hW
        exact rd_ret ⟨.inr ⟨rfl,fun g => h0 (g l hm).1,by simp (maxSteps:=999999) only [E0,seval,-Int.reduceNatCast']⟩,by simp (maxSteps:=999999) only [E0,seval,-Int.reduceNatCast',g1,hd]⟩)
  rcases hex with ⟨rfl,hAw⟩ | ⟨rfl,hAw,h2⟩
  rotate_left
  · rw [if_neg (fun g => hAw g.1)]
    simp (maxSteps:=999999) only [E0,seval,-Int.reduceNatCast',hd,h2]
  simp (maxSteps:=999999) only [E0,seval,-Int.reduceNatCast',NUM,SRCH,SFRM,SCRP,SRGT,SDTY,hv.s0,hv.s1,hv.s2,hv.fz,SAV hA,SOFR,SLOT,INTS,g1,hd,hf,List.length_map]
  generalize hL : W _ (.loop _) _ = L
  obtain ⟨ex,s2,rfl,hex,hd⟩:=loop_at hL (α:=Nat) (fun j => M.os.length - j)
    (fun s0 j s => j ≤ M.os.length ∧ ALLI (fun i x => MOF M (PO M.os i) x) (M.os.take j) ∧ s.tmps 68 = I j ∧ s.tmps 67 = I M.os.length ∧ s.tmps 66 = .vs 6 (M.os.map (ofr q.cl)) q.co ∧ s.tmps 8 = I (PO M.os j) ∧ s.tmps 1 = .rop (mcl M q) ∧ s.defers = [] ∧ s.fid = 0)
    (fun s0 ex s => ((ex = .exit 2 ∧ ALLI (fun i x => MOF M (PO M.os i) x) M.os) ∨ (ex = .ret ∧ ¬ ALLI (fun i x => MOF M (PO M.os i) x) M.os ∧ s.tmps 2 = I 450)) ∧ s.defers = []) 0
    (by simp (maxSteps:=999999) only [E0,seval,-Int.reduceNatCast',g1]; exact ⟨by omega,fun i x h => by simp at h,by simp,by simp [PO]⟩) (by
      rintro j s r hW ⟨hj,ht,h68,h67,h66,h8,g1,hd,hf⟩
      by_cases hp : j < M.os.length
      rotate_left
      · simp (maxSteps:=999999) only [E0,seval,-Int.reduceNatCast',h68,h67,hd,hf,List.length_map,(show ¬ (j : Int) < M.os.length by omega)] at hW
        subst hW
        have ht:=ALLI_full ht (by omega)
        exact rd_exit ⟨.inl ⟨rfl,ht⟩,by simp (maxSteps:=999999) only [E0,seval,-Int.reduceNatCast',hd]⟩
      have e0 : M.os[j]? = some M.os[j]:=List.getElem?_eq_getElem hp
      have e1:=map_get (f:=ofr q.cl) e0
      generalize M.os[j] = x at *
      have co:=c_ocheck x q.cl
      rcases hb10 : s.boxes 10 with _ | ⟨v10,c10⟩
      all_goals
        by_cases a1 : OC x = 0
        rotate_left
        · simp (maxSteps:=999999) only [E0,seval,-Int.reduceNatCast',NUM,SRCH,SFRM,SCRP,SRGT,SDTY,hv.s0,hv.s1,hv.s2,hv.fz,SAV hA,SOFR,SLOT,INTS,co,a1,h68,h67,h66,h8,g1,hd,hf,hb10,e1,List.length_map,Int.toNat_natCast,(show (j : Int) < M.os.length by omega),(show (0 : Int) ≤ j by omega)] at hW
          subst hW
          exact rd_ret ⟨.inr ⟨rfl,fun g => a1 (g j x e0).1,by simp (maxSteps:=999999) only [E0,seval,-Int.reduceNatCast']⟩,by simp (maxSteps:=999999) only [E0,seval,-Int.reduceNatCast',hd]⟩
        by_cases a2 : x.no ≤ PO M.os j
        · simp (maxSteps:=999999) only [E0,seval,-Int.reduceNatCast',NUM,SRCH,SFRM,SCRP,SRGT,SDTY,hv.s0,hv.s1,hv.s2,hv.fz,SAV hA,SOFR,SLOT,INTS,co,a1,a2,h68,h67,h66,h8,g1,hd,hf,hb10,e1,List.length_map,Int.toNat_natCast,(show (j : Int) < M.os.length by omega),(show (0 : Int) ≤ j by omega)] at hW
          subst hW
          exact rd_ret ⟨.inr ⟨rfl,fun g => by have:=(g j x e0).2.1; omega,by simp (maxSteps:=999999) only [E0,seval,-Int.reduceNatCast']⟩,by simp (maxSteps:=999999) only [E0,seval,-Int.reduceNatCast',hd]⟩
        by_cases a3 : (M.D.fs.length : Int) ≤ x.fm
        · simp (maxSteps:=999999) only [E0,seval,-Int.reduceNatCast',NUM,SRCH,SFRM,SCRP,SRGT,SDTY,hv.s0,hv.s1,hv.s2,hv.fz,SAV hA,SOFR,SLOT,INTS,co,a1,a2,a3,h68,h67,h66,h8,g1,hd,hf,hb10,e1,List.length_map,Int.toNat_natCast,(show (j : Int) < M.os.length by omega),(show (0 : Int) ≤ j by omega)] at hW
          subst hW
          exact rd_ret ⟨.inr ⟨rfl,fun g => by have:=(g j x e0).2.2.1; omega,by simp (maxSteps:=999999) only [E0,seval,-Int.reduceNatCast']⟩,by simp (maxSteps:=999999) only [E0,seval,-Int.reduceNatCast',hd]⟩
        have l8 : x.lots.length ≤ 8:=by
          unfold OC at a1
          split at a1
          · omega
          · omega
        have cw:=c_hasw hr hv hA x.lots q.cl (by omega) (by omega)
        by_cases a4 : WKS M x.lots
        · rw [decide_eq_false (fun g => g a4)] at cw
          simp (maxSteps:=999999) only [E0,seval,-Int.reduceNatCast',NUM,SRCH,SFRM,SCRP,SRGT,SDTY,hv.s0,hv.s1,hv.s2,hv.fz,SAV hA,SOFR,SLOT,INTS,co,a1,a2,a3,cw,h68,h67,h66,h8,g1,hd,hf,hb10,e1,List.length_map,Int.toNat_natCast,(show (j : Int) < M.os.length by omega),(show (0 : Int) ≤ j by omega),(i64_in (x:=(j : Int) + 1) (by unfold I64; omega))] at hW
          subst hW
          refine rd_next (j + 1) ?_ (show M.os.length - (j + 1) < M.os.length - j by omega)
          simp (maxSteps:=999999) only [E0,seval,-Int.reduceNatCast',h67,h66,g1,hd]
          exact ⟨by omega,ALLI_take ht e0 ⟨a1,by omega,by omega,a4⟩,by simp,by rw [PO_succ e0]⟩
        · rw [decide_eq_true a4] at cw
          simp (maxSteps:=999999) only [E0,seval,-Int.reduceNatCast',NUM,SRCH,SFRM,SCRP,SRGT,SDTY,hv.s0,hv.s1,hv.s2,hv.fz,SAV hA,SOFR,SLOT,INTS,co,a1,a2,a3,cw,h68,h67,h66,h8,g1,hd,hf,hb10,e1,List.length_map,Int.toNat_natCast,(show (j : Int) < M.os.length by omega),(show (0 : Int) ≤ j by omega)] at hW
          subst hW
          exact rd_ret ⟨.inr ⟨rfl,fun g => a4 (g j x e0).2.2.2,by simp (maxSteps:=999999) only [E0,seval,-Int.reduceNatCast']⟩,by simp (maxSteps:=999999) only [E0,seval,-Int.reduceNatCast',hd]⟩)
  rcases hex with ⟨rfl,hg⟩ | ⟨rfl,hg,h2⟩
  · rw [if_pos ⟨hAw,hg⟩]; simp (maxSteps:=999999) only [E0,seval,-Int.reduceNatCast',hd]
  · rw [if_neg (fun g => hg g.2)]; simp (maxSteps:=999999) only [E0,seval,-Int.reduceNatCast',hd,h2]
end
theorem K1 : type_of% @NUM ∧ type_of% @SRCH ∧ type_of% @SFRM ∧ type_of% @SCRP ∧ type_of% @SRGT ∧ type_of% @SDTY ∧ type_of% @SOFR ∧ type_of% @SLOT ∧ type_of% @INTS:=⟨@NUM,@SRCH,@SFRM,@SCRP,@SRGT,@SDTY,@SOFR,@SLOT,@INTS⟩
theorem K2 : type_of% @K1 ∧ type_of% @List.length_map.{0,0} ∧ type_of% @Int.toNat_natCast:=⟨@K1,@List.length_map.{0,0},@Int.toNat_natCast⟩
def BIT (set : Int) (i : Nat) : Int:=set / 2 ^ (min i 64) % 2
theorem and_one (a : Int) : IntKind.i64.wrap ((BitVec.ofInt IntKind.i64.bits a &&& BitVec.ofInt IntKind.i64.bits 1).toNat : Int) = a % 2:=by
  have e : (BitVec.ofInt IntKind.i64.bits a &&& BitVec.ofInt IntKind.i64.bits 1).toNat = (a % 2).toNat:=by
    show (BitVec.ofInt 64 a &&& BitVec.ofInt 64 1).toNat = _
    rw [BitVec.toNat_and,BitVec.toNat_ofInt,BitVec.toNat_ofInt]
    rw [show ((1 : Int) % ((2 ^ 64 : Nat) : Int)).toNat = 1 by decide,Nat.and_one_is_mod]
    omega
  rw [e]
  have:=Int.emod_nonneg a (b:=2) (by decide)
  have:=Int.emod_lt_of_pos a (b:=2) (by decide)
  rw [i64_in (by unfold I64; omega)]
  omega
theorem INB (set : Int) (i : Nat) : IntKind.i64.wrap ((BitVec.ofInt IntKind.i64.bits (set.fdiv (2 ^ min i IntKind.i64.bits)) &&& BitVec.ofInt IntKind.i64.bits 1).toNat : Int) = BIT set i:=by
  rw [and_one]
  unfold BIT
  rw [Int.fdiv_eq_ediv_of_nonneg _ (Int.le_of_lt (Int.pow_pos (by decide)))]
  rfl
def PRC (os : List Ofr) (set : Int) : Nat → Int
  | 0 => 0
  | k + 1 => PRC os set k + match os[k]? with
    | some x => if BIT set k = 1 then x.pr else 0
    | none => 0
theorem PRC_succ {os : List Ofr} {set : Int} {k : Nat} {x : Ofr} (e : os[k]? = some x) : PRC os set (k + 1) = PRC os set k + if BIT set k = 1 then x.pr else 0:=by
  show PRC os set k + _ = _
  rw [e]
def PRB (os : List Ofr) : Prop:=∀ x ∈ os,-1073741824 ≤ x.pr ∧ x.pr ≤ 1073741824
theorem PRC_bd {os : List Ofr} (h : PRB os) (set : Int) : ∀ k : Nat,-(1073741824 * k) ≤ PRC os set k ∧ PRC os set k ≤ 1073741824 * k
  | 0 => by simp [PRC]
  | k + 1 => by
    have ih:=PRC_bd h set k
    cases e : os[k]? with
    | none =>
      have : PRC os set (k + 1) = PRC os set k:=by
        show PRC os set k + _ = _
        rw [e]; simp
      rw [this]; omega
    | some x =>
      have:=h x (List.mem_of_getElem? e)
      rw [PRC_succ e]
      split <;> omega
section
variable {M : Mkt} {q : Cps} (hv : DV M.D q.cs q.gs q.ds q.ws) (hA : AWV M.aw q.av)
include hv hA
theorem c_chosen (set : Int) : ap Tryz.prog pol 52 [.agg (mcl M q),I set] = some (.ret (.fn 72 [.rop (mcl M q),.rop [I set]])):=by
  rw [ap_eq _ Tryz.func52 rfl Tryz.ntmps52 Tryz.results52 (by kernel_rfl) rfl (by exact Nat.le_of_ble_eq_true rfl)]
  simp (maxSteps:=999999) only [E0,seval,-Int.reduceNatCast',K1,hv.st,SAV hA]
set_option maxHeartbeats 4000000 in
theorem c_price (set : Int) (hp : PRB M.os) (lo : M.os.length ≤ 12) : ap Tryz.prog pol 34 [.agg (mcl M q),I set] = some (.ret (I (PRC M.os set M.os.length))):=by
  have cc:=c_chosen hv hA set
  rw [ap_eq _ Tryz.func34 rfl Tryz.ntmps34 Tryz.results34 (by kernel_rfl) rfl (by exact Nat.le_of_ble_eq_true rfl)]
  simp (maxSteps:=999999) only [E0,seval,-Int.reduceNatCast',K1,hv.st,SAV hA,cc]
  rw [callF_eq _ _ Tryz.func72 rfl Tryz.ntmps72 Tryz.results72 (by kernel_rfl) rfl (by exact Nat.le_of_ble_eq_true rfl)]
  simp (maxSteps:=999999) only [E0,seval,-Int.reduceNatCast',K1,hv.st,SAV hA,List.length_map]
  generalize hL : W _ (.loop _) _ = L
  obtain ⟨ex,s,rfl,rfl,g1,g2,g3,gd,gf⟩:=loop_at hL (α:=Nat) (fun k => M.os.length - k)
    (fun s0 k s => k ≤ M.os.length ∧ s.tmps 9 = I k ∧ s.tmps 8 = I M.os.length ∧ s.tmps 7 = .vs 6 (M.os.map (ofr q.cl)) q.co ∧ s.tmps 0 = .yield 3 ∧ s.tmps 2 = .rop [I set] ∧ s.H.rows 1 = some (.gro 1 [I (PRC M.os set k)] 0) ∧ s.H.rows 2 = some .dfr ∧ s.H.rows 3 = s0.H.rows 3 ∧ 4 < s.H.next ∧ s.defers = [] ∧ s.fid = 4)
    (fun s0 ex s => ex = .exit 0 ∧ s.H.rows 1 = some (.gro 1 [I (PRC M.os set M.os.length)] 0) ∧ s.H.rows 2 = some .dfr ∧ s.H.rows 3 = s0.H.rows 3 ∧ s.defers = [] ∧ s.fid = 4) 0
    (by simp (maxSteps:=999999) only [E0,seval,-Int.reduceNatCast',PRC]; exact ⟨Nat.zero_le _,by simp⟩) (by
      rintro k s r hW ⟨hk,h9,h8,h7,h0,h2,g1,g2,g3,gn,gd,gf⟩
      simp (maxSteps:=999999) only [E0,seval,-Int.reduceNatCast'] at g3
      by_cases hp' : k < M.os.length
      rotate_left
      · simp (maxSteps:=999999) only [E0,seval,-Int.reduceNatCast',NUM,h9,h8,gd,gf,(show ¬ (k : Int) < M.os.length by omega)] at hW
        subst hW
        have : k = M.os.length:=by omega
        subst this
        refine rd_exit ⟨rfl,?_⟩
        simp (maxSteps:=999999) only [E0,seval,-Int.reduceNatCast',g1,g2,g3,gd]
      have e0 : M.os[k]? = some M.os[k]:=List.getElem?_eq_getElem hp'
      have e1:=map_get (f:=ofr q.cl) e0
      have ps:=PRC_succ (set:=set) e0
      have pb:=PRC_bd hp set k
      have xb:=hp _ (List.getElem_mem hp')
      generalize M.os[k] = x at *
      generalize PRC M.os set k = P at *
      rcases hb5 : s.boxes 5 with _ | ⟨v5,c5⟩
      all_goals
        by_cases hb : BIT set k = 1
        · rw [if_pos hb] at ps
          simp (maxSteps:=999999) only [E0,seval,-Int.reduceNatCast',NUM,Tryz.func34,SRCH,SFRM,SCRP,SRGT,SDTY,hv.st,SAV hA,SOFR,SLOT,INTS,INB,hb,h9,h8,h7,h0,h2,g1,g2,g3,gd,gf,hb5,e1,List.length_map,Int.toNat_natCast,(show (k : Int) < M.os.length by omega),(show (0 : Int) ≤ k by omega),(show ¬ (k : Int) < 0 by omega),(i64_in (x:=(k : Int) + 1) (by unfold I64; omega)),(i64_in (x:=P + x.pr) (by unfold I64; omega))] at hW
          subst hW
          refine rd_next (k + 1) ?_ (show M.os.length - (k + 1) < M.os.length - k by omega)
          simp (maxSteps:=999999) only [E0,seval,-Int.reduceNatCast',h8,h7,h0,h2,g2,g3,gd,ps]
          exact ⟨by omega,by simp,by omega⟩
        · rw [if_neg hb,Int.add_zero] at ps
          simp (maxSteps:=999999) only [E0,seval,-Int.reduceNatCast',NUM,Tryz.func34,SRCH,SFRM,SCRP,SRGT,SDTY,hv.st,SAV hA,SOFR,SLOT,INTS,INB,hb,h9,h8,h7,h0,h2,g1,g2,g3,gd,gf,hb5,e1,List.length_map,Int.toNat_natCast,(show (k : Int) < M.os.length by omega),(show (0 : Int) ≤ k by omega),(show ¬ (k : Int) < 0 by omega),(i64_in (x:=(k : Int) + 1) (by unfold I64; omega))] at hW
          subst hW
          refine rd_next (k + 1) ?_ (show M.os.length - (k + 1) < M.os.length - k by omega)
          simp (maxSteps:=999999) only [E0,seval,-Int.reduceNatCast',h8,h7,h0,h2,g1,g2,g3,gd,ps]
          exact ⟨by omega,by simp,gn⟩)
  simp (maxSteps:=999999) only [E0,seval,-Int.reduceNatCast'] at g3
  simp (maxSteps:=999999) only [E0,seval,-Int.reduceNatCast',NUM,g1,g2,g3,gd,gf]
end
noncomputable def ASK (M : Mkt) (set : Int) : Int:=if MC M = 0 then (if 0 ≤ set ∧ set ≤ 2 ^ M.os.length - 1 then 0 else 1) else MC M
theorem MC_0 {M : Mkt} (h : MC M = 0) : XC M.D = 0 ∧ M.aw.length ≤ 8 ∧ M.os.length ≤ 12 ∧ 0 < M.aw.length ∧ (0 ≤ M.room ∧ M.room ≤ 1099511627776) ∧ (0 ≤ M.rain ∧ M.rain ≤ 10000) ∧ MKO M:=by
  unfold MC at h
  split at h
  · next h1 =>
    split at h
    · omega
    · split at h
      · omega
      · split at h
        · exact ⟨h1,by omega,by omega,by omega,by omega,by omega,by assumption⟩
        · omega
  · next h1 => exact absurd h h1
theorem MC_prb {M : Mkt} (h : MC M = 0) : PRB M.os:=by
  intro x hx
  obtain ⟨i,e⟩:=List.mem_iff_getElem?.1 hx
  have:=(MC_0 h).2.2.2.2.2.2.2 i x e
  have h1 : OC x = 0:=this.1
  unfold OC at h1
  split at h1
  · omega
  · split at h1
    · next g => exact g.2.2.1
    · omega
section
variable {M : Mkt} (hr : ∀ x ∈ M.D.rs,x.OK) {q : Cps} (hv : DV M.D q.cs q.gs q.ds q.ws) (hA : AWV M.aw q.av)
include hr hv hA
theorem c_ask (set : Int) : ap Tryz.prog pol 47 [.agg (mcl M q),I set] = some (.ret (I (ASK M set))):=by
  have ck:=c_mcheck (M:=M) hr hv hA
  rw [ap_eq _ Tryz.func47 rfl Tryz.ntmps47 Tryz.results47 (by kernel_rfl) rfl (by exact Nat.le_of_ble_eq_true rfl)]
  by_cases h : MC M = 0
  rotate_left
  · have e : ASK M set = MC M:=by unfold ASK; rw [if_neg h]
    rw [e]
    simp (maxSteps:=999999) only [E0,seval,-Int.reduceNatCast',K1,hv.st,SAV hA,ck,h]
  have lo:=(MC_0 h).2.2.1
  have pw : (2 : Int) ^ M.os.length ≤ 4096 ∧ 1 ≤ (2 : Int) ^ M.os.length:=by
    have h1 : (2 : Nat) ^ M.os.length ≤ 2 ^ 12:=Nat.pow_le_pow_right (by decide) lo
    have h2 : 1 ≤ (2 : Nat) ^ M.os.length:=Nat.one_le_two_pow
    have h3 : ((2 ^ M.os.length : Nat) : Int) = (2 : Int) ^ M.os.length:=by simp
    omega
  have e1 : IntKind.i64.wrap (1 * 2 ^ min M.os.length IntKind.i64.bits) = 2 ^ M.os.length:=by
    rw [show min M.os.length IntKind.i64.bits = M.os.length by show min M.os.length 64 = _; omega,Int.one_mul,i64_in (by unfold I64; omega)]
  have cw:=c_wins set 0 (2 ^ M.os.length - 1)
  by_cases h2 : 0 ≤ set ∧ set ≤ 2 ^ M.os.length - 1
  · have e : ASK M set = 0:=by unfold ASK; rw [if_pos h,if_pos h2]
    rw [e]
    rw [decide_eq_true h2] at cw
    simp (maxSteps:=999999) only [E0,seval,-Int.reduceNatCast',K1,hv.st,SAV hA,ck,h,cw,List.length_map,Int.toNat_natCast,e1,(show ¬ (M.os.length : Int) < 0 by omega),(i64_in (x:=(2 : Int) ^ M.os.length - 1) (by unfold I64; omega))]
  · have e : ASK M set = 1:=by unfold ASK; rw [if_pos h,if_neg h2]
    rw [e]
    rw [decide_eq_false h2] at cw
    simp (maxSteps:=999999) only [E0,seval,-Int.reduceNatCast',K1,hv.st,SAV hA,ck,h,cw,List.length_map,Int.toNat_natCast,e1,(show ¬ (M.os.length : Int) < 0 by omega),(i64_in (x:=(2 : Int) ^ M.os.length - 1) (by unfold I64; omega))]
end
theorem all_I (l : List Int) : ((l.map I).all fun e => e.fits 1) = true:=List.all_eq_true.2 fun v hv => by
  obtain ⟨y,_,rfl⟩:=List.mem_map.1 hv
  rfl
structure CLN (l : List Int) (w : PV) (H H' : Heap) : Prop where
  fr : ∀ i < H.next + 1,H'.rows i = H.rows i
  nx : H.next < H'.next
  el : (l ≠ [] ∧ w = .gsl 1 (H.next + 1) l.length 0 l.length ∧ H'.rows (H.next + 1) = some (.gro 1 (l.map I) 0) ∧ H'.next = H.next + 2) ∨ (l = [] ∧ (w = .nils ∨ w = .vs 1 [] (some 0)))
theorem c_clone (l : List Int) (v : PV) (hl : l.length ≤ 1000) (hv : RVN l v) (H : Heap) (X : Option (CR × Heap)) (hX : callF G Tryz.prog pol 61 [v] H = X) :
    ∃ w H',X = some (.ret w,H') ∧ CLN l w H H':=by
  subst hX
  rw [callF_eq _ _ Tryz.func61 rfl Tryz.ntmps61 Tryz.results61 (by kernel_rfl) rfl (by exact Nat.le_of_ble_eq_true rfl)]
  rcases hv with ⟨hne,c,rfl⟩ | ⟨rfl,rfl | ⟨c,rfl⟩⟩
  · cases l with
    | nil => exact absurd rfl hne
    | cons a l =>
      have al:=all_I (a :: l)
      simp only [List.map_cons,List.length_cons] at al hl ⊢
      simp (maxSteps:=999999) only [E0,seval,-Int.reduceNatCast',NUM,al,or_self,List.length_map,Nat.zero_add,Nat.zero_le,(show l.length + 1 ≤ 67108864 by omega),(show l.length ≤ 67108863 by omega)]
      refine ⟨_,_,rfl,fun i hi => ?_,?_,.inl ⟨hne,rfl,?_,?_⟩⟩
      · simp (maxSteps:=999999) only [E0,seval,-Int.reduceNatCast',(show ¬ i = H.next + 1 by omega)]
      · simp (maxSteps:=999999) only [E0,seval,-Int.reduceNatCast']
        omega
      · simp (maxSteps:=999999) only [E0,seval,-Int.reduceNatCast',List.map_cons]
      · simp (maxSteps:=999999) only [E0,seval,-Int.reduceNatCast']
  · simp (maxSteps:=999999) only [E0,seval,-Int.reduceNatCast',NUM,or_self,Nat.zero_add,Nat.zero_le]
    refine ⟨_,_,rfl,fun i hi => rfl,?_,.inr ⟨rfl,.inl rfl⟩⟩
    simp (maxSteps:=999999) only [E0,seval,-Int.reduceNatCast']
    omega
  · simp (maxSteps:=999999) only [E0,seval,-Int.reduceNatCast',NUM,or_self,Nat.zero_add,Nat.zero_le]
    refine ⟨_,_,rfl,fun i hi => rfl,?_,.inr ⟨rfl,.inr rfl⟩⟩
    simp (maxSteps:=999999) only [E0,seval,-Int.reduceNatCast']
    omega
def CAP1 (x y : Int) (z : Rch) : Prop:=y ≤ x ∨ y ≤ z.cp
instance (x y : Int) (z : Rch) : Decidable (CAP1 x y z):=by unfold CAP1; infer_instance
def CAP (rs : List Rch) (a b : List Int) (n : Nat) : Prop:=∀ (i : Nat) (x y : Int) (z : Rch),i < n → a[i]? = some x → b[i]? = some y → rs[i]? = some z → CAP1 x y z
noncomputable instance (rs : List Rch) (a b : List Int) (n : Nat) : Decidable (CAP rs a b n):=Classical.propDecidable _
theorem CAP_succ {rs : List Rch} {a b : List Int} {n : Nat} {x y : Int} {z : Rch} (h : CAP rs a b n) (e1 : a[n]? = some x) (e2 : b[n]? = some y) (e3 : rs[n]? = some z) (g : CAP1 x y z) : CAP rs a b (n + 1):=by
  intro i x' y' z' hi h1 h2 h3
  by_cases hn : i = n
  · subst hn
    rw [e1] at h1; rw [e2] at h2; rw [e3] at h3
    cases h1; cases h2; cases h3
    exact g
  · exact h i x' y' z' (by omega) h1 h2 h3
section
variable {M : Mkt} {q : Cps} (hv : DV M.D q.cs q.gs q.ds q.ws) (hA : AWV M.aw q.av)
include hv hA
theorem c_cap1 (i : Nat) (x y : Int) (z : Rch) (e : M.D.rs[i]? = some z) : ap Tryz.prog pol 67 [I i,I x,I y,.rop (mcl M q)] = some (.ret (.bool (decide (CAP1 x y z)))):=by
  have hi:=(List.getElem?_eq_some_iff.1 e).1
  have e1:=map_get (f:=rch) e
  rw [ap_eq _ Tryz.func67 rfl Tryz.ntmps67 Tryz.results67 (by kernel_rfl) rfl (by exact Nat.le_of_ble_eq_true rfl)]
  by_cases h1 : y ≤ x
  · rw [decide_eq_true (show CAP1 x y z from .inl h1)]
    simp (maxSteps:=999999) only [E0,seval,-Int.reduceNatCast',NUM,h1]
  · by_cases h2 : y ≤ z.cp
    · rw [decide_eq_true (show CAP1 x y z from .inr h2)]
      simp (maxSteps:=999999) only [E0,seval,-Int.reduceNatCast',NUM,SAV hA,h1,h2,e1,List.length_map,Int.toNat_natCast,(show (0 : Int) ≤ i by omega),(show (i : Int) < M.D.rs.length by omega)]
    · rw [decide_eq_false (show ¬ CAP1 x y z from fun h => h.elim h1 h2)]
      simp (maxSteps:=999999) only [E0,seval,-Int.reduceNatCast',NUM,SAV hA,h1,h2,e1,List.length_map,Int.toNat_natCast,(show (0 : Int) ≤ i by omega),(show (i : Int) < M.D.rs.length by omega)]
theorem c_cap (a b : List Int) (c c' : Option Nat) (la : a.length = M.D.rs.length) (lb : b.length = M.D.rs.length) (lr : M.D.rs.length ≤ 64) : ap Tryz.prog pol 66 [.vs 1 (a.map I) c,.vs 1 (b.map I) c',.fn 67 [.rop (mcl M q)]] = some (.ret (.bool (decide (CAP M.D.rs a b M.D.rs.length)))):=by
  rw [ap_eq _ Tryz.func66 rfl Tryz.ntmps66 Tryz.results66 (by kernel_rfl) rfl (by exact Nat.le_of_ble_eq_true rfl)]
  simp (maxSteps:=999999) only [E0,seval,-Int.reduceNatCast',NUM,INTS]
  generalize hL : W _ (.loop _) _ = L
  obtain ⟨ex,s,rfl,hex,hd⟩:=loop_at hL (α:=Nat) (fun j => a.length - j)
    (fun s0 j s => j ≤ a.length ∧ CAP M.D.rs a b j ∧ s.tmps 10 = I j ∧ s.tmps 9 = I a.length ∧ s.tmps 0 = .vs 1 (a.map I) c ∧ s.tmps 1 = .vs 1 (b.map I) c' ∧ s.tmps 2 = .fn 67 [.rop (mcl M q)] ∧ s.defers = [] ∧ s.fid = 0)
    (fun s0 ex s => ((ex = .exit 0 ∧ CAP M.D.rs a b M.D.rs.length) ∨ (ex = .ret ∧ ¬ CAP M.D.rs a b M.D.rs.length ∧ s.tmps 6 = .bool false)) ∧ s.defers = []) 0
    (by simp (maxSteps:=999999) only [E0,seval,-Int.reduceNatCast']; exact ⟨by omega,fun i x y z h => absurd h (by omega),by simp⟩) (by
      rintro j s r hW ⟨hj,hc,h10,h9,h0,h1,h2,hd,hf⟩
      by_cases hp : j < a.length
      rotate_left
      · simp (maxSteps:=999999) only [E0,seval,-Int.reduceNatCast',h10,h9,hd,hf,(show ¬ (j : Int) < a.length by omega)] at hW
        subst hW
        have : j = a.length:=by omega
        subst this
        rw [la] at hc
        exact rd_exit ⟨.inl ⟨rfl,hc⟩,by simp (maxSteps:=999999) only [E0,seval,-Int.reduceNatCast',hd]⟩
      have e0 : a[j]? = some a[j]:=List.getElem?_eq_getElem hp
      have f0 : b[j]? = some (b[j]'(by omega)):=List.getElem?_eq_getElem _
      have z0 : M.D.rs[j]? = some (M.D.rs[j]'(by omega)):=List.getElem?_eq_getElem _
      have e1:=ints_get e0
      have f1:=ints_get f0
      generalize a[j] = x at *
      generalize (b[j]'(by omega)) = y at *
      generalize (M.D.rs[j]'(by omega)) = z at *
      have cf:=c_cap1 hv hA j x y z z0
      by_cases hx : CAP1 x y z
      · rw [decide_eq_true hx] at cf
        simp (maxSteps:=999999) only [E0,seval,-Int.reduceNatCast',K1,hv.st,SAV hA,cf,h10,h9,h0,h1,h2,hd,hf,e1,f1,List.length_map,Int.toNat_natCast,(show (j : Int) < a.length by omega),(show (j : Int) < b.length by omega),(show (0 : Int) ≤ j by omega),(i64_in (x:=(j : Int) + 1) (by unfold I64; omega))] at hW
        subst hW
        refine rd_next (j + 1) ?_ (show a.length - (j + 1) < a.length - j by omega)
        simp (maxSteps:=999999) only [E0,seval,-Int.reduceNatCast',h9,h0,h1,h2,hd]
        exact ⟨by omega,CAP_succ hc e0 f0 z0 hx,by simp⟩
      · rw [decide_eq_false hx] at cf
        simp (maxSteps:=999999) only [E0,seval,-Int.reduceNatCast',K1,hv.st,SAV hA,cf,h10,h9,h0,h1,h2,hd,hf,e1,f1,List.length_map,Int.toNat_natCast,(show (j : Int) < a.length by omega),(show (j : Int) < b.length by omega),(show (0 : Int) ≤ j by omega)] at hW
        subst hW
        exact rd_ret ⟨.inr ⟨rfl,fun g => hx (g j x y z (by omega) e0 f0 z0),by simp (maxSteps:=999999) only [E0,seval,-Int.reduceNatCast']⟩,by simp (maxSteps:=999999) only [E0,seval,-Int.reduceNatCast',hd]⟩)
  rcases hex with ⟨rfl,hg⟩ | ⟨rfl,hg,h6⟩
  · rw [decide_eq_true hg]; simp (maxSteps:=999999) only [E0,seval,-Int.reduceNatCast',hd]
  · rw [decide_eq_false hg]; simp (maxSteps:=999999) only [E0,seval,-Int.reduceNatCast',hd,h6]
end
end Go.Proofs.YtbmmbefgmhhciaaGreat
