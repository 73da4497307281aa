/-
  Markets and their settling (part 3).
-/
import Derived.Test.YtbmmbefgmhhciaaGreatGb
set_option linter.unusedSimpArgs false
set_option linter.unusedVariables false
set_option linter.unusedSectionVars false
namespace Go.Proofs.YtbmmbefgmhhciaaGreat
open Go GoV
set_option maxRecDepth 100000
namespace S
theorem and_mask (n : Nat) (h : n < 18446744073709551616) : IntKind.u64.wrap ((BitVec.ofInt IntKind.u64.bits (n : Int) &&& BitVec.ofInt IntKind.u64.bits 4294967295).toNat : Nat) = ((n % 4294967296 : Nat) : Int):=by
  have e : (BitVec.ofInt IntKind.u64.bits (n : Int) &&& BitVec.ofInt IntKind.u64.bits 4294967295).toNat = n % 4294967296:=by
    rw [BitVec.toNat_and]
    have e1 : (BitVec.ofInt IntKind.u64.bits (n : Int)).toNat = n:=by
      rw [BitVec.toNat_ofInt]; simp [IntKind.bits]; omega
    have e2 : (BitVec.ofInt IntKind.u64.bits 4294967295).toNat = 2 ^ 32 - 1:=by decide
    rw [e1,e2,Nat.and_two_pow_sub_one_eq_mod]
  rw [e,u64_in]
  unfold U64; omega
theorem or_add (a b s : Nat) (hb : b < 2 ^ s) (h : 2 ^ s * a + b < 18446744073709551616) : IntKind.u64.wrap ((BitVec.ofInt IntKind.u64.bits ((2 ^ s * a : Nat) : Int) ||| BitVec.ofInt IntKind.u64.bits (b : Int)).toNat : Nat) = ((2 ^ s * a + b : Nat) : Int):=by
  have e : (BitVec.ofInt IntKind.u64.bits ((2 ^ s * a : Nat) : Int) ||| BitVec.ofInt IntKind.u64.bits (b : Int)).toNat = 2 ^ s * a + b:=by
    rw [BitVec.toNat_or]
    have e1 : ∀ n : Nat,n < 18446744073709551616 → (BitVec.ofInt IntKind.u64.bits (n : Int)).toNat = n:=fun n hn => by
      rw [BitVec.toNat_ofInt]; simp [IntKind.bits]; omega
    rw [e1 _ (by omega),e1 _ (by omega),Nat.two_pow_add_eq_or_of_lt hb]
  rw [e,u64_in]
  unfold U64; omega
theorem shr_n (n : Nat) (k : Nat) (hk : k ≤ 64) : (n : Int).fdiv (2 ^ min k IntKind.u64.bits) = ((n / 2 ^ k : Nat) : Int):=by
  rw [shr_eq _ _ hk,Int.natCast_ediv,Int.natCast_pow]; rfl
theorem u64_n {n : Nat} (h : n < 18446744073709551616) : IntKind.u64.wrap (n : Int) = n:=u64_in (by unfold U64; omega)
theorem c_mul64 (x y : Nat) (hx : x < 18446744073709551616) (hy : y < 4294967296) : ap Tryz.prog pol 37 [U x,U y] = some (.ret (.tup [U ((x * y / 18446744073709551616 : Nat) : Int),U ((x * y % 18446744073709551616 : Nat) : Int)])):=by
  obtain ⟨x0,e0⟩ : ∃ x0,x0 = x % 4294967296:=⟨_,rfl⟩
  obtain ⟨x1,e1⟩ : ∃ x1,x1 = x / 4294967296:=⟨_,rfl⟩
  have m1:=and_mask x hx
  have m2:=and_mask y (by omega)
  have s1:=shr_n x 32 (by decide)
  have s2:=shr_n y 32 (by decide)
  rw [← e0] at m1
  rw [show x / 2 ^ 32 = x1 from e1.symm] at s1
  rw [show y % 4294967296 = y by omega] at m2
  rw [show y / 2 ^ 32 = 0 by omega] at s2
  have b0 : x0 * y < 18446744073709551616:=by
    have:=Nat.mul_le_mul (show x0 ≤ 4294967295 by omega) (show y ≤ 4294967295 by omega)
    omega
  have b1 : x1 * y ≤ 4294967295 * 4294967295:=Nat.mul_le_mul (show x1 ≤ 4294967295 by omega) (show y ≤ 4294967295 by omega)
  have mh:=mul_halves (x:=x) (y:=y) hy
  rw [← e0,← e1] at mh
  have w0:=shr_n (x0 * y) 32 (by decide)
  obtain ⟨p,hp⟩ : ∃ p,p = x0 * y:=⟨_,rfl⟩
  obtain ⟨q,hq⟩ : ∃ q,q = x1 * y:=⟨_,rfl⟩
  rw [← hp] at w0 b0 mh
  rw [← hq] at b1 mh
  obtain ⟨t,ht⟩ : ∃ t,t = q + p / 4294967296:=⟨_,rfl⟩
  have mt:=and_mask t (by omega)
  have st:=shr_n t 32 (by decide)
  have sz:=shr_n (t % 4294967296) 32 (by decide)
  rw [show t % 4294967296 / 2 ^ 32 = 0 by omega] at sz
  rw [ap_eq _ Tryz.func37 rfl Tryz.ntmps37 Tryz.results37 (by kernel_rfl) rfl (by exact Nat.le_of_ble_eq_true rfl)]
  simp (maxSteps:=999999) only [E0,seval,-Int.reduceNatCast',NUM,m1,m2,s1,s2,(show (32 : Int).toNat = 32 from rfl),(show (x0 : Int) * y = (p : Int) by rw [hp]; simp),(show (x1 : Int) * y = (q : Int) by rw [hq]; simp),u64_n b0,u64_n (n:=q) (by omega),w0,(show (q : Int) + ((p / 2 ^ 32 : Nat) : Int) = (t : Int) by rw [ht]; rfl),u64_n (n:=t) (by omega),mt,st,sz,Int.natCast_zero,Int.mul_zero,Int.add_zero,Int.zero_add,(show IntKind.u64.wrap 0 = 0 from rfl),u64_n (n:=t % 4294967296) (by omega),u64_n (n:=t / 2 ^ 32) (by omega),(show (x : Int) * y = ((x * y : Nat) : Int) by simp)]
  rw [wrap_u64,← mh,ht]
  rfl
theorem c_lz (y : Nat) (h : 0 < y ∧ y < 18446744073709551616) : ∃ s : Nat,ap Tryz.prog pol 56 [U y] = some (.ret (I s)) ∧ s ≤ 63 ∧ y * 2 ^ s < 18446744073709551616 ∧ 9223372036854775808 ≤ y * 2 ^ s:=by
  obtain ⟨k,ck,k1,k2⟩:=c_len64 y h
  have hk : k ≤ 64:=by
    rcases Nat.lt_or_ge 64 k with h' | h'
    · have : 2 ^ 65 ≤ 2 ^ k:=Nat.pow_le_pow_right (by decide) h'
      omega
    · exact h'
  have hk0 : 1 ≤ k:=by
    rcases Nat.eq_zero_or_pos k with rfl | h'
    · omega
    · exact h'
  have e : 2 ^ k * 2 ^ (64 - k) = 18446744073709551616:=by rw [← Nat.pow_add,show k + (64 - k) = 64 by omega]
  have a1:=Nat.mul_lt_mul_of_pos_right k1 (Nat.pow_pos (n:=64 - k) (show 0 < 2 by decide))
  have a2:=Nat.mul_le_mul_right (2 ^ (64 - k)) k2
  rw [Nat.mul_assoc] at a2
  refine ⟨64 - k,?_,by omega,by omega,by omega⟩
  rw [ap_eq _ Tryz.func56 rfl Tryz.ntmps56 Tryz.results56 (by kernel_rfl) rfl (by exact Nat.le_of_ble_eq_true rfl)]
  simp (maxSteps:=999999) only [E0,seval,-Int.reduceNatCast',NUM,ck,i64_in (x:=((64 - k : Nat) : Int)) (by unfold I64; omega),(show (64 : Int) - k = ((64 - k : Nat) : Int) by omega)]
end S
namespace S
set_option maxHeartbeats 2000000 in
theorem c_div64 (hi lo y : Nat) (hh : hi < y) (hl : lo < 18446744073709551616) (hy : y < 18446744073709551616) : ap Tryz.prog pol 38 [U hi,U lo,U y] =
    some (.ret (.tup [U ((hi * 18446744073709551616 + lo) / y : Nat),U ((hi * 18446744073709551616 + lo) % y : Nat)])):=by
  by_cases h0 : hi = 0
  · subst h0
    rw [Nat.zero_mul,Nat.zero_add]
    have t1 : (lo : Int).tdiv y = ((lo / y : Nat) : Int):=by rw [Int.tdiv_eq_ediv_of_nonneg (by omega)]; simp
    have t2 : (lo : Int).tmod y = ((lo % y : Nat) : Int):=by rw [Int.tmod_eq_emod_of_nonneg (by omega)]; simp
    have l1:=Nat.div_le_self lo y
    rw [ap_eq _ Tryz.func38 rfl Tryz.ntmps38 Tryz.results38 (by kernel_rfl) rfl (by exact Nat.le_of_ble_eq_true rfl)]
    simp (maxSteps:=999999) only [E0,seval,-Int.reduceNatCast',NUM,(show ¬ (y : Int) = 0 by omega),(show ¬ (y : Int) ≤ (0 : Nat) by omega),Int.natCast_zero,(show ¬ (y : Int) ≤ 0 by omega),t1,t2,u64_n (n:=lo / y) (by omega)]
  obtain ⟨sh,cs,s63,v1,v2⟩:=c_lz y (by omega)
  obtain ⟨k,hk⟩ : ∃ k,sh + k = 64:=⟨64 - sh,by omega⟩
  obtain ⟨e1,e2,e3⟩:=kd_up hk hh hl v1
  obtain ⟨v,hv⟩ : ∃ v,v = y * 2 ^ sh:=⟨_,rfl⟩
  have cv : (y : Int) * 2 ^ min sh IntKind.u64.bits = (v : Int):=by rw [hv,show min sh IntKind.u64.bits = sh by simp [IntKind.bits]; omega]; simp
  rw [← hv] at v1 v2 e2
  have chi : (hi : Int) * 2 ^ min sh IntKind.u64.bits = ((2 ^ sh * hi : Nat) : Int):=by rw [show min sh IntKind.u64.bits = sh by simp [IntKind.bits]; omega,Nat.mul_comm]; simp
  have clo : (lo : Int) * 2 ^ min sh IntKind.u64.bits = ((lo * 2 ^ sh : Nat) : Int):=by rw [show min sh IntKind.u64.bits = sh by simp [IntKind.bits]; omega]; simp
  have clk:=shr_n lo k (by omega)
  obtain ⟨l,hlk⟩ : ∃ l,l = lo / 2 ^ k:=⟨_,rfl⟩
  rw [← hlk] at clk e1 e2 e3
  have cor:=or_add hi l sh e3 (by rw [Nat.mul_comm]; omega)
  obtain ⟨u,hu⟩ : ∃ u,u = 2 ^ sh * hi + l:=⟨_,rfl⟩
  rw [← hu] at cor
  rw [show hi * 2 ^ sh + l = u by rw [hu,Nat.mul_comm]] at e1 e2
  have u10w : IntKind.u64.wrap ((lo * 2 ^ sh : Nat) : Int) = ((lo * 2 ^ sh % 18446744073709551616 : Nat) : Int):=by rw [wrap_u64,Int.natCast_emod]; rfl
  obtain ⟨u10,hu10⟩ : ∃ u10,u10 = lo * 2 ^ sh % 18446744073709551616:=⟨_,rfl⟩
  rw [← hu10] at u10w e1
  obtain ⟨h2,hh2⟩ : ∃ h2,h2 = 2 ^ sh * hi:=⟨_,rfl⟩
  rw [← hh2] at chi cor hu
  have l10 : u10 < 18446744073709551616:=by omega
  have su1:=shr_n u10 32 (by decide)
  have su0:=and_mask u10 l10
  obtain ⟨u1,hu1⟩ : ∃ u1,u1 = u10 / 4294967296:=⟨_,rfl⟩
  obtain ⟨u0,hu0⟩ : ∃ u0,u0 = u10 % 4294967296:=⟨_,rfl⟩
  rw [show u10 / 2 ^ 32 = u1 from hu1.symm] at su1
  rw [← hu0] at su0
  have sa:=shr_n v 32 (by decide)
  have sb:=and_mask v v1
  obtain ⟨a,ha⟩ : ∃ a,a = v / 4294967296:=⟨_,rfl⟩
  obtain ⟨b,hb⟩ : ∃ b,b = v % 4294967296:=⟨_,rfl⟩
  rw [show v / 2 ^ 32 = a from ha.symm] at sa
  rw [← hb] at sb
  have hab : v = a * 4294967296 + b:=by omega
  have hb32 : b < 4294967296:=by omega
  have a0 : 0 < a:=by omega
  have a32 : a < 4294967296:=by omega
  have huL : u < v:=e2
  have hu1L : u1 < 4294967296:=by omega
  have hu1M : u0 < 4294967296:=by omega
  have tq : ∀ n : Nat,(n : Int).tdiv a = ((n / a : Nat) : Int):=fun n => by rw [Int.tdiv_eq_ediv_of_nonneg (by omega)]; simp
  have rq : ∀ n : Nat,n < 18446744073709551616 → IntKind.u64.wrap (((n / a : Nat) : Int) * a) = ((n / a * a : Nat) : Int) ∧ IntKind.u64.wrap ((n : Int) - ((n / a * a : Nat) : Int)) = ((n % a : Nat) : Int):=fun n hn => by
    have h1:=Nat.div_mul_le_self n a
    have h2:=Nat.mod_add_div n a
    rw [Nat.mul_comm] at h2
    refine ⟨by rw [← Int.natCast_mul]; exact u64_n (by omega),?_⟩
    rw [show (n : Int) - ((n / a * a : Nat) : Int) = ((n % a : Nat) : Int) by omega]
    exact u64_n (by have:=Nat.mod_lt n a0; omega)
  obtain ⟨r1,r2⟩:=rq u (by omega)
  have dl1:=Nat.div_le_self u a
  rw [ap_eq _ Tryz.func38 rfl Tryz.ntmps38 Tryz.results38 (by kernel_rfl) rfl (by exact Nat.le_of_ble_eq_true rfl)]
  simp (maxSteps:=999999) only [E0,seval,-Int.reduceNatCast',NUM,cs,cv,chi,clo,clk,cor,u10w,su1,su0,sa,sb,tq,r1,r2,(show ¬ (y : Int) = 0 by omega),(show ¬ (y : Int) ≤ hi by omega),(show ¬ (hi : Int) = 0 by omega),Int.toNat_natCast,u64_n (n:=sh) (by omega),u64_n (n:=v) v1,u64_n (n:=h2) (by omega),(show (64 : Int) - sh = (k : Int) by omega),u64_n (n:=k) (by omega),(show ¬ (sh : Int) < 0 by omega),(show ¬ (k : Int) < 0 by omega),(show ¬ (a : Int) = 0 by omega),(show (32 : Int).toNat = 32 from rfl),u64_n (n:=u / a) (by omega)]
  generalize hL : W _ (.loop _) _ = L
  obtain ⟨ex,s,rfl,rfl,h15,h2,h8,h9,h10,h11,h13,h14,hd,hf⟩:=loop_at hL (α:=Nat × Nat) (fun p => p.1)
    (fun s0 p s => p.1 * a + p.2 = u ∧ (u * 4294967296 + u1) / v ≤ p.1 ∧ p.2 < 4294967296 ∧ p.1 < 18446744073709551616 ∧ s.tmps 15 = U p.1 ∧ s.tmps 16 = U p.2 ∧ s.tmps 2 = U v ∧ s.tmps 8 = U sh ∧ s.tmps 9 = U a ∧ s.tmps 10 = U b ∧ s.tmps 11 = U u ∧ s.tmps 13 = U u1 ∧ s.tmps 14 = U u0 ∧ s.defers = [] ∧ s.fid = 0)
    (fun s0 ex s => ex = .exit 0 ∧ s.tmps 15 = U ((u * 4294967296 + u1) / v : Nat) ∧ s.tmps 2 = U v ∧ s.tmps 8 = U sh ∧ s.tmps 9 = U a ∧ s.tmps 10 = U b ∧ s.tmps 11 = U u ∧ s.tmps 13 = U u1 ∧ s.tmps 14 = U u0 ∧ s.defers = [] ∧ s.fid = 0) (u / a,u % a)
    (by simp (maxSteps:=999999) only [E0,seval,-Int.reduceNatCast']
        refine ⟨by rw [Nat.mul_comm]; exact Nat.div_add_mod u a,kd_first hab a0 hu1L,by have:=Nat.mod_lt u a0; omega,by omega⟩) (by
      rintro ⟨q,rh⟩ s r hW ⟨he,hq,hr,hq64,hq0,h16,h2,h8,h9,h10,h11,h13,h14,hd,hf⟩
      dsimp only at he hq hr hq64 hq0 h16
      by_cases hc1 : 4294967296 ≤ q
      · obtain ⟨g1,g2⟩:=kd_less hab hb32 huL hu1L he (.inl hc1) hq
        have he' : (q - 1) * a + (rh + a) = u:=by rw [Nat.sub_mul,Nat.one_mul]; have:=Nat.mul_le_mul_right a g1; omega
        by_cases hov : 4294967296 ≤ rh + a
        · simp (maxSteps:=999999) only [E0,seval,-Int.reduceNatCast',NUM,hq0,h16,h2,h8,h9,h10,h11,h13,h14,hd,hf,(show (4294967296 : Int) ≤ q by omega),(show (q : Int) - 1 = ((q - 1 : Nat) : Int) by omega),u64_n (n:=q - 1) (by omega),(show (rh : Int) + a = ((rh + a : Nat) : Int) by omega),u64_n (n:=rh + a) (by omega),(show (4294967296 : Int) ≤ ((rh + a : Nat) : Int) by omega)] at hW
          subst hW
          have:=kd_over hab hb32 huL he' hov g2
          refine rd_exit ⟨rfl,?_⟩
          simp (maxSteps:=999999) only [E0,seval,-Int.reduceNatCast',h2,h8,h9,h10,h11,h13,h14,hd,hf,this]
        · simp (maxSteps:=999999) only [E0,seval,-Int.reduceNatCast',NUM,hq0,h16,h2,h8,h9,h10,h11,h13,h14,hd,hf,(show (4294967296 : Int) ≤ q by omega),(show (q : Int) - 1 = ((q - 1 : Nat) : Int) by omega),u64_n (n:=q - 1) (by omega),(show (rh : Int) + a = ((rh + a : Nat) : Int) by omega),u64_n (n:=rh + a) (by omega),(show ¬ (4294967296 : Int) ≤ ((rh + a : Nat) : Int) by omega)] at hW
          subst hW
          refine rd_next (q - 1,rh + a) ?_ (show q - 1 < q by omega)
          simp (maxSteps:=999999) only [E0,seval,-Int.reduceNatCast',h2,h8,h9,h10,h11,h13,h14,hd,hf]
          exact ⟨he',g2,by omega,by omega⟩
      have b1 : q * b ≤ 4294967295 * 4294967295:=Nat.mul_le_mul (by omega) (by omega)
      obtain ⟨w,hw⟩ : ∃ w,w = q * b:=⟨_,rfl⟩
      have hwc : (q : Int) * b = w:=by rw [hw]; simp
      rw [← hw] at b1
      by_cases hc2 : 4294967296 * rh + u1 < w
      · obtain ⟨g1,g2⟩:=kd_less hab hb32 huL hu1L he (.inr (by rw [← hw]; exact hc2)) hq
        have he' : (q - 1) * a + (rh + a) = u:=by rw [Nat.sub_mul,Nat.one_mul]; have:=Nat.mul_le_mul_right a g1; omega
        by_cases hov : 4294967296 ≤ rh + a
        · simp (maxSteps:=999999) only [E0,seval,-Int.reduceNatCast',NUM,hq0,h16,h2,h8,h9,h10,h11,h13,h14,hd,hf,(show ¬ (4294967296 : Int) ≤ q by omega),hwc,u64_n (n:=w) (by omega),(show (4294967296 : Int) * rh = ((4294967296 * rh : Nat) : Int) by omega),u64_n (n:=4294967296 * rh) (by omega),(show ((4294967296 * rh : Nat) : Int) + u1 = ((4294967296 * rh + u1 : Nat) : Int) by omega),u64_n (n:=4294967296 * rh + u1) (by omega),(show ((4294967296 * rh + u1 : Nat) : Int) < w by omega),(show (q : Int) - 1 = ((q - 1 : Nat) : Int) by omega),u64_n (n:=q - 1) (by omega),(show (rh : Int) + a = ((rh + a : Nat) : Int) by omega),u64_n (n:=rh + a) (by omega),(show (4294967296 : Int) ≤ ((rh + a : Nat) : Int) by omega)] at hW
          subst hW
          have:=kd_over hab hb32 huL he' hov g2
          refine rd_exit ⟨rfl,?_⟩
          simp (maxSteps:=999999) only [E0,seval,-Int.reduceNatCast',h2,h8,h9,h10,h11,h13,h14,hd,hf,this]
        · simp (maxSteps:=999999) only [E0,seval,-Int.reduceNatCast',NUM,hq0,h16,h2,h8,h9,h10,h11,h13,h14,hd,hf,(show ¬ (4294967296 : Int) ≤ q by omega),hwc,u64_n (n:=w) (by omega),(show (4294967296 : Int) * rh = ((4294967296 * rh : Nat) : Int) by omega),u64_n (n:=4294967296 * rh) (by omega),(show ((4294967296 * rh : Nat) : Int) + u1 = ((4294967296 * rh + u1 : Nat) : Int) by omega),u64_n (n:=4294967296 * rh + u1) (by omega),(show ((4294967296 * rh + u1 : Nat) : Int) < w by omega),(show (q : Int) - 1 = ((q - 1 : Nat) : Int) by omega),u64_n (n:=q - 1) (by omega),(show (rh : Int) + a = ((rh + a : Nat) : Int) by omega),u64_n (n:=rh + a) (by omega),(show ¬ (4294967296 : Int) ≤ ((rh + a : Nat) : Int) by omega)] at hW
          subst hW
          refine rd_next (q - 1,rh + a) ?_ (show q - 1 < q by omega)
          simp (maxSteps:=999999) only [E0,seval,-Int.reduceNatCast',h2,h8,h9,h10,h11,h13,h14,hd,hf]
          exact ⟨he',g2,by omega,by omega⟩
      · simp (maxSteps:=999999) only [E0,seval,-Int.reduceNatCast',NUM,hq0,h16,h2,h8,h9,h10,h11,h13,h14,hd,hf,(show ¬ (4294967296 : Int) ≤ q by omega),hwc,u64_n (n:=w) (by omega),(show (4294967296 : Int) * rh = ((4294967296 * rh : Nat) : Int) by omega),u64_n (n:=4294967296 * rh) (by omega),(show ((4294967296 * rh : Nat) : Int) + u1 = ((4294967296 * rh + u1 : Nat) : Int) by omega),u64_n (n:=4294967296 * rh + u1) (by omega),(show ¬ ((4294967296 * rh + u1 : Nat) : Int) < w by omega)] at hW
        subst hW
        have:=kd_done hab huL he (by rw [← hw]; omega) hq
        refine rd_exit ⟨rfl,?_⟩
        simp (maxSteps:=999999) only [E0,seval,-Int.reduceNatCast',h2,h8,h9,h10,h11,h13,h14,hd,hf,← this,hq0])
  have dm1:=Nat.div_add_mod (u * 4294967296 + u1) v
  have md1:=Nat.mod_lt (u * 4294967296 + u1) (show 0 < v by omega)
  have lt1:=kd_lt huL hu1L
  obtain ⟨d1,hd1⟩ : ∃ d1,d1 = (u * 4294967296 + u1) / v:=⟨_,rfl⟩
  obtain ⟨u2,hu2⟩ : ∃ u2,u2 = (u * 4294967296 + u1) % v:=⟨_,rfl⟩
  rw [← hd1] at h15 dm1 lt1
  rw [← hu2] at dm1 md1
  have w2 : IntKind.u64.wrap (IntKind.u64.wrap (IntKind.u64.wrap ((u : Int) * 4294967296) + u1) - IntKind.u64.wrap ((d1 : Int) * v)) = (u2 : Int):=by
    have : (d1 : Int) * v = ((v * d1 : Nat) : Int):=by rw [Nat.mul_comm]; simp
    rw [this]
    generalize v * d1 = z at *
    simp only [wrap_u64]
    omega
  have huM : u2 < v:=md1
  obtain ⟨r1',r2'⟩:=rq u2 (by omega)
  have dl2:=Nat.div_le_self u2 a
  simp (maxSteps:=999999) only [E0,seval,-Int.reduceNatCast',NUM,h2,h8,h9,h10,h11,h13,h14,h15,hd,hf,w2,tq,r1',r2',(show ¬ (a : Int) = 0 by omega),u64_n (n:=u2 / a) (by omega)]
  generalize hM : W _ (.loop _) _ = M
  obtain ⟨ex,s,rfl,rfl,h18,h2,h8,h9,h10,h14,h15,h17,hd,hf⟩:=loop_at hM (α:=Nat × Nat) (fun p => p.1)
    (fun s0 p s => p.1 * a + p.2 = u2 ∧ (u2 * 4294967296 + u0) / v ≤ p.1 ∧ p.2 < 4294967296 ∧ p.1 < 18446744073709551616 ∧ s.tmps 18 = U p.1 ∧ s.tmps 16 = U p.2 ∧ s.tmps 2 = U v ∧ s.tmps 8 = U sh ∧ s.tmps 9 = U a ∧ s.tmps 10 = U b ∧ s.tmps 14 = U u0 ∧ s.tmps 15 = U d1 ∧ s.tmps 17 = U u2 ∧ s.defers = [] ∧ s.fid = 0)
    (fun s0 ex s => ex = .exit 2 ∧ s.tmps 18 = U ((u2 * 4294967296 + u0) / v : Nat) ∧ s.tmps 2 = U v ∧ s.tmps 8 = U sh ∧ s.tmps 9 = U a ∧ s.tmps 10 = U b ∧ s.tmps 14 = U u0 ∧ s.tmps 15 = U d1 ∧ s.tmps 17 = U u2 ∧ s.defers = [] ∧ s.fid = 0) (u2 / a,u2 % a)
    (by simp (maxSteps:=999999) only [E0,seval,-Int.reduceNatCast',h2,h8,h9,h10,h14,h15,hd,hf]
        refine ⟨by rw [Nat.mul_comm]; exact Nat.div_add_mod u2 a,kd_first hab a0 hu1M,by have:=Nat.mod_lt u2 a0; omega,by omega⟩) (by
      rintro ⟨q,rh⟩ s r hW ⟨he,hq,hr,hq64,hq0,h16,h2,h8,h9,h10,h14,h15,h17,hd,hf⟩
      dsimp only at he hq hr hq64 hq0 h16
      by_cases hc1 : 4294967296 ≤ q
      · obtain ⟨g1,g2⟩:=kd_less hab hb32 huM hu1M he (.inl hc1) hq
        have he' : (q - 1) * a + (rh + a) = u2:=by rw [Nat.sub_mul,Nat.one_mul]; have:=Nat.mul_le_mul_right a g1; omega
        by_cases hov : 4294967296 ≤ rh + a
        · simp (maxSteps:=999999) only [E0,seval,-Int.reduceNatCast',NUM,hq0,h16,h2,h8,h9,h10,h14,h15,h17,hd,hf,(show (4294967296 : Int) ≤ q by omega),(show (q : Int) - 1 = ((q - 1 : Nat) : Int) by omega),u64_n (n:=q - 1) (by omega),(show (rh : Int) + a = ((rh + a : Nat) : Int) by omega),u64_n (n:=rh + a) (by omega),(show (4294967296 : Int) ≤ ((rh + a : Nat) : Int) by omega)] at hW
          subst hW
          have:=kd_over hab hb32 huM he' hov g2
          refine rd_exit ⟨rfl,?_⟩
          simp (maxSteps:=999999) only [E0,seval,-Int.reduceNatCast',h2,h8,h9,h10,h14,h15,h17,hd,hf,this]
        · simp (maxSteps:=999999) only [E0,seval,-Int.reduceNatCast',NUM,hq0,h16,h2,h8,h9,h10,h14,h15,h17,hd,hf,(show (4294967296 : Int) ≤ q by omega),(show (q : Int) - 1 = ((q - 1 : Nat) : Int) by omega),u64_n (n:=q - 1) (by omega),(show (rh : Int) + a = ((rh + a : Nat) : Int) by omega),u64_n (n:=rh + a) (by omega),(show ¬ (4294967296 : Int) ≤ ((rh + a : Nat) : Int) by omega)] at hW
          subst hW
          refine rd_next (q - 1,rh + a) ?_ (show q - 1 < q by omega)
          simp (maxSteps:=999999) only [E0,seval,-Int.reduceNatCast',h2,h8,h9,h10,h14,h15,h17,hd,hf]
          exact ⟨he',g2,by omega,by omega⟩
      have b1 : q * b ≤ 4294967295 * 4294967295:=Nat.mul_le_mul (by omega) (by omega)
      obtain ⟨w,hw⟩ : ∃ w,w = q * b:=⟨_,rfl⟩
      have hwc : (q : Int) * b = w:=by rw [hw]; simp
      rw [← hw] at b1
      by_cases hc2 : 4294967296 * rh + u0 < w
      · obtain ⟨g1,g2⟩:=kd_less hab hb32 huM hu1M he (.inr (by rw [← hw]; exact hc2)) hq
        have he' : (q - 1) * a + (rh + a) = u2:=by rw [Nat.sub_mul,Nat.one_mul]; have:=Nat.mul_le_mul_right a g1; omega
        by_cases hov : 4294967296 ≤ rh + a
        · simp (maxSteps:=999999) only [E0,seval,-Int.reduceNatCast',NUM,hq0,h16,h2,h8,h9,h10,h14,h15,h17,hd,hf,(show ¬ (4294967296 : Int) ≤ q by omega),hwc,u64_n (n:=w) (by omega),(show (4294967296 : Int) * rh = ((4294967296 * rh : Nat) : Int) by omega),u64_n (n:=4294967296 * rh) (by omega),(show ((4294967296 * rh : Nat) : Int) + u0 = ((4294967296 * rh + u0 : Nat) : Int) by omega),u64_n (n:=4294967296 * rh + u0) (by omega),(show ((4294967296 * rh + u0 : Nat) : Int) < w by omega),(show (q : Int) - 1 = ((q - 1 : Nat) : Int) by omega),u64_n (n:=q - 1) (by omega),(show (rh : Int) + a = ((rh + a : Nat) : Int) by omega),u64_n (n:=rh + a) (by omega),(show (4294967296 : Int) ≤ ((rh + a : Nat) : Int) by omega)] at hW
          subst hW
          have:=kd_over hab hb32 huM he' hov g2
          refine rd_exit ⟨rfl,?_⟩
          simp (maxSteps:=999999) only [E0,seval,-Int.reduceNatCast',h2,h8,h9,h10,h14,h15,h17,hd,hf,this]
        · simp (maxSteps:=999999) only [E0,seval,-Int.reduceNatCast',NUM,hq0,h16,h2,h8,h9,h10,h14,h15,h17,hd,hf,(show ¬ (4294967296 : Int) ≤ q by omega),hwc,u64_n (n:=w) (by omega),(show (4294967296 : Int) * rh = ((4294967296 * rh : Nat) : Int) by omega),u64_n (n:=4294967296 * rh) (by omega),(show ((4294967296 * rh : Nat) : Int) + u0 = ((4294967296 * rh + u0 : Nat) : Int) by omega),u64_n (n:=4294967296 * rh + u0) (by omega),(show ((4294967296 * rh + u0 : Nat) : Int) < w by omega),(show (q : Int) - 1 = ((q - 1 : Nat) : Int) by omega),u64_n (n:=q - 1) (by omega),(show (rh : Int) + a = ((rh + a : Nat) : Int) by omega),u64_n (n:=rh + a) (by omega),(show ¬ (4294967296 : Int) ≤ ((rh + a : Nat) : Int) by omega)] at hW
          subst hW
          refine rd_next (q - 1,rh + a) ?_ (show q - 1 < q by omega)
          simp (maxSteps:=999999) only [E0,seval,-Int.reduceNatCast',h2,h8,h9,h10,h14,h15,h17,hd,hf]
          exact ⟨he',g2,by omega,by omega⟩
      · simp (maxSteps:=999999) only [E0,seval,-Int.reduceNatCast',NUM,hq0,h16,h2,h8,h9,h10,h14,h15,h17,hd,hf,(show ¬ (4294967296 : Int) ≤ q by omega),hwc,u64_n (n:=w) (by omega),(show (4294967296 : Int) * rh = ((4294967296 * rh : Nat) : Int) by omega),u64_n (n:=4294967296 * rh) (by omega),(show ((4294967296 * rh : Nat) : Int) + u0 = ((4294967296 * rh + u0 : Nat) : Int) by omega),u64_n (n:=4294967296 * rh + u0) (by omega),(show ¬ ((4294967296 * rh + u0 : Nat) : Int) < w by omega)] at hW
        subst hW
        have:=kd_done hab huM he (by rw [← hw]; omega) hq
        refine rd_exit ⟨rfl,?_⟩
        simp (maxSteps:=999999) only [E0,seval,-Int.reduceNatCast',h2,h8,h9,h10,h14,h15,h17,hd,hf,← this,hq0])
  have dm2:=Nat.div_add_mod (u2 * 4294967296 + u0) v
  have md2:=Nat.mod_lt (u2 * 4294967296 + u0) (show 0 < v by omega)
  have lt2:=kd_lt huM hu1M
  obtain ⟨d0,hd0⟩ : ∃ d0,d0 = (u2 * 4294967296 + u0) / v:=⟨_,rfl⟩
  obtain ⟨u3,hu3⟩ : ∃ u3,u3 = (u2 * 4294967296 + u0) % v:=⟨_,rfl⟩
  rw [← hd0] at h18 dm2 lt2
  rw [← hu3] at dm2 md2
  have w3 : IntKind.u64.wrap (IntKind.u64.wrap (IntKind.u64.wrap ((u2 : Int) * 4294967296) + u0) - IntKind.u64.wrap ((d0 : Int) * v)) = (u3 : Int):=by
    have : (d0 : Int) * v = ((v * d0 : Nat) : Int):=by rw [Nat.mul_comm]; simp
    rw [this]
    generalize v * d0 = z at *
    simp only [wrap_u64]
    omega
  obtain ⟨f1,f2⟩:=kd_two (A:=u * 4294967296 + u1) (u0:=u0) hv (by omega) (by rw [e1,hu1,hu0]; omega) dm1 dm2 md2
  have w4 : IntKind.u64.wrap (IntKind.u64.wrap ((d1 : Int) * 4294967296) + d0) = ((d1 * 4294967296 + d0 : Nat) : Int):=by
    simp only [wrap_u64]
    omega
  simp (maxSteps:=999999) only [E0,seval,-Int.reduceNatCast',NUM,h2,h8,h9,h10,h14,h15,h17,h18,hd,hf,w3,w4,Int.toNat_natCast,(show ¬ (sh : Int) < 0 by omega),shr_n u3 sh (by omega),f1,f2]
end S
namespace S
def SUMI : List Int → Int
  | [] => 0
  | x :: l => x + SUMI l
theorem SUMI_app : ∀ (l m : List Int),SUMI (l ++ m) = SUMI l + SUMI m
  | [],m => by simp [SUMI]
  | x :: l,m => by simp only [List.cons_append,SUMI,SUMI_app l m]; omega
theorem SUMI_take {l : List Int} {j : Nat} {x : Int} (e : l[j]? = some x) : SUMI (l.take (j + 1)) = SUMI (l.take j) + x:=by
  rw [List.take_add_one,e,SUMI_app]; simp [SUMI]
theorem SUMI_bounds {a b : Int} : ∀ (l : List Int),(∀ x ∈ l,a ≤ x ∧ x ≤ b) → a * l.length ≤ SUMI l ∧ SUMI l ≤ b * l.length
  | [],_ => by simp [SUMI]
  | x :: l,h => by
    have h1:=SUMI_bounds l (fun y hy => h y (by simp [hy]))
    have h2:=h x (by simp)
    simp only [SUMI,List.length_cons,Int.natCast_add,Int.mul_add,Int.natCast_one,Int.mul_one]
    omega
theorem SUMI_perm {l m : List Int} (h : l.Perm m) : SUMI l = SUMI m:=by
  induction h with
  | nil => rfl
  | cons x _ ih => simp only [SUMI,ih]
  | swap x y l => simp only [SUMI]; omega
  | trans _ _ h1 h2 => exact h1.trans h2
theorem SUMI_set : ∀ (l : List Int) (k : Nat) (x y : Int),l[k]? = some x → SUMI (l.set k y) = SUMI l - x + y
  | [],k,_,_,h => by simp at h
  | z :: l,0,x,y,h => by simp at h; subst h; simp only [List.set_cons_zero,SUMI]; omega
  | z :: l,k + 1,x,y,h => by
    have:=SUMI_set l k x y (by simpa using h)
    simp only [List.set_cons_succ,SUMI,this]; omega
def SHQ (T S : Int) (w : List Int) : List Int:=w.map fun x => T * x / S
def QUOF (T S : Int) : Nat → List Int → List Qu
  | _,[] => []
  | i,x :: l => ⟨i,T * x % S⟩ :: QUOF T S (i + 1) l
def QUO (T S : Int) (w : List Int) : List Qu:=QUOF T S 0 w
theorem QUOF_app (T S : Int) : ∀ (i : Nat) (a b : List Int),QUOF T S i (a ++ b) = QUOF T S i a ++ QUOF T S (i + a.length) b
  | i,[],b => by simp [QUOF]
  | i,x :: a,b => by
    simp only [List.cons_append,QUOF,QUOF_app T S (i + 1) a b,List.length_cons]
    rw [show i + 1 + a.length = i + (a.length + 1) by omega]
theorem QUO_take {T S : Int} {w : List Int} {j : Nat} {x : Int} (e : w[j]? = some x) : QUO T S (w.take (j + 1)) = QUO T S (w.take j) ++ [⟨j,T * x % S⟩]:=by
  have hj:=(List.getElem?_eq_some_iff.1 e).1
  rw [List.take_add_one,e,QUO,QUOF_app]
  simp [QUOF,QUO,Nat.min_eq_left (Nat.le_of_lt hj)]
theorem QUOF_len (T S : Int) : ∀ (i : Nat) (w : List Int),(QUOF T S i w).length = w.length
  | _,[] => rfl
  | i,x :: l => by simp [QUOF,QUOF_len T S (i + 1) l]
theorem QUO_len (T S : Int) (w : List Int) : (QUO T S w).length = w.length:=QUOF_len T S 0 w
theorem QUOF_get (T S : Int) : ∀ (i : Nat) (w : List Int) (j : Nat),(QUOF T S i w)[j]? = (w[j]?).map fun x => ⟨(i + j : Nat),T * x % S⟩
  | _,[],_ => by simp [QUOF]
  | i,x :: l,0 => by simp [QUOF]
  | i,x :: l,j + 1 => by simp only [QUOF,List.getElem?_cons_succ,QUOF_get T S (i + 1) l j]; rw [show i + 1 + j = i + (j + 1) by omega]
theorem QUO_get (T S : Int) (w : List Int) (j : Nat) : (QUO T S w)[j]? = (w[j]?).map fun x => ⟨(j : Nat),T * x % S⟩:=by
  rw [QUO,QUOF_get,Nat.zero_add]
theorem QUO_mem {T S : Int} {w : List Int} {q : Qu} (h : q ∈ QUO T S w) : ∃ (j : Nat) (x : Int),w[j]? = some x ∧ q = ⟨j,T * x % S⟩:=by
  obtain ⟨j,e⟩:=List.mem_iff_getElem?.1 h
  rw [QUO_get] at e
  obtain ⟨x,e1,e2⟩:=Option.map_eq_some_iff.1 e
  exact ⟨j,x,e1,e2.symm⟩
theorem QS_unique {l m : List Qu} (h : l.Perm m) (hl : QS l) (hm : QS m) : l = m:=
  List.Perm.eq_of_pairwise (fun a b _ _ h1 h2 => absurd h2 h1.asymm) hl hm h
def BMP1 (q : List Int) (k : Int) : List Int:=q.set k.toNat (q.getD k.toNat 0 + 1)
def BMP (ks : List Int) (q : List Int) : List Int:=ks.foldl BMP1 q
theorem BMP1_len (q : List Int) (k : Int) : (BMP1 q k).length = q.length:=by simp [BMP1]
theorem BMP_len (ks q : List Int) : (BMP ks q).length = q.length:=by
  induction ks generalizing q with
  | nil => rfl
  | cons k ks ih => show (BMP ks (BMP1 q k)).length = _; rw [ih,BMP1_len]
theorem BMP_snoc (ks : List Int) (k : Int) (q : List Int) : BMP (ks ++ [k]) q = BMP1 (BMP ks q) k:=by simp [BMP]
theorem BMP_sum (q : List Int) : ∀ (ks : List Int),(∀ k ∈ ks,0 ≤ k ∧ k < q.length) → SUMI (BMP ks q) = SUMI q + ks.length:=by
  intro ks
  induction ks generalizing q with
  | nil => intro _; simp [BMP]
  | cons k ks ih =>
    intro h
    have hk:=h k (by simp)
    show SUMI (BMP ks (BMP1 q k)) = _
    rw [ih (BMP1 q k) (by rw [BMP1_len]; exact fun j hj => h j (by simp [hj]))]
    have e : q[k.toNat]? = some (q[k.toNat]'(by omega)):=List.getElem?_eq_getElem _
    have:=SUMI_set q k.toNat _ (q.getD k.toNat 0 + 1) e
    rw [BMP1,this,List.getD_eq_getElem?_getD,e]
    simp only [Option.getD_some,List.length_cons,Int.natCast_add,Int.natCast_one]
    omega
theorem BMP_get (i : Nat) (x : Int) : ∀ (ks : List Int) (q : List Int),ks.Nodup → (∀ k ∈ ks,0 ≤ k) → q[i]? = some x → (BMP ks q)[i]? = some (if (i : Int) ∈ ks then x + 1 else x)
  | [],q,_,_,e => by simpa [BMP] using e
  | k :: ks,q,hn,hk,e => by
    have hn':=List.nodup_cons.1 hn
    have k0:=hk k (by simp)
    have hi:=(List.getElem?_eq_some_iff.1 e).1
    show (BMP ks (BMP1 q k))[i]? = _
    by_cases h : k.toNat = i
    · have e1 : (BMP1 q k)[i]? = some (x + 1):=by
        rw [BMP1,h,List.getElem?_set_self hi,List.getD_eq_getElem?_getD,e]; rfl
      rw [BMP_get i (x + 1) ks _ hn'.2 (fun j hj => hk j (by simp [hj])) e1]
      have : (i : Int) = k:=by omega
      rw [this,if_neg hn'.1,if_pos (by simp)]
    · have e1 : (BMP1 q k)[i]? = some x:=by
        rw [BMP1,List.getElem?_set_ne h]; exact e
      rw [BMP_get i x ks _ hn'.2 (fun j hj => hk j (by simp [hj])) e1]
      have : (i : Int) ≠ k:=by omega
      simp [this]
theorem SH_sum (T S : Int) : ∀ (i : Nat) (w : List Int),S * SUMI (SHQ T S w) + SUMI ((QUOF T S i w).map Qu.r) = T * SUMI w
  | _,[] => by simp [SHQ,QUOF,SUMI]
  | i,x :: l => by
    have ih:=SH_sum T S (i + 1) l
    have:=Int.mul_ediv_add_emod (T * x) S
    simp only [SHQ,QUOF,SUMI,List.map_cons,Int.mul_add] at *
    omega
structure SHA (T S : Int) (w : List Int) (M : List Qu) (left : Nat) : Prop where
  pm : M.Perm (QUO T S w)
  qs : QS M
  lf : (left : Int) = T - SUMI (SHQ T S w)
section
variable {T S : Int} {w : List Int} {M : List Qu} {left : Nat}
theorem SHA.len (h : SHA T S w M left) : M.length = w.length:=by rw [h.pm.length_eq,QUO_len]
theorem SHA.rest (h : SHA T S w M left) (hs : S = SUMI w) : SUMI (M.map Qu.r) = S * left:=by
  have h1:=SH_sum T S 0 w
  rw [SUMI_perm (h.pm.map Qu.r),h.lf,Int.mul_sub,← hs,Int.mul_comm T S] at *
  unfold QUO; omega
theorem SHA.r_in (h : SHA T S w M left) (hS : 0 < S) : ∀ q ∈ M,0 ≤ q.r ∧ q.r ≤ S - 1:=fun q hq => by
  obtain ⟨j,x,_,rfl⟩:=QUO_mem (h.pm.mem_iff.1 hq)
  have h1:=Int.emod_nonneg (T * x) (show S ≠ 0 by omega)
  have h2:=Int.emod_lt_of_pos (T * x) hS
  exact ⟨h1,by show T * x % S ≤ S - 1; omega⟩
theorem SHA.left_le (h : SHA T S w M left) (hs : S = SUMI w) (hS : 0 < S) : left ≤ M.length:=by
  have h1:=h.rest hs
  have h2:=(SUMI_bounds (a:=0) (b:=S - 1) (M.map Qu.r) (by
    intro x hx
    obtain ⟨q,hq,rfl⟩:=List.mem_map.1 hx
    exact h.r_in hS q hq)).2
  rw [h1,List.length_map] at h2
  rcases Nat.lt_or_ge M.length left with h3 | h3
  · have h4 : S * ((M.length : Int) + 1) ≤ S * left:=Int.mul_le_mul_of_nonneg_left (by omega) (by omega)
    have e1 : (S - 1) * (M.length : Int) = S * M.length - M.length:=by rw [Int.sub_mul,Int.one_mul]
    rw [Int.mul_add,Int.mul_one] at h4
    omega
  · exact h3
theorem SHA.pos (h : SHA T S w M left) (hs : S = SUMI w) (hS : 0 < S) : ∀ q ∈ M.take left,0 < q.r:=by
  intro q hq
  have hr:=h.r_in hS
  rcases Int.lt_or_le 0 q.r with h0 | h0
  · exact h0
  exfalso
  obtain ⟨M1,M2,e⟩:=List.append_of_mem hq
  have e2 : M = M1 ++ q :: (M2 ++ M.drop left):=by
    have h':=(List.take_append_drop left M).symm
    rw [e,List.append_assoc] at h'
    exact h'
  have l1 : M1.length < left:=by
    have:=congrArg List.length e
    rw [List.length_take,List.length_append,List.length_cons] at this
    omega
  have qs:=h.qs
  rw [e2] at qs
  have z2 : ∀ x ∈ (q :: (M2 ++ M.drop left)).map Qu.r,(0 : Int) ≤ x ∧ x ≤ 0:=by
    intro x hx
    obtain ⟨p,hp,rfl⟩:=List.mem_map.1 hx
    have hpM:=hr p (by rw [e2]; exact List.mem_append_right _ hp)
    refine ⟨hpM.1,?_⟩
    rcases List.mem_cons.1 hp with rfl | hp
    · exact h0
    · have:=(List.pairwise_cons.1 (List.pairwise_append.1 qs).2.1).1 p hp
      unfold QLT at this; omega
  have h2:=SUMI_bounds _ z2
  have h1:=(SUMI_bounds (a:=0) (b:=S - 1) (M1.map Qu.r) (by
    intro x hx
    obtain ⟨p,hp,rfl⟩:=List.mem_map.1 hx
    exact hr p (by rw [e2]; exact List.mem_append_left _ hp))).2
  have h3:=h.rest hs
  have h4 : SUMI (M.map Qu.r) = SUMI (M1.map Qu.r) + SUMI ((q :: (M2 ++ M.drop left)).map Qu.r):=by
    conv => lhs; rw [e2]
    rw [List.map_append,SUMI_app]
  rw [List.length_map] at h1
  have h5 : S * ((M1.length : Int) + 1) ≤ S * left:=Int.mul_le_mul_of_nonneg_left (by omega) (by omega)
  have e1 : (S - 1) * (M1.length : Int) = S * M1.length - M1.length:=by rw [Int.sub_mul,Int.one_mul]
  rw [Int.mul_add,Int.mul_one] at h5
  omega
def SHA.K (_ : SHA T S w M left) : List Int:=(M.take left).map Qu.ix
theorem SHA.k_nodup (h : SHA T S w M left) : h.K.Nodup:=by
  have h1 : (M.map Qu.ix).Nodup:=by
    rw [(h.pm.map Qu.ix).nodup_iff]
    refine List.pairwise_iff_getElem.2 fun i j hi hj hij => ?_
    rw [List.length_map] at hi hj
    have hi':=hi; have hj':=hj
    rw [QUO_len] at hi' hj'
    have e1:=QUO_get T S w i
    have e2:=QUO_get T S w j
    rw [List.getElem?_eq_getElem hi,List.getElem?_eq_getElem hi'] at e1
    rw [List.getElem?_eq_getElem hj,List.getElem?_eq_getElem hj'] at e2
    simp only [Option.map_some,Option.some.injEq] at e1 e2
    rw [List.getElem_map,List.getElem_map,e1,e2]
    show (i : Int) ≠ j
    omega
  unfold SHA.K
  rw [List.map_take]
  exact h1.sublist (List.take_sublist _ _)
theorem SHA.k_in (h : SHA T S w M left) : ∀ k ∈ h.K,0 ≤ k ∧ k < w.length:=by
  intro k hk
  obtain ⟨q,hq,rfl⟩:=List.mem_map.1 hk
  obtain ⟨j,x,e,rfl⟩:=QUO_mem (h.pm.mem_iff.1 (List.mem_of_mem_take hq))
  have:=(List.getElem?_eq_some_iff.1 e).1
  exact ⟨by show (0 : Int) ≤ j; omega,by show (j : Int) < w.length; omega⟩
def SHA.out (h : SHA T S w M left) : List Int:=BMP h.K (SHQ T S w)
theorem SHQ_len : (SHQ T S w).length = w.length:=by simp [SHQ]
theorem SHA.out_len (h : SHA T S w M left) : h.out.length = w.length:=by rw [SHA.out,BMP_len,SHQ_len]
theorem SHA.out_sum (h : SHA T S w M left) (hs : S = SUMI w) (hS : 0 < S) : SUMI h.out = T:=by
  rw [SHA.out,BMP_sum _ _ (by rw [SHQ_len]; exact h.k_in),SHA.K,List.length_map,List.length_take,Nat.min_eq_left (h.left_le hs hS),h.lf]
  omega
theorem SHA.out_get (h : SHA T S w M left) {i : Nat} {x : Int} (e : w[i]? = some x) : h.out[i]? = some (if (i : Int) ∈ h.K then T * x / S + 1 else T * x / S):=
  BMP_get i _ _ _ h.k_nodup (fun k hk => (h.k_in k hk).1) (by simp [SHQ,e])
theorem SHA.k_pos (h : SHA T S w M left) (hs : S = SUMI w) (hS : 0 < S) {i : Nat} {x : Int} (e : w[i]? = some x) (hk : (i : Int) ∈ h.K) : 0 < T * x % S:=by
  obtain ⟨q,hq,eq⟩:=List.mem_map.1 hk
  have hp:=h.pos hs hS q hq
  obtain ⟨j,y,e',rfl⟩:=QUO_mem (h.pm.mem_iff.1 (List.mem_of_mem_take hq))
  have : j = i:=by have : (j : Int) = i:=eq; omega
  subst this
  rw [e] at e'; cases e'
  exact hp
theorem SHA.k_down (h : SHA T S w M left) {i j : Nat} {x y : Int} (ei : w[i]? = some x) (ej : w[j]? = some y) (hk : (i : Int) ∈ h.K) (hr : T * x % S < T * y % S) : (j : Int) ∈ h.K:=by
  obtain ⟨q,hq,eq⟩:=List.mem_map.1 hk
  obtain ⟨i',x',e',rfl⟩:=QUO_mem (h.pm.mem_iff.1 (List.mem_of_mem_take hq))
  have : i' = i:=by have : (i' : Int) = i:=eq; omega
  subst this
  rw [ei] at e'; cases e'
  have hm : (⟨j,T * y % S⟩ : Qu) ∈ M:=by
    rw [h.pm.mem_iff]
    refine List.mem_iff_getElem?.2 ⟨j,?_⟩
    rw [QUO_get,ej]; rfl
  have hm':=hm
  rw [← List.take_append_drop left M] at hm'
  rcases List.mem_append.1 hm' with h1 | h1
  · exact List.mem_map.2 ⟨_,h1,rfl⟩
  · have qs:=h.qs
    rw [← List.take_append_drop left M] at qs
    have:=(List.pairwise_append.1 qs).2.2 _ hq _ h1
    unfold QLT at this
    simp only at this
    omega
end
end S
namespace S
def CKW (T : Int) (w : List Int) : Int:=if 600 < w.length then 2 else if (0 ≤ T ∧ T ≤ 1099511627776) ∧ ∀ x ∈ w,OKL x then 0 else 380
theorem CKW_0 {T : Int} {w : List Int} (h : CKW T w = 0) : w.length ≤ 600 ∧ (0 ≤ T ∧ T ≤ 1099511627776) ∧ ∀ x ∈ w,OKL x:=by
  unfold CKW at h
  split at h
  · cases h
  · split at h
    · next h1 h2 => exact ⟨by omega,h2⟩
    · cases h
theorem c_right (T : Int) (w : List Int) (c : Option Nat) : ap Tryz.prog pol 36 [I T,.vs 1 (w.map I) c] = some (.ret (I (CKW T w))):=by
  rw [ap_eq _ Tryz.func36 rfl Tryz.ntmps36 Tryz.results36 (by kernel_rfl) rfl (by exact Nat.le_of_ble_eq_true rfl)]
  by_cases hl : 600 < w.length
  · rw [show CKW T w = 2 by unfold CKW; rw [if_pos hl]]
    simp (maxSteps:=999999) only [E0,seval,-Int.reduceNatCast',NUM,SIN,List.length_map,(show (600 : Int) < w.length by omega)]
  have ch:=c_has4 w c (by omega)
  have ci:=c_in T 1099511627776
  by_cases h1 : 0 ≤ T ∧ T ≤ 1099511627776
  rotate_left
  · rw [show CKW T w = 380 by unfold CKW; rw [if_neg hl,if_neg (fun h => h1 h.1)]]
    rw [decide_eq_false h1] at ci
    simp (maxSteps:=999999) only [E0,seval,-Int.reduceNatCast',NUM,SIN,List.length_map,(show ¬ (600 : Int) < w.length by omega),ci]
  rw [decide_eq_true h1] at ci
  by_cases h2 : ∃ x ∈ w,¬ OKL x
  · rw [show CKW T w = 380 by unfold CKW; rw [if_neg hl,if_neg (fun h => by obtain ⟨x,hx,hn⟩:=h2; exact hn (h.2 x hx))]]
    rw [decide_eq_true h2] at ch
    simp (maxSteps:=999999) only [E0,seval,-Int.reduceNatCast',NUM,SIN,List.length_map,(show ¬ (600 : Int) < w.length by omega),ci,ch]
  · rw [show CKW T w = 0 by unfold CKW; rw [if_neg hl,if_pos ⟨h1,fun x hx => Decidable.not_not.1 fun h => h2 ⟨x,hx,h⟩⟩]]
    rw [decide_eq_false h2] at ch
    simp (maxSteps:=999999) only [E0,seval,-Int.reduceNatCast',NUM,SIN,List.length_map,(show ¬ (600 : Int) < w.length by omega),ci,ch]
def PADZ (q : List Int) (n : Nat) : List Int:=q ++ List.replicate (n - q.length) 0
theorem PADZ_set {q : List Int} {n : Nat} (x : Int) (h : q.length < n) : (PADZ q n).set q.length x = PADZ (q ++ [x]) n:=by
  unfold PADZ
  rw [show n - q.length = (n - (q ++ [x]).length) + 1 by simp; omega,List.replicate_succ]
  simp
theorem PADZ_len {q : List Int} {n : Nat} (h : q.length ≤ n) : (PADZ q n).length = n:=by simp [PADZ]; omega
theorem PADZ_at {q : List Int} {n : Nat} (h : q.length < n) : (PADZ q n)[q.length]? = some 0:=by
  unfold PADZ
  rw [List.getElem?_append_right (by omega),Nat.sub_self,show n - q.length = (n - q.length - 1) + 1 by omega,List.replicate_succ]; rfl
theorem SHQ_take {T S : Int} {w : List Int} {j : Nat} {x : Int} (e : w[j]? = some x) : SHQ T S (w.take (j + 1)) = SHQ T S (w.take j) ++ [T * x / S]:=by
  rw [List.take_add_one,e]; simp [SHQ]
theorem SUM_take_le {w : List Int} (h : ∀ x ∈ w,OKL x) (j : Nat) : 0 ≤ SUMI (w.take j) ∧ SUMI (w.take j) ≤ 1073741824 * w.length:=by
  have h1:=SUMI_bounds (a:=0) (b:=1073741824) (w.take j) (fun x hx => h x (List.mem_of_mem_take hx))
  have : ((w.take j).length : Int) ≤ w.length:=by rw [List.length_take]; omega
  omega
theorem mapI_set (l : List Int) (k : Nat) (x : Int) : (l.map I).set k (I x) = (l.set k x).map I:=by rw [List.map_set]
theorem zeros (n : Nat) : List.replicate n (I 0) = ((PADZ [] n).map I):=by simp [PADZ]
end S
namespace S
theorem SHQ_take_sum {T S : Int} {w : List Int} (hT : 0 ≤ T ∧ T ≤ 1099511627776) (hS : 0 < S) (hs : S = SUMI w) (h : ∀ x ∈ w,OKL x) (j : Nat) : 0 ≤ SUMI (SHQ T S (w.take j)) ∧ SUMI (SHQ T S (w.take j)) ≤ T:=by
  have h1:=SH_sum T S 0 (w.take j)
  have h2:=(SUMI_bounds (a:=0) (b:=S) ((QUOF T S 0 (w.take j)).map Qu.r) (by
    intro x hx
    obtain ⟨q,hq,rfl⟩:=List.mem_map.1 hx
    obtain ⟨i,y,_,rfl⟩:=QUO_mem hq
    have a1:=Int.emod_nonneg (T * y) (show S ≠ 0 by omega)
    have a2:=Int.emod_lt_of_pos (T * y) hS
    exact ⟨a1,by show T * y % S ≤ S; omega⟩)).1
  have h3 : SUMI (w.take j) ≤ S:=by
    have e : SUMI w = SUMI (w.take j) + SUMI (w.drop j):=by rw [← SUMI_app,List.take_append_drop]
    have:=(SUMI_bounds (a:=0) (b:=1073741824) (w.drop j) (fun x hx => h x (List.mem_of_mem_drop hx))).1
    omega
  have h4 : T * SUMI (w.take j) ≤ T * S:=Int.mul_le_mul_of_nonneg_left h3 hT.1
  refine ⟨?_,?_⟩
  · have:=(SUMI_bounds (a:=0) (b:=T) (SHQ T S (w.take j)) (by
      intro x hx
      obtain ⟨y,hy,rfl⟩:=List.mem_map.1 hx
      have hy':=h y (List.mem_of_mem_take hy)
      unfold OKL at hy'
      have p:=Int.mul_nonneg hT.1 hy'.1
      have p2:=Int.mul_le_mul_of_nonneg_left (show y ≤ S by
        have:=List.mem_iff_getElem?.1 (List.mem_of_mem_take hy)
        obtain ⟨i,ei⟩:=this
        have e1:=SUMI_take ei
        have b0:=(SUM_take_le h i).1
        have e : SUMI w = SUMI (w.take (i + 1)) + SUMI (w.drop (i + 1)):=by rw [← SUMI_app,List.take_append_drop]
        have:=(SUMI_bounds (a:=0) (b:=1073741824) (w.drop (i + 1)) (fun x hx => h x (List.mem_of_mem_drop hx))).1
        omega) hT.1
      exact ⟨Int.ediv_nonneg p (by omega),Int.ediv_le_of_le_mul hS (by omega)⟩)).1
    omega
  · rcases Int.lt_or_le T (SUMI (SHQ T S (w.take j))) with h5 | h5
    · have h6:=Int.mul_le_mul_of_nonneg_left (show T + 1 ≤ SUMI (SHQ T S (w.take j)) by omega) (show 0 ≤ S by omega)
      rw [Int.mul_add,Int.mul_one,Int.mul_comm S T] at h6
      omega
    · exact h5
theorem c_shareE (T : Int) (w : List Int) (c : Option Nat) (h : CKW T w ≠ 0) : ap Tryz.prog pol 21 [I T,.vs 1 (w.map I) c] = some (.ret (.tup [.nils,I 0,I (CKW T w)])):=by
  have cr:=c_right T w c
  rw [ap_eq _ Tryz.func21 rfl Tryz.ntmps21 Tryz.results21 (by kernel_rfl) rfl (by exact Nat.le_of_ble_eq_true rfl)]
  simp (maxSteps:=999999) only [E0,seval,-Int.reduceNatCast',NUM,SIN,cr,h]
theorem OWN_quo (T S : Int) (w : List Int) : OWN 0 (QUO T S w):=by
  intro i q e
  rw [QUO_get] at e
  obtain ⟨x,_,rfl⟩:=Option.map_eq_some_iff.1 e
  show (i : Int) = (0 : Nat) + i; omega
theorem c_share0 (T : Int) (w : List Int) (c : Option Nat) (h : CKW T w = 0) (h0 : SUMI w = 0) : ap Tryz.prog pol 21 [I T,.vs 1 (w.map I) c] = some (.ret (.tup [.vs 1 ((List.replicate w.length 0).map I) none,I T,I 0])):=by
  have cr:=c_right T w c
  obtain ⟨hl,hT,hw⟩:=CKW_0 h
  obtain ⟨Z,hZ⟩ : ∃ Z,Z = PADZ [] w.length:=⟨_,rfl⟩
  have lZ : Z.length = w.length:=by rw [hZ]; exact PADZ_len (by simp)
  have zs : List.replicate w.length (I 0) = Z.map I:=by rw [hZ]; exact zeros _
  rw [ap_eq _ Tryz.func21 rfl Tryz.ntmps21 Tryz.results21 (by kernel_rfl) rfl (by exact Nat.le_of_ble_eq_true rfl)]
  simp (maxSteps:=999999) only [E0,seval,-Int.reduceNatCast',NUM,SIN,cr,h,List.length_map,Int.toNat_natCast,(show (0 : Int) ≤ w.length by omega),(show (w.length : Int) ≤ maxN by unfold maxN; omega),(show 8 ≤ maxB by decide),zs]
  generalize hL : W _ (.loop _) _ = L
  obtain ⟨ex,s,rfl,rfl,h7,h0',h1,h4,hH,hd,hf⟩:=loop_at hL (α:=Nat) (fun j => w.length - j)
    (fun s0 j s => j ≤ w.length ∧ s.tmps 31 = I j ∧ s.tmps 30 = I w.length ∧ s.tmps 29 = .vs 1 (w.map I) c ∧ s.tmps 7 = I (SUMI (w.take j)) ∧ s.tmps 0 = I T ∧ s.tmps 1 = .vs 1 (w.map I) c ∧ s.tmps 4 = .gsl 1 1 w.length 0 w.length ∧ s.H = s0.H ∧ s.defers = [] ∧ s.fid = 0)
    (fun s0 ex s => ex = .exit 0 ∧ s.tmps 7 = I (SUMI w) ∧ s.tmps 0 = I T ∧ s.tmps 1 = .vs 1 (w.map I) c ∧ s.tmps 4 = .gsl 1 1 w.length 0 w.length ∧ s.H = s0.H ∧ s.defers = [] ∧ s.fid = 0) 0
    (by simp (maxSteps:=999999) only [E0,seval,-Int.reduceNatCast',List.take_zero]; exact ⟨by omega,by simp,by simp [SUMI]⟩) (by
      rintro j s r hW ⟨hj,h31,h30,h29,h7,h0,h1,h4,hH,hd,hf⟩
      by_cases hp : j < w.length
      · have e0 : w[j]? = some w[j]:=List.getElem?_eq_getElem hp
        have e1:=map_get (f:=I) e0
        have st:=SUMI_take e0
        have b1:=SUM_take_le hw (j + 1)
        generalize w[j] = x at *
        simp (maxSteps:=999999) only [E0,seval,-Int.reduceNatCast',NUM,h31,h30,h29,h7,h0,h1,h4,hd,hf,e1,List.length_map,Int.toNat_natCast,(show (j : Int) < w.length by omega),(show (0 : Int) ≤ j by omega),← st,i64_in (x:=SUMI (w.take (j + 1))) (by unfold I64; omega),i64_in (x:=(j : Int) + 1) (by unfold I64; omega)] at hW
        subst hW
        refine rd_next (j + 1) ?_ (show w.length - (j + 1) < w.length - j by omega)
        simp (maxSteps:=999999) only [E0,seval,-Int.reduceNatCast',h30,h29,h0,h1,h4,hH]
        exact ⟨by omega,by simp⟩
      · simp (maxSteps:=999999) only [E0,seval,-Int.reduceNatCast',h31,h30,hd,hf,(show ¬ (j : Int) < w.length by omega)] at hW
        subst hW
        rw [List.take_of_length_le (by omega)] at h7
        refine rd_exit ⟨rfl,?_⟩
        simp (maxSteps:=999999) only [E0,seval,-Int.reduceNatCast',h7,h0,h1,h4,hH])
  have r1 : s.H.rows 1 = some (.gro 1 (Z.map I) 0):=by rw [hH]; simp (maxSteps:=999999) only [E0,seval,-Int.reduceNatCast']
  have zz : Z = List.replicate w.length 0:=by rw [hZ]; simp [PADZ]
  simp (maxSteps:=999999) only [E0,seval,-Int.reduceNatCast',NUM,SIN,h7,h0',h1,h4,hd,hf,h0,r1,lZ,List.length_map,Nat.zero_add,Nat.le_refl]
  rw [List.take_of_length_le (by simp [lZ]),SIN.2.2.1,zz]
end S
namespace S
set_option maxHeartbeats 1000000 in
theorem c_share1 (T : Int) (w : List Int) (c : Option Nat) (h : CKW T w = 0) (h0 : SUMI w ≠ 0) :
    ∃ M left,∃ hs : SHA T (SUMI w) w M left,ap Tryz.prog pol 21 [I T,.vs 1 (w.map I) c] = some (.ret (.tup [.vs 1 (hs.out.map I) none,I 0,I 0])):=by
  have cr:=c_right T w c
  obtain ⟨hl,hT,hw⟩:=CKW_0 h
  obtain ⟨S,hS⟩ : ∃ S,S = SUMI w:=⟨_,rfl⟩
  have bS:=SUM_take_le hw w.length
  rw [List.take_length,← hS] at bS
  rw [← hS] at h0
  have S0 : 0 < S:=by omega
  obtain ⟨Z,hZ⟩ : ∃ Z,Z = PADZ [] w.length:=⟨_,rfl⟩
  have lZ : Z.length = w.length:=by rw [hZ]; exact PADZ_len (by simp)
  have zs : List.replicate w.length (I 0) = Z.map I:=by rw [hZ]; exact zeros _
  rw [ap_eq _ Tryz.func21 rfl Tryz.ntmps21 Tryz.results21 (by kernel_rfl) rfl (by exact Nat.le_of_ble_eq_true rfl)]
  simp (maxSteps:=999999) only [E0,seval,-Int.reduceNatCast',NUM,SIN,cr,h,List.length_map,Int.toNat_natCast,(show (0 : Int) ≤ w.length by omega),(show (w.length : Int) ≤ maxN by unfold maxN; omega),(show 8 ≤ maxB by decide),zs]
  generalize hL : W _ (.loop _) _ = L
  obtain ⟨ex,s,rfl,rfl,h7,h0',h1,h4,hH,hd,hf⟩:=loop_at hL (α:=Nat) (fun j => w.length - j)
    (fun s0 j s => j ≤ w.length ∧ s.tmps 31 = I j ∧ s.tmps 30 = I w.length ∧ s.tmps 29 = .vs 1 (w.map I) c ∧ s.tmps 7 = I (SUMI (w.take j)) ∧ s.tmps 0 = I T ∧ s.tmps 1 = .vs 1 (w.map I) c ∧ s.tmps 4 = .gsl 1 1 w.length 0 w.length ∧ s.H = s0.H ∧ s.defers = [] ∧ s.fid = 0)
    (fun s0 ex s => ex = .exit 0 ∧ s.tmps 7 = I (SUMI w) ∧ s.tmps 0 = I T ∧ s.tmps 1 = .vs 1 (w.map I) c ∧ s.tmps 4 = .gsl 1 1 w.length 0 w.length ∧ s.H = s0.H ∧ s.defers = [] ∧ s.fid = 0) 0
    (by simp (maxSteps:=999999) only [E0,seval,-Int.reduceNatCast',List.take_zero]; exact ⟨by omega,by simp,by simp [SUMI]⟩) (by
      rintro j s r hW ⟨hj,h31,h30,h29,h7,h0,h1,h4,hH,hd,hf⟩
      by_cases hp : j < w.length
      · have e0 : w[j]? = some w[j]:=List.getElem?_eq_getElem hp
        have e1:=map_get (f:=I) e0
        have st:=SUMI_take e0
        have b1:=SUM_take_le hw (j + 1)
        generalize w[j] = x at *
        simp (maxSteps:=999999) only [E0,seval,-Int.reduceNatCast',NUM,h31,h30,h29,h7,h0,h1,h4,hd,hf,e1,List.length_map,Int.toNat_natCast,(show (j : Int) < w.length by omega),(show (0 : Int) ≤ j by omega),← st,i64_in (x:=SUMI (w.take (j + 1))) (by unfold I64; omega),i64_in (x:=(j : Int) + 1) (by unfold I64; omega)] at hW
        subst hW
        refine rd_next (j + 1) ?_ (show w.length - (j + 1) < w.length - j by omega)
        simp (maxSteps:=999999) only [E0,seval,-Int.reduceNatCast',h30,h29,h0,h1,h4,hH]
        exact ⟨by omega,by simp⟩
      · simp (maxSteps:=999999) only [E0,seval,-Int.reduceNatCast',h31,h30,hd,hf,(show ¬ (j : Int) < w.length by omega)] at hW
        subst hW
        rw [List.take_of_length_le (by omega)] at h7
        refine rd_exit ⟨rfl,?_⟩
        simp (maxSteps:=999999) only [E0,seval,-Int.reduceNatCast',h7,h0,h1,h4,hH])
  have r1 : s.H.rows 1 = some (.gro 1 (Z.map I) 0):=by rw [hH]; simp (maxSteps:=999999) only [E0,seval,-Int.reduceNatCast']
  have nx : s.H.next = 2:=by rw [hH]; rfl
  rw [← hS] at h7
  simp (maxSteps:=999999) only [E0,seval,-Int.reduceNatCast',NUM,SIN,h7,h0',h1,h4,hd,hf,h0,List.length_map,nx]
  clear hL
  generalize hL : W _ (.loop _) _ = L
  obtain ⟨ex,s2,rfl,rfl,h10,h11,h4,q1,q2,hd,hf⟩:=loop_at hL (α:=Nat) (fun j => w.length - j)
    (fun s0 j s => j ≤ w.length ∧ s.tmps 46 = I j ∧ s.tmps 45 = I w.length ∧ s.tmps 44 = .vs 1 (w.map I) c ∧ s.tmps 7 = I S ∧ s.tmps 0 = I T ∧ s.tmps 4 = .gsl 1 1 w.length 0 w.length ∧ s.tmps 10 = I (T - SUMI (SHQ T S (w.take j))) ∧ s.tmps 11 = QG j ∧
      s.H.rows 1 = some (.gro 1 ((PADZ (SHQ T S (w.take j)) w.length).map I) 0) ∧ s.H.rows 2 = some (RW (QUO T S (w.take j))) ∧ s.defers = [] ∧ s.fid = 0)
    (fun s0 ex s => ex = .exit 2 ∧ s.tmps 10 = I (T - SUMI (SHQ T S w)) ∧ s.tmps 11 = QG w.length ∧ s.tmps 4 = .gsl 1 1 w.length 0 w.length ∧ s.H.rows 1 = some (.gro 1 ((SHQ T S w).map I) 0) ∧ s.H.rows 2 = some (RW (QUO T S w)) ∧ s.defers = [] ∧ s.fid = 0) 0
    (by simp (maxSteps:=999999) only [E0,seval,-Int.reduceNatCast',List.take_zero,r1,nx,h0',h4]
        refine ⟨Nat.zero_le _,rfl,?_,?_,?_,?_⟩
        · exact h7
        · simp [SHQ,SUMI]
        · rw [hZ]; rfl
        · simp [QUO,QUOF]) (by
      rintro j s r hW ⟨hj,h46,h45,h44,h7,h0',h4,h10,h11,r1,r2,hd,hf⟩
      by_cases hp : j < w.length
      · have e0 : w[j]? = some w[j]:=List.getElem?_eq_getElem hp
        have e1:=map_get (f:=I) e0
        have sq:=SHQ_take (T:=T) (S:=S) e0
        have qq:=QUO_take (T:=T) (S:=S) e0
        have b1:=SHQ_take_sum hT S0 hS hw (j + 1)
        have b0:=SHQ_take_sum hT S0 hS hw j
        have okx:=hw _ (List.mem_of_getElem? e0)
        unfold OKL at okx
        have ls : (SHQ T S (w.take j)).length = j:=by rw [SHQ_len,List.length_take]; omega
        have p1:=PADZ_at (q:=SHQ T S (w.take j)) (n:=w.length) (by omega)
        have p2:=PADZ_set (q:=SHQ T S (w.take j)) (n:=w.length) (T * w[j] / S) (by omega)
        have p3:=PADZ_len (q:=SHQ T S (w.take j)) (n:=w.length) (by omega)
        rw [ls] at p1 p2
        rw [← sq] at p2
        have lq : (QUO T S (w.take j)).length = j:=by rw [QUO_len,List.length_take]; omega
        rw [sq,SUMI_app] at b1
        have xq : SUMI [T * w[j] / S] = T * w[j] / S:=by simp [SUMI]
        rw [xq] at b1
        have q0 : 0 ≤ T * w[j] / S:=Int.ediv_nonneg (Int.mul_nonneg hT.1 okx.1) (by omega)
        generalize w[j] = x at *
        obtain ⟨t,rfl⟩:=Int.eq_ofNat_of_zero_le hT.1
        obtain ⟨v,rfl⟩:=Int.eq_ofNat_of_zero_le okx.1
        obtain ⟨S',rfl⟩:=Int.eq_ofNat_of_zero_le (show 0 ≤ S by omega)
        have cm:=c_mul64 t v (by omega) (by omega)
        have tv : t * v ≤ 1099511627776 * 1073741824:=Nat.mul_le_mul (by omega) (by omega)
        have hov : t * v / 18446744073709551616 < S':=by
          have a1 : v ≤ S':=by
            have e1':=SUMI_take e0
            have b0':=(SUM_take_le hw j).1
            have e : SUMI w = SUMI (w.take (j + 1)) + SUMI (w.drop (j + 1)):=by rw [← SUMI_app,List.take_append_drop]
            have:=(SUMI_bounds (a:=0) (b:=1073741824) (w.drop (j + 1)) (fun x hx => hw x (List.mem_of_mem_drop hx))).1
            omega
          have a2 : t * v ≤ 1099511627776 * v:=Nat.mul_le_mul_right _ (by omega)
          omega
        have cd:=c_div64 (t * v / 18446744073709551616) (t * v % 18446744073709551616) S' hov (by omega) (by omega)
        rw [show t * v / 18446744073709551616 * 18446744073709551616 + t * v % 18446744073709551616 = t * v by omega] at cd
        have k1 : ((t * v / S' : Nat) : Int) = (t : Int) * v / S':=by simp
        have k2 : ((t * v % S' : Nat) : Int) = (t : Int) * v % S':=by simp
        rw [k1,k2] at cd
        generalize hqq : (t : Int) * v / S' = Q at *
        generalize hrr : (t : Int) * v % S' = R at *
        obtain ⟨P,hP⟩ : ∃ P,P = PADZ (SHQ t S' (w.take j)) w.length:=⟨_,rfl⟩
        rw [← hP] at p1 p2 p3 r1
        have p2':=mapI_set P j Q
        rw [p2] at p2'
        have p1':=map_get (f:=I) p1
        have pq : ((P.map I).set j (I Q))[j]? = some (I Q):=by
          rw [List.getElem?_set_self]; simpa [p3] using hp
        simp (maxSteps:=999999) only [E0,seval,-Int.reduceNatCast',NUM,h46,h45,h44,h7,h0',h4,h10,h11,hd,hf,r1,r2,e1,cm,cd,p1',p3,lq,pq,List.length_map,List.length_set,Int.toNat_natCast,(show (j : Int) < w.length by omega),(show (0 : Int) ≤ j by omega),i64_in (x:=(j : Int) + 1) (by unfold I64; omega),u64_in (x:=(t : Int)) (by unfold U64; omega),u64_in (x:=(v : Int)) (by unfold U64; omega),u64_in (x:=(S' : Int)) (by unfold U64; omega),Nat.zero_add,Nat.zero_le,i64_in (x:=Q) (by unfold I64; omega),i64_in (x:=(t : Int) - SUMI (SHQ t S' (w.take j)) - Q) (by unfold I64; omega),(show j + 1 ≤ 67108864 by omega)] at hW
        subst hW
        refine rd_next (j + 1) ?_ (show w.length - (j + 1) < w.length - j by omega)
        simp (maxSteps:=999999) only [E0,seval,-Int.reduceNatCast',h45,h44,h7,h0',h4,p2',sq,SUMI_app,SUMI,Int.add_zero,qq,Int.sub_sub]
        exact ⟨by omega,by simp,by simp⟩
      · simp (maxSteps:=999999) only [E0,seval,-Int.reduceNatCast',h46,h45,hd,hf,(show ¬ (j : Int) < w.length by omega)] at hW
        subst hW
        have : j = w.length:=by omega
        subst this
        rw [List.take_length] at h10 r1 r2
        refine rd_exit ⟨rfl,?_⟩
        simp (maxSteps:=999999) only [E0,seval,-Int.reduceNatCast',h10,h11,h4,r1,r2]
        simp [PADZ,SHQ])
  obtain ⟨left,hlf⟩:=Int.eq_ofNat_of_zero_le (show 0 ≤ T - SUMI (SHQ T S w) by
    have:=(SHQ_take_sum hT S0 hS hw w.length).2
    rw [List.take_length] at this; omega)
  obtain ⟨M,pm,qs,k,cs,hk⟩:=c_sort (QUO T S w) w.length (OWN_quo T S w) (QUO_len T S w).symm (by omega) s2.H q2
  have hs : SHA T S w M left:=⟨pm,qs,hlf.symm⟩
  have lM:=hs.len
  have ll:=hs.left_le hS S0
  subst hS
  refine ⟨M,left,hs,?_⟩
  rw [hlf] at h10
  have lq : (SHQ T (SUMI w) w).length = w.length:=SHQ_len
  have lo:=hs.out_len
  have ki:=hs.k_in
  have ot : hs.out = BMP ((M.take left).map Qu.ix) (SHQ T (SUMI w) w):=rfl
  have kd : hs.K = (M.take left).map Qu.ix:=rfl
  rw [kd] at ki
  rw [ot] at lo ⊢
  rcases Nat.eq_zero_or_pos left with l0 | l0
  · subst l0
    simp (maxSteps:=999999) only [E0,seval,-Int.reduceNatCast',NUM,SIN,SQU,h10,h11,h4,q1,hd,hf,cs,WW_loop,lq,Int.natCast_zero,List.length_map,Int.toNat_natCast,Nat.zero_add,Nat.le_refl,(show (0 : Int) ≤ w.length by omega)]
    rw [List.take_of_length_le (by simp [lq]),SIN.2.2.1]; rfl
  simp (maxSteps:=999999) only [E0,seval,-Int.reduceNatCast',NUM,SIN,SQU,h10,h11,h4,q1,hd,hf,cs,lq,List.length_map,Int.sub_zero,Int.toNat_natCast,Nat.zero_add,Nat.le_refl,(show (0 : Int) ≤ (left : Int) by omega),(show (left : Int) ≤ w.length by omega),(show ¬ (0 : Int) = left by omega)]
  clear hL
  generalize hL : W _ (.loop _) _ = L
  obtain ⟨ex,s3,rfl,rfl,h4,q1,hd⟩:=loop_at hL (α:=Nat) (fun j => left - j)
    (fun s0 j s => j ≤ left ∧ s.tmps 91 = I j ∧ s.tmps 90 = I left ∧ s.tmps 89 = .gsl 2 2 w.length 0 left ∧ s.tmps 4 = .gsl 1 1 w.length 0 w.length ∧
      s.H.rows 1 = some (.gro 1 ((BMP ((M.take j).map Qu.ix) (SHQ T (SUMI w) w)).map I) 0) ∧ s.H.rows 2 = some (RW M) ∧ s.defers = [] ∧ s.fid = 0)
    (fun s0 ex s => ex = .exit 4 ∧ s.tmps 4 = .gsl 1 1 w.length 0 w.length ∧ s.H.rows 1 = some (.gro 1 ((BMP ((M.take left).map Qu.ix) (SHQ T (SUMI w) w)).map I) 0) ∧ s.defers = []) 0
    (by simp (maxSteps:=999999) only [E0,seval,-Int.reduceNatCast',List.take_zero,q1,h4]
        exact ⟨Nat.zero_le _,rfl,rfl⟩) (by
      rintro j s r hW ⟨hj,h91,h90,h89,h4,r1,r2,hd,hf⟩
      by_cases hp : j < left
      · have e0 : M[j]? = some (M[j]'(by omega)):=List.getElem?_eq_getElem _
        have e1:=mget e0
        have tk : (M.take (j + 1)).map Qu.ix = (M.take j).map Qu.ix ++ [(M[j]'(by omega)).ix]:=by rw [List.take_add_one,e0,List.map_append]; rfl
        have hm : (M[j]'(by omega)).ix ∈ (M.take left).map Qu.ix:=List.mem_map.2 ⟨_,List.mem_iff_getElem?.2 ⟨j,by rw [List.getElem?_take,if_pos hp]; exact e0⟩,rfl⟩
        have kx:=ki _ hm
        generalize (M[j]'(by omega)) = x at *
        obtain ⟨a,ea⟩:=Int.eq_ofNat_of_zero_le kx.1
        obtain ⟨B,hB⟩ : ∃ B,B = BMP ((M.take j).map Qu.ix) (SHQ T (SUMI w) w):=⟨_,rfl⟩
        have lB : B.length = w.length:=by rw [hB,BMP_len,lq]
        have bs : BMP ((M.take (j + 1)).map Qu.ix) (SHQ T (SUMI w) w) = BMP1 B x.ix:=by rw [tk,BMP_snoc,← hB]
        rw [← hB] at r1
        have b0 : B[a]? = some (B[a]'(by omega)):=List.getElem?_eq_getElem _
        have bb : 0 ≤ B[a]'(by omega) ∧ B[a]'(by omega) ≤ 1099511627776 + 1:=by
          have sb : ((M.take j).map Qu.ix).Sublist ((M.take left).map Qu.ix):=by
            rw [show M.take j = (M.take left).take j by rw [List.take_take,Nat.min_eq_left (by omega)]]
            exact (List.take_sublist _ _).map _
          have wa : w[a]? = some (w[a]'(by omega)):=List.getElem?_eq_getElem _
          have sq : (SHQ T (SUMI w) w)[a]? = some (T * w[a]'(by omega) / SUMI w):=by simp [SHQ,wa]
          have bg:=BMP_get a _ ((M.take j).map Qu.ix) _ (hs.k_nodup.sublist sb) (fun k hk => (ki k (sb.subset hk)).1) sq
          rw [← hB,b0] at bg
          have okx:=hw _ (List.mem_of_getElem? wa)
          unfold OKL at okx
          have q0 : 0 ≤ T * w[a]'(by omega) / SUMI w:=Int.ediv_nonneg (Int.mul_nonneg hT.1 okx.1) (by omega)
          have wS : w[a]'(by omega) ≤ SUMI w:=by
            have e1':=SUMI_take wa
            have b0':=(SUM_take_le hw a).1
            have e : SUMI w = SUMI (w.take (a + 1)) + SUMI (w.drop (a + 1)):=by rw [← SUMI_app,List.take_append_drop]
            have:=(SUMI_bounds (a:=0) (b:=1073741824) (w.drop (a + 1)) (fun x hx => hw x (List.mem_of_mem_drop hx))).1
            omega
          have q1 : T * w[a]'(by omega) / SUMI w ≤ T:=Int.ediv_le_of_le_mul S0 (Int.mul_le_mul_of_nonneg_left wS hT.1)
          injection bg with bg
          rw [bg]
          split <;> omega
        have b1 : BMP1 B x.ix = B.set a (B[a]'(by omega) + 1):=by
          rw [BMP1,ea,Int.toNat_natCast,List.getD_eq_getElem?_getD,b0]; rfl
        generalize B[a]'(by omega) = y at *
        have b2:=map_get (f:=I) b0
        have ms:=mapI_set B a (y + 1)
        rcases hbx : s.boxes 19 with _ | ⟨ver,cs⟩
        · simp (maxSteps:=999999) only [E0,seval,-Int.reduceNatCast',NUM,SIN,SQU,h91,h90,h89,h4,r1,r2,hd,hf,hbx,e1,ea,lB,lM,b2,List.length_map,Int.toNat_natCast,Nat.zero_add,Nat.zero_le,(show (j : Int) < left by omega),(show (0 : Int) ≤ j by omega),(show (0 : Int) ≤ a by omega),(show (a : Int) < w.length by omega),i64_in (x:=y + 1) (by unfold I64; omega),i64_in (x:=(j : Int) + 1) (by unfold I64; omega)] at hW
          subst hW
          refine rd_next (j + 1) ?_ (show left - (j + 1) < left - j by omega)
          simp (maxSteps:=999999) only [E0,seval,-Int.reduceNatCast',h90,h89,h4,bs,b1,ms,r2]
          exact ⟨by omega,by simp⟩
        · simp (maxSteps:=999999) only [E0,seval,-Int.reduceNatCast',NUM,SIN,SQU,h91,h90,h89,h4,r1,r2,hd,hf,hbx,e1,ea,lB,lM,b2,List.length_map,Int.toNat_natCast,Nat.zero_add,Nat.zero_le,(show (j : Int) < left by omega),(show (0 : Int) ≤ j by omega),(show (0 : Int) ≤ a by omega),(show (a : Int) < w.length by omega),i64_in (x:=y + 1) (by unfold I64; omega),i64_in (x:=(j : Int) + 1) (by unfold I64; omega)] at hW
          subst hW
          refine rd_next (j + 1) ?_ (show left - (j + 1) < left - j by omega)
          simp (maxSteps:=999999) only [E0,seval,-Int.reduceNatCast',h90,h89,h4,bs,b1,ms,r2]
          exact ⟨by omega,by simp⟩
      · simp (maxSteps:=999999) only [E0,seval,-Int.reduceNatCast',h91,h90,hd,hf,(show ¬ (j : Int) < left by omega)] at hW
        subst hW
        have : j = left:=by omega
        subst this
        refine rd_exit ⟨rfl,?_⟩
        simp (maxSteps:=999999) only [E0,seval,-Int.reduceNatCast',h4,r1])
  simp (maxSteps:=999999) only [E0,seval,-Int.reduceNatCast',NUM,SIN,h4,q1,hd,lo,List.length_map,Nat.zero_add,Nat.le_refl]
  rw [List.take_of_length_le (by rw [List.length_map,lo]; exact Nat.le_refl _),SIN.2.2.1]
end S
namespace S
theorem SHO_one {T S : Int} {w : List Int} {M M' : List Qu} {l l' : Nat} (h : SHA T S w M l) (h' : SHA T S w M' l') : h.out = h'.out:=by
  obtain rfl:=QS_unique (h.pm.trans h'.pm.symm) h.qs h'.qs
  have : l = l':=by have:=h.lf; have:=h'.lf; omega
  subst this; rfl
open Classical in
noncomputable def SHO (T : Int) (w : List Int) : List Int:=if h : ∃ M,∃ left,SHA T (SUMI w) w M left then h.choose_spec.choose_spec.out else []
theorem SHO_eq {T : Int} {w : List Int} {M : List Qu} {l : Nat} (h : SHA T (SUMI w) w M l) : h.out = SHO T w:=by
  have hh : ∃ M,∃ left,SHA T (SUMI w) w M left:=⟨M,l,h⟩
  unfold SHO
  rw [dif_pos hh]
  exact SHO_one _ _
noncomputable def SHV (T : Int) (w : List Int) : PV:=if CKW T w ≠ 0 then .tup [.nils,I 0,I (CKW T w)] else if SUMI w = 0 then .tup [.vs 1 ((List.replicate w.length 0).map I) none,I T,I 0] else .tup [.vs 1 ((SHO T w).map I) none,I 0,I 0]
theorem c_share (T : Int) (w : List Int) (c : Option Nat) : ap Tryz.prog pol 21 [I T,.vs 1 (w.map I) c] = some (.ret (SHV T w)):=by
  unfold SHV
  split
  · next h => exact c_shareE T w c h
  · next h =>
    have h:=Decidable.not_not.1 h
    split
    · next h0 => exact c_share0 T w c h h0
    · next h0 =>
      obtain ⟨M,l,hs,e⟩:=c_share1 T w c h h0
      rw [e,SHO_eq hs]
theorem and_one (n : Nat) (h : n < 9223372036854775808) : IntKind.i64.wrap ((BitVec.ofInt IntKind.i64.bits (n : Int) &&& BitVec.ofInt IntKind.i64.bits 1).toNat : Nat) = ((n % 2 : Nat) : Int):=by
  have e : (BitVec.ofInt IntKind.i64.bits (n : Int) &&& BitVec.ofInt IntKind.i64.bits 1).toNat = n % 2:=by
    rw [BitVec.toNat_and]
    have e1 : (BitVec.ofInt IntKind.i64.bits (n : Int)).toNat = n:=by
      rw [BitVec.toNat_ofInt]; simp [IntKind.bits]; omega
    have e2 : (BitVec.ofInt IntKind.i64.bits 1).toNat = 2 ^ 1 - 1:=by decide
    rw [e1,e2,Nat.and_two_pow_sub_one_eq_mod]
  rw [e,i64_in]
  unfold I64; omega
theorem shr_i (n : Nat) (k : Nat) (hk : k ≤ 64) : (n : Int).fdiv (2 ^ min k IntKind.i64.bits) = ((n / 2 ^ k : Nat) : Int):=by
  rw [show min k IntKind.i64.bits = k by simp [IntKind.bits]; omega,Int.fdiv_eq_ediv_of_nonneg _ (by exact Int.pow_nonneg (by decide)),Int.natCast_ediv,Int.natCast_pow]; rfl
end S
namespace S
noncomputable def OUTS (T : Int) (w : List Int) : List Int:=if SUMI w = 0 then List.replicate w.length 0 else SHO T w
noncomputable def REST (T : Int) (w : List Int) : Int:=if SUMI w = 0 then T else 0
theorem SHV_ok {T : Int} {w : List Int} (h : CKW T w = 0) : SHV T w = .tup [.vs 1 ((OUTS T w).map I) none,I (REST T w),I 0]:=by
  unfold SHV OUTS REST
  rw [if_neg (by rw [h]; decide)]
  split <;> rfl
theorem OUTS_len {T : Int} {w : List Int} (h : CKW T w = 0) : (OUTS T w).length = w.length:=by
  unfold OUTS
  split
  · simp
  · next h0 =>
    obtain ⟨M,l,hs,_⟩:=c_share1 T w none h h0
    rw [← SHO_eq hs,hs.out_len]
theorem SUMI_zero : ∀ (w : List Int),(∀ x ∈ w,0 ≤ x) → SUMI w = 0 → ∀ x ∈ w,x = 0
  | [],_,_,x,hx => by simp at hx
  | y :: w,h,e,x,hx => by
    have h1:=(SUMI_bounds (a:=0) (b:=y + SUMI w) w (fun z hz => ⟨h z (by simp [hz]),by
      have key : ∀ (l : List Int),(∀ a ∈ l,0 ≤ a) → ∀ a ∈ l,a ≤ SUMI l:=by
        intro l
        induction l with
        | nil => intro _ a ha; simp at ha
        | cons b l ih =>
          intro hl a ha
          have hs:=(SUMI_bounds (a:=0) (b:=0) [] (by simp)).1
          have ih':=ih (fun c hc => hl c (by simp [hc]))
          have hb:=hl b (by simp)
          have hl0 : 0 ≤ SUMI l:=by
            cases l with
            | nil => simp [SUMI]
            | cons c l => have:=ih' c (by simp); have:=hl c (by simp); omega
          rcases List.mem_cons.1 ha with rfl | ha
          · simp only [SUMI]; omega
          · have:=ih' a ha; simp only [SUMI]; omega
      have:=key w (fun a ha => h a (by simp [ha])) z hz
      have:=h y (by simp)
      omega⟩)).1
    have hy:=h y (by simp)
    simp only [SUMI] at e
    rcases List.mem_cons.1 hx with rfl | hx
    · omega
    · exact SUMI_zero w (fun z hz => h z (by simp [hz])) (by omega) x hx
theorem OUTS_sum {T : Int} {w : List Int} (h : CKW T w = 0) : SUMI (OUTS T w) + REST T w = T:=by
  unfold OUTS REST
  split
  · next h0 =>
    have : ∀ n : Nat,SUMI (List.replicate n 0) = 0:=by
      intro n
      induction n with
      | zero => rfl
      | succ n ih => simp only [List.replicate_succ,SUMI,ih]; omega
    rw [this]; omega
  · next h0 =>
    obtain ⟨M,l,hs,_⟩:=c_share1 T w none h h0
    have h1:=SUM_take_le (CKW_0 h).2.2 w.length
    rw [List.take_length] at h1
    rw [← SHO_eq hs,hs.out_sum rfl (by omega)]; omega
theorem OUTS_q {T : Int} {w : List Int} (h : CKW T w = 0) (h0 : SUMI w ≠ 0) {i : Nat} {x n : Int} (e : w[i]? = some x) (en : (OUTS T w)[i]? = some n) :
    n = T * x / SUMI w ∨ (n = T * x / SUMI w + 1 ∧ 0 < T * x % SUMI w):=by
  obtain ⟨M,l,hs,_⟩:=c_share1 T w none h h0
  have h1:=SUM_take_le (CKW_0 h).2.2 w.length
  rw [List.take_length] at h1
  have o : OUTS T w = hs.out:=by unfold OUTS; rw [if_neg h0,SHO_eq hs]
  rw [o,hs.out_get e] at en
  injection en with en
  by_cases hk : (i : Int) ∈ hs.K
  · rw [if_pos hk] at en
    exact .inr ⟨en.symm,hs.k_pos rfl (by omega) e hk⟩
  · rw [if_neg hk] at en
    exact .inl en.symm
theorem OUTS_in {T : Int} {w : List Int} (h : CKW T w = 0) {i : Nat} {x n : Int} (e : w[i]? = some x) (en : (OUTS T w)[i]? = some n) : 0 ≤ n ∧ (0 < n → x ≠ 0):=by
  obtain ⟨_,hT,hw⟩:=CKW_0 h
  have hx:=hw x (List.mem_of_getElem? e)
  unfold OKL at hx
  by_cases h0 : SUMI w = 0
  · unfold OUTS at en
    rw [if_pos h0,List.getElem?_replicate] at en
    split at en
    · injection en with en; omega
    · cases en
  · have h1:=SUM_take_le hw w.length
    rw [List.take_length] at h1
    have S0 : 0 < SUMI w:=by omega
    have q0 : 0 ≤ T * x / SUMI w:=Int.ediv_nonneg (Int.mul_nonneg hT.1 hx.1) (by omega)
    rcases OUTS_q h h0 e en with h2 | ⟨h2,h3⟩
    · refine ⟨by omega,fun h4 h5 => ?_⟩
      subst h5
      simp at h2; omega
    · refine ⟨by omega,fun h4 h5 => ?_⟩
      subst h5
      simp at h3
theorem OUTS_take {T : Int} {w : List Int} (h : CKW T w = 0) (j : Nat) : 0 ≤ SUMI ((OUTS T w).take j) ∧ SUMI ((OUTS T w).take j) ≤ T:=by
  have lo:=OUTS_len h
  have nn : ∀ x ∈ OUTS T w,0 ≤ x:=by
    intro x hx
    obtain ⟨i,ei⟩:=List.mem_iff_getElem?.1 hx
    have hi : i < w.length:=by rw [← lo]; exact (List.getElem?_eq_some_iff.1 ei).1
    exact (OUTS_in h (List.getElem?_eq_getElem hi) ei).1
  have pos : ∀ l : List Int,(∀ x ∈ l,0 ≤ x) → 0 ≤ SUMI l:=by
    intro l
    induction l with
    | nil => intro _; simp [SUMI]
    | cons a l ih => intro hl; have:=ih (fun b hb => hl b (by simp [hb])); have:=hl a (by simp); simp only [SUMI]; omega
  have h1:=pos _ (fun x hx => nn x (List.mem_of_mem_take hx) : ∀ x ∈ (OUTS T w).take j,0 ≤ x)
  have h2:=pos _ (fun x hx => nn x (List.mem_of_mem_drop hx) : ∀ x ∈ (OUTS T w).drop j,0 ≤ x)
  have h3 : SUMI (OUTS T w) = SUMI ((OUTS T w).take j) + SUMI ((OUTS T w).drop j):=by rw [← SUMI_app,List.take_append_drop]
  have h4:=OUTS_sum h
  have h5 : 0 ≤ REST T w:=by
    have:=(CKW_0 h).2.1
    unfold REST; split <;> omega
  omega
end S
theorem ABS_bd {n : Int} (h : -1073741824 ≤ n ∧ n ≤ 1073741824) : S.OKL (ABS n):=by unfold S.OKL ABS; omega
noncomputable def REB (os : List Ofr) (set : Int) : List Int:=S.OUTS (PRC os set os.length) (WGS os set)
noncomputable def PAY (os : List Ofr) (set : Int) (i : Nat) (x : Ofr) : Int:=if BIT set i = 1 then x.pr - (REB os set).getD i 0 else 0
noncomputable def PAYS (os : List Ofr) (set : Int) : List Int:=PART (PAY os set) os os.length
open Classical in
noncomputable def PE (M : Mkt) (set : Int) : Int:=if ASK M set ≠ 0 then ASK M set else if AFT M set = none ∨ PRC M.os set M.os.length < 0 then 470 else 0
noncomputable def PAYV (M : Mkt) (set : Int) : PV:=if PE M set ≠ 0 then .tup [.nils,I (PE M set)] else .tup [.vs 1 ((PAYS M.os set).map I) none,I 0]
theorem PE_0 {M : Mkt} {set : Int} (h : PE M set = 0) : ASK M set = 0 ∧ AFT M set ≠ none ∧ 0 ≤ PRC M.os set M.os.length:=by
  unfold PE at h
  split at h
  · next h1 => exact absurd h h1
  · next h1 =>
    split at h
    · omega
    · next h2 => exact ⟨Decidable.not_not.1 h1,fun g => h2 (.inl g),by omega⟩
theorem WGS_ok {os : List Ofr} (h : PRB os) (set : Int) : ∀ x ∈ WGS os set,S.OKL x:=by
  intro x hx
  obtain ⟨i,hi⟩:=List.mem_iff_getElem?.1 hx
  unfold WGS at hi
  rw [PART_get] at hi
  cases e : os[i]? with
  | none => rw [e] at hi; cases hi
  | some y =>
    rw [e] at hi
    simp only [Option.map_some,Option.some.injEq] at hi
    subst hi
    have:=h y (List.mem_of_getElem? e)
    unfold WGT
    split
    · split
      · exact ABS_bd this
      · exact ⟨by omega,by omega⟩
    · exact ⟨by omega,by omega⟩
theorem CKW_ok {os : List Ofr} (h : PRB os) (set : Int) (hl : os.length ≤ 12) (h0 : 0 ≤ PRC os set os.length) : S.CKW (PRC os set os.length) (WGS os set) = 0:=by
  have b:=PRC_bd h set os.length
  unfold S.CKW
  rw [if_neg (by unfold WGS; rw [PART_len]; omega),if_pos ⟨⟨h0,by omega⟩,WGS_ok h set⟩]
theorem REB_len {os : List Ofr} (h : PRB os) (set : Int) (hl : os.length ≤ 12) (h0 : 0 ≤ PRC os set os.length) : (REB os set).length = os.length:=by
  unfold REB
  rw [S.OUTS_len (CKW_ok h set hl h0)]
  unfold WGS
  rw [PART_len]
theorem c_size (n : Int) (h : -1073741824 ≤ n ∧ n ≤ 1073741824) : ap Tryz.prog pol 20 [I n] = some (.ret (I (ABS n))):=by
  rw [ap_eq _ Tryz.func20 rfl Tryz.ntmps20 Tryz.results20 (by kernel_rfl) rfl (by exact Nat.le_of_ble_eq_true rfl)]
  simp (maxSteps:=999999) only [E0,seval,-Int.reduceNatCast',NUM,Int.zero_sub,(i64_in (x:=-n) (by unfold I64; omega)),ABS]
section
variable {M : Mkt} (hr : ∀ x ∈ M.D.rs,x.OK) {q : Cps} (hv : DV M.D q.cs q.gs q.ds q.ws) (hA : AWV M.aw q.av)
include hv hA
theorem c_schosen (set : Int) : ap Tryz.prog pol 19 [.agg (mcl M q),I set] = some (.ret (.fn 35 [.rop (mcl M q),.rop [I set]])):=by
  rw [ap_eq _ Tryz.func19 rfl Tryz.ntmps19 Tryz.results19 (by kernel_rfl) rfl (by exact Nat.le_of_ble_eq_true rfl)]
  simp (maxSteps:=999999) only [E0,seval,-Int.reduceNatCast',K1,hv.st,SAV hA]
theorem c_due (lo : M.os.length ≤ 12) (R : List Int) (P k : Nat) (x : Ofr) (u : Int) (e : M.os[k]? = some x) (eu : R[k]? = some u) (hx : -1073741824 ≤ x.pr ∧ x.pr ≤ 1073741824) (hu : 0 ≤ u ∧ u ≤ 1099511627776) (H : Heap) (hP : H.rows P = some (.gro 1 [.vs 1 (R.map I) none] 0)) :
    callF G Tryz.prog pol 22 [I k,.rop (mcl M q),.ptr P 1 0 0] H = some (.ret (I (x.pr - u)),⟨H.rows,H.next + 1⟩):=by
  have hk : k < M.os.length:=(List.getElem?_eq_some_iff.1 e).1
  have hk2 : k < R.length:=(List.getElem?_eq_some_iff.1 eu).1
  have e1:=map_get (f:=ofr q.cl) e
  have e2:=ints_get eu
  rw [callF_eq _ _ Tryz.func22 rfl Tryz.ntmps22 Tryz.results22 (by kernel_rfl) rfl (by exact Nat.le_of_ble_eq_true rfl)]
  simp (maxSteps:=999999) only [E0,seval,-Int.reduceNatCast',K1,hv.st,SAV hA,hP,e1,e2,List.length_map,Int.toNat_natCast,Nat.zero_add,Nat.zero_le,(show (k : Int) < M.os.length by omega),(show (k : Int) < R.length by omega),(show (0 : Int) ≤ k by omega),(i64_in (x:=x.pr - u) (by unfold I64; omega))]
include hr
set_option maxHeartbeats 4000000 in
theorem c_payE (set : Int) (e : Int) (he : e ≠ 0) (h : (ASK M set = e) ∨ (e = 470 ∧ ASK M set = 0 ∧ (AFT M set = none ∨ PRC M.os set M.os.length < 0))) : ap Tryz.prog pol 7 [.agg (mcl M q),I set] = some (.ret (.tup [.nils,I e])):=by
  have cv:=c_value hr hv hA set
  unfold VALV at cv
  rw [ap_eq _ Tryz.func7 rfl Tryz.ntmps7 Tryz.results7 (by kernel_rfl) rfl (by exact Nat.le_of_ble_eq_true rfl)]
  rcases h with rfl | ⟨rfl,h0,h⟩
  · rw [if_pos he] at cv
    simp (maxSteps:=999999) only [E0,seval,-Int.reduceNatCast',K1,hv.st,SAV hA,cv,he]
  · rw [if_neg (fun g => g h0)] at cv
    by_cases ha : AFT M set = none
    · rw [if_pos ha] at cv
      simp (maxSteps:=999999) only [E0,seval,-Int.reduceNatCast',K1,hv.st,SAV hA,cv]
    · rw [if_neg ha] at cv
      have h:=h.resolve_left ha
      simp (maxSteps:=999999) only [E0,seval,-Int.reduceNatCast',K1,hv.st,SAV hA,cv,h]
end
theorem ite_chkF3 {α : Type} {ops : Array Oper} (L : Nat → Nat → Nat → List (Nat × MF)) (a b c : Nat) (hab : a ≠ b) (hac : a ≠ c) (hbc : b ≠ c) {x y z : α} (h : ∀ f : Nat → Nat,f 1 = a → f 2 = b → f 3 = c → renL f (L 1 2 3) = L a b c) (hk : chkL ops (L 1 2 3) (L 1 2 3) = false) (e : (if chkL ops (L a b c) (L a b c) = true then x else y) = z) : y = z:=by
  obtain ⟨f,g,h1,h2,e1,_⟩:=perm_ext id id (fun _ => rfl) (fun _ => rfl) 1 a
  obtain ⟨f',g',h1',h2',e2,k2⟩:=perm_ext f g h1 h2 2 b
  obtain ⟨f'',g'',h1'',h2'',e3,k3⟩:=perm_ext f' g' h1' h2' 3 c
  have q1 : f' 1 = a:=by rw [k2 1 (by decide) (by omega)]; exact e1
  have : chkL ops (L a b c) (L a b c) = false:=by rw [← h f'' (by rw [k3 1 (by decide) (by omega)]; exact q1) (by rw [k3 2 (by decide) (by omega)]; exact e2) e3,chkL_ren (inv_inj h1'')]; exact hk
  rw [if_neg (by rw [this]; simp)] at e; exact e
section
variable {M : Mkt} (hr : ∀ x ∈ M.D.rs,x.OK) {q : Cps} (hv : DV M.D q.cs q.gs q.ds q.ws) (hA : AWV M.aw q.av)
include hr hv hA
set_option maxHeartbeats 8000000 in
theorem c_pay0 (set : Int) (h0 : ASK M set = 0) (ha : AFT M set ≠ none) (hp : 0 ≤ PRC M.os set M.os.length) (R : List Int) (r : Int) (lR : R.length = M.os.length) (bR : ∀ x ∈ R,0 ≤ x ∧ x ≤ 1099511627776)
    (hs : ∀ c,ap Tryz.prog pol 21 [I (PRC M.os set M.os.length),.vs 1 ((WGS M.os set).map I) c] = some (.ret (.tup [.vs 1 (R.map I) none,I r,I 0]))) :
    ap Tryz.prog pol 7 [.agg (mcl M q),I set] = some (.ret (.tup [.vs 1 ((PART (fun i x => if BIT set i = 1 then x.pr - R.getD i 0 else 0) M.os M.os.length).map I) none,I 0])):=by
  have cv:=c_value hr hv hA set
  unfold VALV at cv
  rw [if_neg (fun g => g h0),if_neg ha] at cv
  have prb:=MC_prb (ASK_0 h0).1
  have lo:=(MC_0 (ASK_0 h0).1).2.2.1
  have cc:=c_schosen hv hA set
  have zs : List.replicate M.os.length (I 0) = (PART (WGT set) M.os 0).map I:=by rw [PART_0]; simp
  rw [ap_eq _ Tryz.func7 rfl Tryz.ntmps7 Tryz.results7 (by kernel_rfl) rfl (by exact Nat.le_of_ble_eq_true rfl)]
  simp (maxSteps:=999999) only [E0,seval,-Int.reduceNatCast',zs,(show (0 : Int) ≤ M.os.length by omega),(show (M.os.length : Int) ≤ maxN by unfold maxN; omega),(show 8 ≤ maxB by decide),Int.toNat_natCast,K1,hv.st,SAV hA,cv,cc,(show ¬ PRC M.os set M.os.length < 0 by omega),List.length_map,(show ¬ (M.os.length : Int) < 0 by omega)]
  rw [callF_eq _ _ Tryz.func35 rfl Tryz.ntmps35 Tryz.results35 (by kernel_rfl) rfl (by exact Nat.le_of_ble_eq_true rfl)]
  simp (maxSteps:=999999) only [E0,seval,-Int.reduceNatCast',K1,hv.st,SAV hA,List.length_map]
  generalize hL : W _ (.loop _) _ = L
  obtain ⟨ex,s,rfl,rfl,g1,g2,g3,g4,g5,gn,gd,gf⟩:=loop_at hL (α:=Nat) (fun k => M.os.length - k)
    (fun s0 k s => k ≤ M.os.length ∧ s.tmps 9 = I k ∧ s.tmps 8 = I M.os.length ∧ s.tmps 7 = .vs 6 (M.os.map (ofr q.cl)) q.co ∧ s.tmps 0 = .yield 5 ∧ s.tmps 2 = .rop [I set] ∧ s.H.rows 1 = some (.gro 1 [.nils] 0) ∧ s.H.rows 2 = some (.gro 1 ((PART (WGT set) M.os k).map I) 0) ∧ s.H.rows 3 = some (.gro 1 [.gsl 1 2 M.os.length 0 M.os.length] 0) ∧ s.H.rows 4 = some .dfr ∧ s.H.rows 5 = s0.H.rows 5 ∧ 6 < s.H.next ∧ s.defers = [] ∧ s.fid = 6)
    (fun s0 ex s => ex = .exit 0 ∧ s.H.rows 1 = some (.gro 1 [.nils] 0) ∧ s.H.rows 2 = some (.gro 1 ((WGS M.os set).map I) 0) ∧ s.H.rows 3 = some (.gro 1 [.gsl 1 2 M.os.length 0 M.os.length] 0) ∧ s.H.rows 4 = some .dfr ∧ s.H.rows 5 = s0.H.rows 5 ∧ 6 < s.H.next ∧ s.defers = [] ∧ s.fid = 6) 0
    (by simp (maxSteps:=999999) only [E0,seval,-Int.reduceNatCast']; exact ⟨Nat.zero_le _,by simp⟩) (by
      rintro k s r hW ⟨hk,h9,h8,h7,h0,h2,g1,g2,g3,g4,g5,gn,gd,gf⟩
      simp (maxSteps:=999999) only [E0,seval,-Int.reduceNatCast'] at g5
      by_cases hp' : k < M.os.length
      rotate_left
      · simp (maxSteps:=999999) only [E0,seval,-Int.reduceNatCast',NUM,h9,h8,gd,gf,(show ¬ (k : Int) < M.os.length by omega)] at hW
        subst hW
        have : k = M.os.length:=by omega
        subst this
        refine rd_exit ⟨rfl,?_⟩
        simp (maxSteps:=999999) only [E0,seval,-Int.reduceNatCast',g1,g2,g3,g4,g5,gd,WGS]
        exact gn
      have e0 : M.os[k]? = some M.os[k]:=List.getElem?_eq_getElem hp'
      have e1:=map_get (f:=ofr q.cl) e0
      have xb:=prb _ (List.getElem_mem hp')
      have p1:=PART_succ (g:=WGT set) e0
      have p2:=PART_same (g:=WGT set) e0
      have pl:=PART_len (WGT set) M.os k
      have pz : (PART (WGT set) M.os k)[k]? = some 0:=by rw [PART_get,e0]; simp
      have pi:=ints_get pz
      generalize M.os[k] = x at *
      have pg : WGT set k x = if BIT set k = 1 then ABS x.pr else 0:=rfl
      have cs:=c_size x.pr xb
      generalize PART (WGT set) M.os k = Q at *
      rcases hb5 : s.boxes 5 with _ | ⟨v5,c5⟩
      all_goals
        by_cases hb : BIT set k = 1
        · rw [if_pos hb] at pg
          rw [pg] at p1
          simp (maxSteps:=999999) only [E0,seval,-Int.reduceNatCast',NUM,Tryz.func7,SRCH,SFRM,SCRP,SRGT,SDTY,hv.st,SAV hA,SOFR,SLOT,INTS,INB,hb,cs,pl,pi,h9,h8,h7,h0,h2,g1,g2,g3,g4,g5,gd,gf,hb5,e1,List.length_map,Int.toNat_natCast,Nat.zero_add,Nat.zero_le,(show k < M.os.length by omega),(show (k : Int) < M.os.length by omega),(show (0 : Int) ≤ k by omega),(show ¬ (k : Int) < 0 by omega),(i64_in (x:=(k : Int) + 1) (by unfold I64; omega))] at hW
          rw [if_pos (by kernel_rfl)] at hW
          subst hW
          refine rd_next (k + 1) ?_ (show M.os.length - (k + 1) < M.os.length - k by omega)
          simp (maxSteps:=999999) only [E0,seval,-Int.reduceNatCast',h8,h7,h0,h2,g1,g2,g3,g4,g5,gd,p1]
          refine ⟨by omega,by simp,?_,by omega⟩
          rw [List.map_set]
        · rw [if_neg hb] at pg
          have p2:=p2 pg
          simp (maxSteps:=999999) only [E0,seval,-Int.reduceNatCast',NUM,Tryz.func7,SRCH,SFRM,SCRP,SRGT,SDTY,hv.st,SAV hA,SOFR,SLOT,INTS,INB,hb,h9,h8,h7,h0,h2,g1,g2,g3,g4,g5,gd,gf,hb5,e1,List.length_map,Int.toNat_natCast,(show (k : Int) < M.os.length by omega),(show (0 : Int) ≤ k by omega),(show ¬ (k : Int) < 0 by omega),(i64_in (x:=(k : Int) + 1) (by unfold I64; omega))] at hW
          subst hW
          refine rd_next (k + 1) ?_ (show M.os.length - (k + 1) < M.os.length - k by omega)
          simp (maxSteps:=999999) only [E0,seval,-Int.reduceNatCast',h8,h7,h0,h2,g1,g2,g3,g4,g5,gd,p2]
          exact ⟨by omega,by simp,gn⟩)
  simp (maxSteps:=999999) only [E0,seval,-Int.reduceNatCast'] at g5
  clear hL
  have hw : (WGS M.os set).length = M.os.length:=PART_len _ _ _
  have wt : List.take M.os.length ((WGS M.os set).map I) = (WGS M.os set).map I:=List.take_of_length_le (by rw [List.length_map,hw]; exact Nat.le_refl _)
  have zs2 : List.replicate M.os.length (I 0) = (PART (fun i x => if BIT set i = 1 then x.pr - R.getD i 0 else 0) M.os 0).map I:=by rw [PART_0]; simp
  obtain ⟨f1,t1,b1,d1,H1,r1⟩:=s
  dsimp only at g1 g2 g3 g4 g5 gn gd gf
  obtain ⟨n1,H1n⟩ : ∃ n,n = H1.next:=⟨_,rfl⟩
  obtain ⟨P,hP⟩ : ∃ P,H1.next = P:=⟨_,rfl⟩
  rw [hP] at gn
  have np : ((¬ P = 1) ∧ (¬ P = 2) ∧ (¬ P = 3) ∧ (¬ P = 4) ∧ (¬ P = 5) ∧ (¬ P = 0) ∧ (¬ 4 = P + 1) ∧ (¬ 4 = P + 1 + 1) ∧ (¬ 4 = P + 1 + 1 + 1) ∧ (¬ 4 = P + 1 + 1 + 1 + 1) ∧ (¬ P = 3) ∧ (¬ P = 2) ∧ (¬ P = 1) ∧ (¬ 3 = P) ∧ (¬ 2 = P) ∧ (¬ 1 = P) ∧ (¬ 0 = P)) ∧ (¬ 1 = P) ∧ (¬ 2 = P) ∧ (¬ 3 = P) ∧ (¬ 4 = P) ∧ (¬ 5 = P):=by omega
  subst gd
  simp (maxSteps:=999999) only [E0,seval,-Int.reduceNatCast',NUM,NADD,Nat.zero_add,Nat.le_refl,np, hP,g1,g2,g3,g4,g5,gf,hs,hw,wt,zs2,SRCH,SFRM,SCRP,SRGT,SDTY,hv.st,SAV hA,SOFR,SLOT,INTS,cc,Tryz.func7,List.length_map,(show ¬ (M.os.length : Int) < 0 by omega),(show (0 : Int) ≤ M.os.length by omega),(show (M.os.length : Int) ≤ maxN by unfold maxN; omega),(show 8 ≤ maxB by decide),Int.toNat_natCast]
  have pp : (¬ P = P + 1) ∧ (¬ P = P + 1 + 1) ∧ (¬ P = P + 1 + 1 + 1) ∧ (¬ P = P + 1 + 1 + 1 + 1) ∧ (¬ P = P + 1 + 1 + 1 + 1 + 1) ∧ (¬ P + 1 = P) ∧ (¬ P + 1 = P + 1 + 1) ∧ (¬ P + 1 = P + 1 + 1 + 1) ∧ (¬ P + 1 = P + 1 + 1 + 1 + 1) ∧ (¬ P + 1 = P + 1 + 1 + 1 + 1 + 1) ∧ (¬ P + 1 + 1 = P) ∧ (¬ P + 1 + 1 = P + 1) ∧ (¬ P + 1 + 1 = P + 1 + 1 + 1) ∧ (¬ P + 1 + 1 = P + 1 + 1 + 1 + 1) ∧ (¬ P + 1 + 1 = P + 1 + 1 + 1 + 1 + 1) ∧ (¬ P + 1 + 1 + 1 = P) ∧ (¬ P + 1 + 1 + 1 = P + 1) ∧ (¬ P + 1 + 1 + 1 = P + 1 + 1) ∧ (¬ P + 1 + 1 + 1 = P + 1 + 1 + 1 + 1) ∧ (¬ P + 1 + 1 + 1 = P + 1 + 1 + 1 + 1 + 1) ∧ (¬ P + 1 + 1 + 1 + 1 = P) ∧ (¬ P + 1 + 1 + 1 + 1 = P + 1) ∧ (¬ P + 1 + 1 + 1 + 1 = P + 1 + 1) ∧ (¬ P + 1 + 1 + 1 + 1 = P + 1 + 1 + 1) ∧ (¬ P + 1 + 1 + 1 + 1 = P + 1 + 1 + 1 + 1 + 1) ∧ (¬ P + 1 + 1 + 1 + 1 + 1 = P) ∧ (¬ P + 1 + 1 + 1 + 1 + 1 = P + 1) ∧ (¬ P + 1 + 1 + 1 + 1 + 1 = P + 1 + 1) ∧ (¬ P + 1 + 1 + 1 + 1 + 1 = P + 1 + 1 + 1) ∧ (¬ P + 1 + 1 + 1 + 1 + 1 = P + 1 + 1 + 1 + 1):=by omega
  generalize hE : callF _ _ _ _ _ _ = E
  rw [callF_eq _ _ Tryz.func35 rfl Tryz.ntmps35 Tryz.results35 (by kernel_rfl) rfl (by exact Nat.le_of_ble_eq_true rfl)] at hE
  simp (maxSteps:=999999) only [E0,seval,-Int.reduceNatCast',NUM,NADD,np,pp,hP,SRCH,SFRM,SCRP,SRGT,SDTY,hv.st,SAV hA,SOFR,SLOT,INTS,List.length_map] at hE
  generalize hL : W _ (.loop _) _ = L at hE
  obtain ⟨ex,s,rfl,rfl,g1,g2,g7,g3,g4,g5,g6,gn,gd,gf⟩:=loop_at hL (α:=Nat) (fun k => M.os.length - k)
    (fun s0 k s => k ≤ M.os.length ∧ s.tmps 9 = I k ∧ s.tmps 8 = I M.os.length ∧ s.tmps 7 = .vs 6 (M.os.map (ofr q.cl)) q.co ∧ s.tmps 0 = .yield (P + 1 + 1 + 1 + 1) ∧ s.tmps 2 = .rop [I set] ∧ s.H.rows (P + 1 + 1) = some (.gro 1 ((PART (fun i x => if BIT set i = 1 then x.pr - R.getD i 0 else 0) M.os k).map I) 0) ∧ s.H.rows 1 = some (.gro 1 [.gsl 1 (P + 1 + 1) M.os.length 0 M.os.length] 0) ∧ s.H.rows 4 = some .dfr ∧ s.H.rows P = some (.gro 1 [.vs 1 (R.map I) none] 0) ∧ s.H.rows (P + 1) = some (.gro 1 [.fn 22 [.rop (mcl M q),.ptr P 1 0 0]] 0) ∧ s.H.rows (P + 1 + 1 + 1) = some .dfr ∧ s.H.rows (P + 1 + 1 + 1 + 1) = s0.H.rows (P + 1 + 1 + 1 + 1) ∧ P + 1 + 1 + 1 + 1 + 1 < s.H.next ∧ s.defers = [] ∧ s.fid = P + 1 + 1 + 1 + 1 + 1)
    (fun s0 ex s => ex = .exit 0 ∧ s.H.rows (P + 1 + 1) = some (.gro 1 ((PART (fun i x => if BIT set i = 1 then x.pr - R.getD i 0 else 0) M.os M.os.length).map I) 0) ∧ s.H.rows 1 = some (.gro 1 [.gsl 1 (P + 1 + 1) M.os.length 0 M.os.length] 0) ∧ s.H.rows 4 = some .dfr ∧ s.H.rows P = some (.gro 1 [.vs 1 (R.map I) none] 0) ∧ s.H.rows (P + 1) = some (.gro 1 [.fn 22 [.rop (mcl M q),.ptr P 1 0 0]] 0) ∧ s.H.rows (P + 1 + 1 + 1) = some .dfr ∧ s.H.rows (P + 1 + 1 + 1 + 1) = s0.H.rows (P + 1 + 1 + 1 + 1) ∧ P + 1 + 1 + 1 + 1 + 1 < s.H.next ∧ s.defers = [] ∧ s.fid = P + 1 + 1 + 1 + 1 + 1) 0
    (by simp (maxSteps:=999999) only [E0,seval,-Int.reduceNatCast',NADD,np,pp,g4]; exact ⟨Nat.zero_le _,by simp⟩) (by
      rintro k s r hW ⟨hk,h9,h8,h7,h0,h2,g1,g2,g7,g3,g4,g5,g6,gn,gd,gf⟩
      simp (maxSteps:=999999) only [E0,seval,-Int.reduceNatCast',NADD,np,pp] at g6
      by_cases hp' : k < M.os.length
      rotate_left
      · simp (maxSteps:=999999) only [E0,seval,-Int.reduceNatCast',NUM,h9,h8,gd,gf,(show ¬ (k : Int) < M.os.length by omega)] at hW
        subst hW
        have : k = M.os.length:=by omega
        subst this
        refine rd_exit ⟨rfl,?_⟩
        simp (maxSteps:=999999) only [E0,seval,-Int.reduceNatCast',NADD,np,pp,g1,g2,g7,g3,g4,g5,g6,gd]
        exact gn
      have e0 : M.os[k]? = some M.os[k]:=List.getElem?_eq_getElem hp'
      have e1:=map_get (f:=ofr q.cl) e0
      have xb:=prb _ (List.getElem_mem hp')
      have r0 : R[k]? = some (R[k]'(by omega)):=List.getElem?_eq_getElem _
      have ub:=bR _ (List.getElem_mem (l:=R) (n:=k) (by omega))
      have rd : R.getD k 0 = R[k]'(by omega):=by simp [List.getD_eq_getElem?_getD,r0]
      have p1:=PART_succ (g:=(fun i x => if BIT set i = 1 then x.pr - R.getD i 0 else 0)) e0
      have p2:=PART_same (g:=(fun i x => if BIT set i = 1 then x.pr - R.getD i 0 else 0)) e0
      have pl:=PART_len (fun i x => if BIT set i = 1 then x.pr - R.getD i 0 else 0) M.os k
      have pz : (PART (fun i x => if BIT set i = 1 then x.pr - R.getD i 0 else 0) M.os k)[k]? = some 0:=by rw [PART_get,e0]; simp
      have pi:=ints_get pz
      generalize (R[k]'(by omega)) = u at *
      generalize M.os[k] = x at *
      have cd:=fun H h => c_due (M:=M) hv hA lo R P k x u e0 r0 xb ub H h
      simp only [rd] at p1 p2
      generalize PART (fun i x => if BIT set i = 1 then x.pr - R.getD i 0 else 0) M.os k = Q at *
      rcases hb5 : s.boxes 5 with _ | ⟨v5,c5⟩
      all_goals
        by_cases hb : BIT set k = 1
        rotate_left
        · rw [if_neg hb] at p2
          have p2:=p2 rfl
          simp (maxSteps:=999999) only [E0,seval,-Int.reduceNatCast',NUM,NADD,np,pp,Tryz.func7,SRCH,SFRM,SCRP,SRGT,SDTY,hv.st,SAV hA,SOFR,SLOT,INTS,INB,hb,h9,h8,h7,h0,h2,g1,g2,g7,g3,g4,g5,g6,gd,gf,hb5,e1,List.length_map,Int.toNat_natCast,(show (k : Int) < M.os.length by omega),(show (0 : Int) ≤ k by omega),(show ¬ (k : Int) < 0 by omega),(i64_in (x:=(k : Int) + 1) (by unfold I64; omega))] at hW
          subst hW
          refine rd_next (k + 1) ?_ (show M.os.length - (k + 1) < M.os.length - k by omega)
          simp (maxSteps:=999999) only [E0,seval,-Int.reduceNatCast',NADD,np,pp,h8,h7,h0,h2,g1,g2,g7,g3,g4,g5,g6,gd,p2]
          exact ⟨by omega,by simp,gn⟩
        · rw [if_pos hb] at p1
          simp (maxSteps:=999999) only [E0,seval,-Int.reduceNatCast',BRU,NUM,NADD,np,pp,Tryz.func7,SRCH,SFRM,SCRP,SRGT,SDTY,hv.st,SAV hA,SOFR,SLOT,INTS,INB,hb,cd,pl,pi,h9,h8,h7,h0,h2,g1,g2,g7,g3,g4,g5,g6,gd,gf,hb5,e1,List.length_map,Int.toNat_natCast,Nat.zero_add,Nat.zero_le,(show k < M.os.length by omega),(show (k : Int) < M.os.length by omega),(show (0 : Int) ≤ k by omega),(show ¬ (k : Int) < 0 by omega),(i64_in (x:=(k : Int) + 1) (by unfold I64; omega))] at hW
          rw [if_pos (by kernel_rfl)] at hW
          replace hW:=ite_chkF3 (fun a b c => [(6,[Vr.row c],[Vr.row c]),(4,[Vr.all],[Vr.all]),(2,[Vr.row b],[]),(0,[Vr.row a],[])]) 1 (P + 1) (P + 1 + 1) (by omega) (by omega) (by omega) (by intro f h1 h2 h3; simp [renL,renM,renV,h1,h2,h3]) (by kernel_rfl) hW
          rw [brute_eq (L:=[[0,1,2,3,4,5,6],[0,1,3,2,4,5,6],[0,2,1,3,4,5,6],[0,2,3,1,4,5,6],[0,2,3,4,1,5,6],[0,3,1,2,4,5,6],[0,3,2,1,4,5,6],[0,3,2,4,1,5,6],[1,0,2,3,4,5,6],[1,0,3,2,4,5,6],[1,2,0,3,4,5,6],[1,2,3,0,4,5,6],[1,2,3,4,0,5,6],[1,3,0,2,4,5,6],[1,3,2,0,4,5,6],[1,3,2,4,0,5,6],[2,0,1,3,4,5,6],[2,0,3,1,4,5,6],[2,0,3,4,1,5,6],[2,1,0,3,4,5,6],[2,1,3,0,4,5,6],[2,1,3,4,0,5,6],[2,3,0,1,4,5,6],[2,3,0,4,1,5,6],[2,3,1,0,4,5,6],[2,3,1,4,0,5,6],[2,3,4,0,1,5,6],[2,3,4,1,0,5,6],[3,0,1,2,4,5,6],[3,0,2,1,4,5,6],[3,0,2,4,1,5,6],[3,1,0,2,4,5,6],[3,1,2,0,4,5,6],[3,1,2,4,0,5,6],[3,2,0,1,4,5,6],[3,2,0,4,1,5,6],[3,2,1,0,4,5,6],[3,2,1,4,0,5,6],[3,2,4,0,1,5,6],[3,2,4,1,0,5,6]]) (by kernel_rfl) (by kernel_rfl) ?hB] at hW
          case hB => simp (maxSteps:=999999) only [E0,seval,-Int.reduceNatCast',upd_sort,BRU,NUM,NADD,np,pp,Tryz.func7,SRCH,SFRM,SCRP,SRGT,SDTY,hv.st,SAV hA,SOFR,SLOT,INTS,INB,hb,cd,pl,pi,h9,h8,h7,h0,h2,g1,g2,g7,g3,g4,g5,g6,gd,gf,hb5,e1,List.length_map,Int.toNat_natCast,Nat.zero_add,Nat.zero_le,(show k < M.os.length by omega),(show (k : Int) < M.os.length by omega),(show (0 : Int) ≤ k by omega),(show ¬ (k : Int) < 0 by omega),(i64_in (x:=(k : Int) + 1) (by unfold I64; omega))]
          simp (maxSteps:=999999) only [E0,seval,-Int.reduceNatCast',BRU,NUM,NADD,np,pp,Tryz.func7,SRCH,SFRM,SCRP,SRGT,SDTY,hv.st,SAV hA,SOFR,SLOT,INTS,INB,hb,cd,pl,pi,h9,h8,h7,h0,h2,g1,g2,g7,g3,g4,g5,g6,gd,gf,hb5,e1,List.length_map,Int.toNat_natCast,Nat.zero_add,Nat.zero_le,(show k < M.os.length by omega),(show (k : Int) < M.os.length by omega),(show (0 : Int) ≤ k by omega),(show ¬ (k : Int) < 0 by omega),(i64_in (x:=(k : Int) + 1) (by unfold I64; omega))] at hW
          subst hW
          refine rd_next (k + 1) ?_ (show M.os.length - (k + 1) < M.os.length - k by omega)
          simp (maxSteps:=999999) only [E0,seval,-Int.reduceNatCast',NADD,np,pp,h8,h7,h0,h2,g1,g2,g7,g3,g4,g5,g6,gd,p1]
          refine ⟨by omega,by simp,?_,by omega⟩
          rw [List.map_set])
  clear hL
  obtain ⟨f2,t2,b2,d2,H2,r2⟩:=s
  dsimp only at g1 g2 g7 g3 g4 g5 g6 gn gd gf hE
  subst gd
  simp (maxSteps:=999999) only [E0,seval,-Int.reduceNatCast',NADD,np,pp] at g6
  simp (maxSteps:=999999) only [E0,seval,-Int.reduceNatCast',NUM,NADD,np,pp] at hE
  subst hE
  have wt2 : List.take M.os.length ((PART (fun i x => if BIT set i = 1 then x.pr - R.getD i 0 else 0) M.os M.os.length).map I) = (PART (fun i x => if BIT set i = 1 then x.pr - R.getD i 0 else 0) M.os M.os.length).map I:=List.take_of_length_le (by rw [List.length_map,PART_len]; exact Nat.le_refl _)
  simp (maxSteps:=999999) only [E0,seval,-Int.reduceNatCast',wt2,NUM,NADD,np,pp,g1,g2,g7,g3,g4,g5,g6,gf,PART_len,INTS,List.length_map,Nat.zero_add,Nat.le_refl]
end
theorem REB_bd {os : List Ofr} (h : PRB os) (set : Int) (hl : os.length ≤ 12) (h0 : 0 ≤ PRC os set os.length) : ∀ x ∈ REB os set,0 ≤ x ∧ x ≤ 1099511627776:=by
  have ck:=CKW_ok h set hl h0
  have hT:=(S.CKW_0 ck).2.1
  intro x hx
  obtain ⟨i,ei⟩:=List.mem_iff_getElem?.1 hx
  have t1:=S.OUTS_take ck i
  have t2:=S.OUTS_take ck (i + 1)
  have:=S.SUMI_take (l:=S.OUTS (PRC os set os.length) (WGS os set)) ei
  have hn : ∃ w,(WGS os set)[i]? = some w:=by
    have hi : i < (REB os set).length:=(List.getElem?_eq_some_iff.1 ei).1
    unfold REB at hi
    rw [S.OUTS_len ck] at hi
    exact ⟨_,List.getElem?_eq_getElem hi⟩
  obtain ⟨w,hw⟩:=hn
  have:=(S.OUTS_in ck hw ei).1
  omega
section
variable {M : Mkt} (hr : ∀ x ∈ M.D.rs,x.OK) {q : Cps} (hv : DV M.D q.cs q.gs q.ds q.ws) (hA : AWV M.aw q.av)
include hr hv hA
theorem c_pay (set : Int) : ap Tryz.prog pol 7 [.agg (mcl M q),I set] = some (.ret (PAYV M set)):=by
  unfold PAYV
  by_cases h : PE M set = 0
  rotate_left
  · rw [if_pos h]
    refine c_payE hr hv hA set _ h ?_
    unfold PE at h ⊢
    split
    · exact .inl rfl
    · next h1 =>
      split
      · next h2 => exact .inr ⟨rfl,Decidable.not_not.1 h1,h2⟩
      · next h2 => rw [if_neg h1,if_neg h2] at h; exact absurd rfl h
  rw [if_neg (fun g => g h)]
  obtain ⟨h0,ha,hp⟩:=PE_0 h
  have prb:=MC_prb (ASK_0 h0).1
  have lo:=(MC_0 (ASK_0 h0).1).2.2.1
  exact c_pay0 hr hv hA set h0 ha hp (REB M.os set) _ (REB_len prb set lo hp) (REB_bd prb set lo hp) (fun c => by rw [S.c_share,S.SHV_ok (CKW_ok prb set lo hp)]; rfl)
end
theorem PAYS_get {os : List Ofr} {set : Int} {i : Nat} {x : Ofr} (e : os[i]? = some x) : (PAYS os set)[i]? = some (PAY os set i x):=by
  unfold PAYS
  rw [PART_get,e,Option.map_some,if_pos (List.getElem?_eq_some_iff.1 e).1]
theorem PAYS_len (os : List Ofr) (set : Int) : (PAYS os set).length = os.length:=PART_len _ _ _
theorem PAY_bd {M : Mkt} {set : Int} (h : PE M set = 0) {i : Nat} {x : Ofr} (e : M.os[i]? = some x) : -1100585369600 ≤ PAY M.os set i x ∧ PAY M.os set i x ≤ 1100585369600:=by
  obtain ⟨h0,ha,hp⟩:=PE_0 h
  have prb:=MC_prb (ASK_0 h0).1
  have lo:=(MC_0 (ASK_0 h0).1).2.2.1
  have hi:=(List.getElem?_eq_some_iff.1 e).1
  have xb:=prb x (List.mem_of_getElem? e)
  unfold PAY
  split
  · have hl : i < (REB M.os set).length:=by rw [REB_len prb set lo hp]; exact hi
    have r0 : (REB M.os set)[i]? = some ((REB M.os set)[i]):=List.getElem?_eq_getElem hl
    have rd : (REB M.os set).getD i 0 = (REB M.os set)[i]:=by simp [List.getD_eq_getElem?_getD,r0]
    have ub:=REB_bd prb set lo hp _ (List.getElem_mem hl)
    rw [rd]; omega
  · omega
def MON (g : Nat → Ofr → Int) (os : List Ofr) (f : Int) : Nat → Int
  | 0 => 0
  | k + 1 => MON g os f k + match os[k]? with
    | some x => if x.fm = f then g k x else 0
    | none => 0
theorem MON_succ {g : Nat → Ofr → Int} {os : List Ofr} {f : Int} {k : Nat} {x : Ofr} (e : os[k]? = some x) : MON g os f (k + 1) = MON g os f k + if x.fm = f then g k x else 0:=by
  show MON g os f k + _ = _
  rw [e]
theorem MON_bd {g : Nat → Ofr → Int} {os : List Ofr} {B : Int} (hB : 0 ≤ B) (h : ∀ i x,os[i]? = some x → -B ≤ g i x ∧ g i x ≤ B) (f : Int) : ∀ k : Nat,-(B * k) ≤ MON g os f k ∧ MON g os f k ≤ B * k
  | 0 => by simp [MON]
  | k + 1 => by
    have ih:=MON_bd hB h f k
    have e2 : B * ((k + 1 : Nat) : Int) = B * k + B:=by rw [Int.natCast_add,Int.mul_add]; simp
    rw [e2]
    cases e : os[k]? with
    | none =>
      have : MON g os f (k + 1) = MON g os f k:=by
        show MON g os f k + _ = _
        rw [e]; simp
      rw [this]; omega
    | some x =>
      have:=h k x e
      rw [MON_succ e]
      split <;> omega
noncomputable def MONS (M : Mkt) (set : Int) : List Int:=(List.range M.D.fs.length).map fun f : Nat => MON (PAY M.os set) M.os f M.os.length
theorem MONS_len (M : Mkt) (set : Int) : (MONS M set).length = M.D.fs.length:=by simp [MONS]
theorem MONS_get {M : Mkt} {set : Int} {f : Nat} (h : f < M.D.fs.length) : (MONS M set)[f]? = some (MON (PAY M.os set) M.os f M.os.length):=by
  unfold MONS
  rw [List.getElem?_map,List.getElem?_range h]; rfl
theorem MON_bd12 {M : Mkt} {set : Int} (h : PE M set = 0) (f : Int) {k : Nat} (hk : k ≤ 12) : -13207024435200 ≤ MON (PAY M.os set) M.os f k ∧ MON (PAY M.os set) M.os f k ≤ 13207024435200:=by
  have:=MON_bd (g:=PAY M.os set) (B:=1100585369600) (by omega) (fun i x e => PAY_bd h e) f k
  omega
theorem TVL.mem {T : List (List Int)} {tv : List PV} (h : TVL T tv) : ∀ v ∈ tv,∃ l,RV l v:=by
  intro v hv
  obtain ⟨i,ei⟩:=List.mem_iff_getElem?.1 hv
  have hi:=(List.getElem?_eq_some_iff.1 ei).1
  obtain ⟨w,ew,hw⟩:=h.get i _ (List.getElem?_eq_getElem (by rw [← h.len]; exact hi))
  rw [ei] at ew
  cases ew
  exact ⟨_,hw⟩
theorem STV {T : List (List Int)} {tv : List PV} (h : TVL T tv) : strip0L tv = tv ∧ tv.map strip0 = tv ∧ (∀ H,tv.map (strip1 H) = tv) ∧ (∀ H,tv.map (strip2 H) = tv) ∧ (∀ H,strip1L H tv = tv) ∧ (∀ H,strip2L H tv = tv):=by
  have h0 : tv.map strip0 = tv:=map_id_of fun v hv => by obtain ⟨l,hl⟩:=h.mem v hv; exact (RVS hl).1.1
  have h1 : ∀ H,tv.map (strip1 H) = tv:=fun H => map_id_of fun v hv => by obtain ⟨l,hl⟩:=h.mem v hv; exact (RVS hl).1.2.1 H
  have h2 : ∀ H,tv.map (strip2 H) = tv:=fun H => map_id_of fun v hv => by obtain ⟨l,hl⟩:=h.mem v hv; exact (RVS hl).1.2.2 H
  exact ⟨by rw [strip0L_map,h0],h0,h1,h2,fun H => by rw [strip1L_map,h1],fun H => by rw [strip2L_map,h2]⟩
noncomputable def BKV (M : Mkt) (set : Int) (tv : List PV) : PV:=if PE M set ≠ 0 then .tup [.vs 1 [] none,.nils,I (PE M set)] else .tup [.vs 1 ((MONS M set).map I) none,.vs 1 tv none,I 0]
def PUR (g : Nat → Ofr → Int) (os : List Ofr) (k : Nat) (m : List (Int × PV)) : Prop:=∀ f,aget m f = some (I (MON g os f k)) ∨ (aget m f = none ∧ MON g os f k = 0)
theorem PUR_look {g : Nat → Ofr → Int} {os : List Ofr} {k : Nat} {m : List (Int × PV)} (h : PUR g os k m) (f : Int) : lookA (I 0) false (aget m f) = I (MON g os f k):=by
  rcases h f with h | ⟨h,h0⟩
  · rw [h]; rfl
  · rw [h,h0]; rfl
theorem PUR_succ {g : Nat → Ofr → Int} {os : List Ofr} {k : Nat} {x : Ofr} {m : List (Int × PV)} (h : PUR g os k m) (e : os[k]? = some x) : PUR g os (k + 1) (aset m x.fm (I (MON g os x.fm k + g k x))):=by
  intro f
  rw [aget_aset,MON_succ e]
  by_cases hf : f = x.fm
  · subst hf
    rw [if_pos rfl,if_pos rfl]
    exact .inl rfl
  · rw [if_neg hf,if_neg (fun g => hf g.symm),Int.add_zero]
    exact h f
section
variable {M : Mkt} (hr : ∀ x ∈ M.D.rs,x.OK) {q : Cps} (hv : DV M.D q.cs q.gs q.ds q.ws) (hA : AWV M.aw q.av)
include hr hv hA
set_option maxHeartbeats 4000000 in
theorem c_books (set : Int) (tv : List PV) (ct : ap Tryz.prog pol 27 [.agg (mcl M q),I set] = some (.ret (AFV M set tv))) (htv : ∀ T,ASK M set = 0 → AFT M set = some T → TVL T tv) : ap Tryz.prog pol 9 [.agg (mcl M q),I set] = some (.ret (BKV M set tv)):=by
  have cp:=c_pay hr hv hA set
  unfold PAYV at cp
  unfold BKV
  rw [ap_eq _ Tryz.func9 rfl Tryz.ntmps9 Tryz.results9 (by kernel_rfl) rfl (by exact Nat.le_of_ble_eq_true rfl)]
  by_cases h : PE M set = 0
  rotate_left
  · rw [if_pos h] at cp ⊢
    simp (maxSteps:=999999) only [E0,seval,-Int.reduceNatCast',K1,hv.st,SAV hA,cp,h]
  rw [if_neg (fun g => g h)] at cp ⊢
  obtain ⟨h0,ha,hp⟩:=PE_0 h
  unfold AFV at ct
  rw [if_neg (fun g => g h0),if_neg ha] at ct
  obtain ⟨T,hT⟩ : ∃ T,AFT M set = some T:=Option.ne_none_iff_exists'.1 ha
  have st:=STV (htv T h0 hT)
  have lo:=(MC_0 (ASK_0 h0).1).2.2.1
  have lfs:=(XC_0 (MC_0 (ASK_0 h0).1).1).1.2.1
  have pl:=PAYS_len M.os set
  have bd:=fun f => MON_bd12 h f (k:=M.os.length) lo
  simp (maxSteps:=999999) only [E0,seval,-Int.reduceNatCast',K1,hv.st,SAV hA,cp,ct,List.length_map]
  generalize hL : W _ (.loop _) _ = L
  obtain ⟨ex,s,rfl,rfl,⟨mm,hm,pm⟩,hb2,h2,h4,h5,hr1,h8,hnx,hd,hf⟩:=loop_at hL (α:=Nat) (fun k => M.os.length - k)
    (fun s0 k s => k ≤ M.os.length ∧ s.tmps 35 = I k ∧ s.tmps 34 = I M.os.length ∧ s.tmps 33 = .vs 6 (M.os.map (ofr q.cl)) q.co ∧ s.tmps 7 = .vs 1 ((PAYS M.os set).map I) none ∧ s.tmps 8 = .map 2 ∧ (∃ mm,s.H.rows 2 = some (.map (kmap (PV.int .i64) mm)) ∧ PUR (PAY M.os set) M.os k mm) ∧ s.boxes 2 = some (0,mcl M q) ∧ s.tmps 2 = .bptr 0 2 0 0 ∧ s.tmps 4 = .gsl 1 1 0 0 0 ∧ s.tmps 5 = .vs 1 tv none ∧ s.H.rows 1 = some (.gro 1 [] 0) ∧ s.H.next = 3 ∧ s.defers = [] ∧ s.fid = 0)
    (fun s0 ex s => ex = .exit 0 ∧ (∃ mm,s.H.rows 2 = some (.map (kmap (PV.int .i64) mm)) ∧ PUR (PAY M.os set) M.os M.os.length mm) ∧ s.boxes 2 = some (0,mcl M q) ∧ s.tmps 2 = .bptr 0 2 0 0 ∧ s.tmps 4 = .gsl 1 1 0 0 0 ∧ s.tmps 5 = .vs 1 tv none ∧ s.H.rows 1 = some (.gro 1 [] 0) ∧ s.tmps 8 = .map 2 ∧ s.H.next = 3 ∧ s.defers = [] ∧ s.fid = 0) 0
    (by simp (maxSteps:=999999) only [E0,seval,-Int.reduceNatCast']; exact ⟨Nat.zero_le _,by simp,⟨[],rfl,fun f => .inr ⟨rfl,rfl⟩⟩⟩) (by
      rintro k s r hW ⟨hk,h35,h34,h33,h7,h8,⟨mm,hm,pm⟩,hb2,h2,h4,h5,hr1,hnx,hd,hf⟩
      by_cases hp' : k < M.os.length
      rotate_left
      · simp (maxSteps:=999999) only [E0,seval,-Int.reduceNatCast',NUM,h35,h34,hd,hf,(show ¬ (k : Int) < M.os.length by omega)] at hW
        subst hW
        have : k = M.os.length:=by omega
        subst this
        refine rd_exit ⟨rfl,⟨mm,hm,pm⟩,?_⟩
        simp (maxSteps:=999999) only [E0,seval,-Int.reduceNatCast',hb2,h2,h4,h5,hr1,h8,hnx,hd]
      have e0 : M.os[k]? = some M.os[k]:=List.getElem?_eq_getElem hp'
      have e1:=map_get (f:=ofr q.cl) e0
      have y0:=PAYS_get (set:=set) e0
      have y1:=ints_get y0
      have yb:=PAY_bd h e0
      have ps:=PUR_succ pm e0
      have mb:=MON_bd12 h M.os[k].fm (k:=k) (by omega)
      have pk:=PUR_look pm M.os[k].fm
      generalize M.os[k] = x at *
      generalize PAY M.os set k x = y at *
      generalize MON (PAY M.os set) M.os x.fm k = z at *
      rcases hb10 : s.boxes 10 with _ | ⟨v10,c10⟩
      all_goals
        simp (maxSteps:=999999) only [E0,seval,-Int.reduceNatCast',NUM,MAPI,pk,SRCH,SFRM,SCRP,SRGT,SDTY,hv.st,SAV hA,SOFR,SLOT,INTS,h35,h34,h33,h7,h8,hm,hb2,hb10,y1,e1,pl,hnx,hd,hf,List.length_map,Int.toNat_natCast,(show k < M.os.length by omega),(show (k : Int) < M.os.length by omega),(show (0 : Int) ≤ k by omega),(i64_in (x:=(k : Int) + 1) (by unfold I64; omega)),(i64_in (x:=z + y) (by unfold I64; omega))] at hW
        rw [if_pos (by kernel_rfl)] at hW
        subst hW
        refine rd_next (k + 1) ?_ (show M.os.length - (k + 1) < M.os.length - k by omega)
        simp (maxSteps:=999999) only [E0,seval,-Int.reduceNatCast',h34,h33,h7,h8,hb2,h2,h4,h5,hr1,hnx,hd]
        exact ⟨by omega,by simp,⟨_,rfl,ps⟩⟩)
  clear hL
  have lm:=MONS_len M set
  simp (maxSteps:=999999) only [E0,seval,-Int.reduceNatCast',K1,hv.st,SAV hA,hb2,h2,h4,h5,hr1,h8,hnx,hd,hf,List.length_map]
  generalize hL : W _ (.loop _) _ = L
  obtain ⟨ex,s,rfl,rfl,h4,h5,hr1,hd,hf⟩:=loop_at hL (α:=Nat) (fun k => M.D.fs.length - k)
    (fun s0 k s => k ≤ M.D.fs.length ∧ s.tmps 54 = I k ∧ s.tmps 53 = I M.D.fs.length ∧ s.tmps 8 = .map 2 ∧ s.H.rows 2 = some (.map (kmap (PV.int .i64) mm)) ∧ s.tmps 4 = .gsl 1 1 k 0 k ∧ s.tmps 5 = .vs 1 tv none ∧ s.H.rows 1 = some (.gro 1 (((MONS M set).take k).map I) 0) ∧ s.defers = [] ∧ s.fid = 0)
    (fun s0 ex s => ex = .exit 2 ∧ s.tmps 4 = .gsl 1 1 M.D.fs.length 0 M.D.fs.length ∧ s.tmps 5 = .vs 1 tv none ∧ s.H.rows 1 = some (.gro 1 ((MONS M set).map I) 0) ∧ s.defers = [] ∧ s.fid = 0) 0
    (by simp (maxSteps:=999999) only [E0,seval,-Int.reduceNatCast',h4,h5,h8,hm,hr1,List.take_zero]; exact ⟨Nat.zero_le _,by simp⟩) (by
      rintro k s r hW ⟨hk,h54,h53,h8,hm,h4,h5,hr1,hd,hf⟩
      by_cases hp' : k < M.D.fs.length
      rotate_left
      · simp (maxSteps:=999999) only [E0,seval,-Int.reduceNatCast',NUM,h54,h53,hd,hf,(show ¬ (k : Int) < M.D.fs.length by omega)] at hW
        subst hW
        have : k = M.D.fs.length:=by omega
        subst this
        rw [← lm,List.take_length] at hr1
        refine rd_exit ⟨rfl,?_⟩
        simp (maxSteps:=999999) only [E0,seval,-Int.reduceNatCast',h4,h5,hr1,hd]
      have pk:=PUR_look pm k
      have m0:=MONS_get (M:=M) (set:=set) hp'
      have tk : (MONS M set).take (k + 1) = (MONS M set).take k ++ [MON (PAY M.os set) M.os k M.os.length]:=by rw [List.take_add_one,m0]; rfl
      have lt : ((MONS M set).take k).length = k:=by rw [List.length_take,lm]; omega
      generalize MON (PAY M.os set) M.os k M.os.length = z at *
      simp (maxSteps:=999999) only [E0,seval,-Int.reduceNatCast',NUM,MAPI,pk,h54,h53,h8,hm,h4,h5,hr1,hd,hf,lt,List.length_map,Int.toNat_natCast,(show (k : Int) < M.D.fs.length by omega),(show (0 : Int) ≤ k by omega),(show k + 1 ≤ 67108864 by omega),(show k ≤ 67108863 by omega),(i64_in (x:=(k : Int) + 1) (by unfold I64; omega))] at hW
      subst hW
      refine rd_next (k + 1) ?_ (show M.D.fs.length - (k + 1) < M.D.fs.length - k by omega)
      simp (maxSteps:=999999) only [E0,seval,-Int.reduceNatCast',h53,h8,hm,h4,h5,hr1,hd,tk,List.map_append]
      exact ⟨by omega,by simp⟩)
  clear hL
  have lt : ((MONS M set).map I).length = M.D.fs.length:=by rw [List.length_map,lm]
  have tk : List.take M.D.fs.length ((MONS M set).map I) = (MONS M set).map I:=List.take_of_length_le (by rw [lt]; exact Nat.le_refl _)
  simp (maxSteps:=999999) only [E0,seval,-Int.reduceNatCast',NUM,h4,h5,hr1,hd,hf,lm,tk,st,INTS,Nat.zero_add,Nat.le_refl,List.length_map]
end
structure Stm where
  (no ps bid : Int) (won : Bool)
deriving DecidableEq
abbrev stm (x : Stm) : PV:=.agg [I x.no,I x.ps,I x.bid,.bool x.won]
theorem SSTM : (∀ l : List Stm,strip0L (l.map stm) = l.map stm) ∧ (∀ l : List Stm,(l.map stm).map strip0 = l.map stm) ∧ (∀ H (l : List Stm),(l.map stm).map (strip1 H) = l.map stm) ∧ (∀ H (l : List Stm),(l.map stm).map (strip2 H) = l.map stm) ∧ (∀ H (l : List Stm),strip1L H (l.map stm) = l.map stm) ∧ (∀ H (l : List Stm),strip2L H (l.map stm) = l.map stm):=
  STR stm (fun _ => rfl) (fun _ _ => rfl) (fun _ _ => rfl)
def STN (g : Nat → Ofr → Int) (set : Int) (k : Nat) (x : Ofr) : Stm:=⟨x.no,g k x,x.pr,decide (BIT set k = 1)⟩
def STS (g : Nat → Ofr → Int) (os : List Ofr) (set f : Int) : Nat → List Stm
  | 0 => []
  | k + 1 => STS g os set f k ++ match os[k]? with
    | some x => if x.fm = f then [STN g set k x] else []
    | none => []
theorem STS_succ {g : Nat → Ofr → Int} {os : List Ofr} {set f : Int} {k : Nat} {x : Ofr} (e : os[k]? = some x) : STS g os set f (k + 1) = STS g os set f k ++ if x.fm = f then [STN g set k x] else []:=by
  show STS g os set f k ++ _ = _
  rw [e]
theorem STS_len (g : Nat → Ofr → Int) (os : List Ofr) (set f : Int) : ∀ k,(STS g os set f k).length ≤ k
  | 0 => Nat.le_refl _
  | k + 1 => by
    have ih:=STS_len g os set f k
    show (STS g os set f k ++ _).length ≤ _
    rw [List.length_append]
    split
    · split <;> simp <;> omega
    · simp; omega
noncomputable def STMV (M : Mkt) (set f : Int) : PV:=if PE M set ≠ 0 then .tup [.nils,I (PE M set)] else if f < 0 ∨ (M.D.fs.length : Int) ≤ f then .tup [.nils,I 1] else .tup [.vs 4 ((STS (PAY M.os set) M.os set f M.os.length).map stm) none,I 0]
section
variable {M : Mkt} (hr : ∀ x ∈ M.D.rs,x.OK) {q : Cps} (hv : DV M.D q.cs q.gs q.ds q.ws) (hA : AWV M.aw q.av)
include hv hA
theorem c_stm1 (lo : M.os.length ≤ 12) (Y : List Int) (P k : Nat) (x : Ofr) (y set f : Int) (hk : k < 12) (ey : Y[k]? = some y) (g : Nat → Ofr → Int) (hg : g k x = y) (H : Heap) (hP : H.rows P = some (.gro 1 [.vs 1 (Y.map I) none] 0)) :
    callF G Tryz.prog pol 31 [I k,ofr q.cl x,.ptr P 1 0 0,.rop [I set],.rop [I f]] H = some (.ret (.tup [stm (STN g set k x),.bool (decide (x.fm = f))]),⟨H.rows,H.next + 1⟩):=by
  have hk2 : k < Y.length:=(List.getElem?_eq_some_iff.1 ey).1
  have e2:=ints_get ey
  rw [callF_eq _ _ Tryz.func31 rfl Tryz.ntmps31 Tryz.results31 (by kernel_rfl) rfl (by exact Nat.le_of_ble_eq_true rfl)]
  simp (maxSteps:=999999) only [E0,seval,-Int.reduceNatCast',NUM,INB,SLOT,INTS,hP,e2,List.length_map,Int.toNat_natCast,Nat.zero_add,Nat.zero_le,(show (k : Int) < Y.length by omega),(show (0 : Int) ≤ k by omega),(show ¬ (k : Int) < 0 by omega)]
  rw [if_pos (by kernel_rfl)]
  unfold STN
  rw [hg]
set_option maxHeartbeats 4000000 in
theorem c_mapped (lo : M.os.length ≤ 12) (Y : List Int) (P : Nat) (set f : Int) (g : Nat → Ofr → Int) (hg : ∀ k x,M.os[k]? = some x → Y[k]? = some (g k x)) (H : Heap) (hP : H.rows P = some (.gro 1 [.vs 1 (Y.map I) none] 0)) (hn : P < H.next) (X : Option (CR × Heap))
    (hX : callF G Tryz.prog pol 30 [.vs 6 (M.os.map (ofr q.cl)) q.co,.fn 31 [.ptr P 1 0 0,.rop [I set],.rop [I f]]] H = X) :
    ∃ R H',X = some (.ret (.gsl 4 R (STS g M.os set f M.os.length).length 0 (STS g M.os set f M.os.length).length),H') ∧ H'.rows R = some (.gro 4 ((STS g M.os set f M.os.length).map stm) 0) ∧ (∀ i < H.next,H'.rows i = H.rows i):=by
  subst hX
  rw [callF_eq _ _ Tryz.func30 rfl Tryz.ntmps30 Tryz.results30 (by kernel_rfl) rfl (by exact Nat.le_of_ble_eq_true rfl)]
  simp (maxSteps:=999999) only [E0,seval,-Int.reduceNatCast',NUM,SLOT,SOFR,INTS,List.length_map]
  generalize hL : W _ (.loop _) _ = L
  obtain ⟨ex,s,rfl,rfl,h4,hr4,hfr,hnx,hd,hf⟩:=loop_at hL (α:=Nat) (fun k => M.os.length - k)
    (fun s0 k s => k ≤ M.os.length ∧ s.tmps 11 = I k ∧ s.tmps 10 = I M.os.length ∧ s.tmps 9 = .vs 6 (M.os.map (ofr q.cl)) q.co ∧ s.tmps 1 = .fn 31 [.ptr P 1 0 0,.rop [I set],.rop [I f]] ∧ s.tmps 4 = .gsl 4 (H.next + 1) (STS g M.os set f k).length 0 (STS g M.os set f k).length ∧ s.H.rows (H.next + 1) = some (.gro 4 ((STS g M.os set f k).map stm) 0) ∧ (∀ i < H.next,s.H.rows i = H.rows i) ∧ H.next + 1 < s.H.next ∧ s.defers = [] ∧ s.fid = H.next)
    (fun s0 ex s => ex = .exit 0 ∧ s.tmps 4 = .gsl 4 (H.next + 1) (STS g M.os set f M.os.length).length 0 (STS g M.os set f M.os.length).length ∧ s.H.rows (H.next + 1) = some (.gro 4 ((STS g M.os set f M.os.length).map stm) 0) ∧ (∀ i < H.next,s.H.rows i = H.rows i) ∧ H.next + 1 < s.H.next ∧ s.defers = [] ∧ s.fid = H.next) 0
    (by simp (maxSteps:=999999) only [E0,seval,-Int.reduceNatCast',STS,List.length_nil,List.map_nil]; exact ⟨Nat.zero_le _,by simp,fun i hi => if_neg (show ¬ i = H.next + 1 by omega),by omega⟩) (by
      rintro k s r hW ⟨hk,h11,h10,h9,h1,h4,hr4,hfr,hnx,hd,hf⟩
      by_cases hp' : k < M.os.length
      rotate_left
      · simp (maxSteps:=999999) only [E0,seval,-Int.reduceNatCast',NUM,h11,h10,hd,hf,(show ¬ (k : Int) < M.os.length by omega)] at hW
        subst hW
        have : k = M.os.length:=by omega
        subst this
        refine rd_exit ⟨rfl,?_⟩
        simp (maxSteps:=999999) only [E0,seval,-Int.reduceNatCast',h4,hr4,hd]
        exact ⟨hfr,hnx⟩
      have e0 : M.os[k]? = some M.os[k]:=List.getElem?_eq_getElem hp'
      have e1:=map_get (f:=ofr q.cl) e0
      have y0:=hg k _ e0
      have ss:=STS_succ (g:=g) (set:=set) (f:=f) e0
      have sl:=STS_len g M.os set f k
      have hPs:=hfr P hn
      rw [hP] at hPs
      generalize M.os[k] = x at *
      have cs:=fun H h => c_stm1 (M:=M) hv hA lo Y P k x (g k x) set f (by omega) y0 g rfl H h
      generalize STS g M.os set f k = S at *
      rcases hb6 : s.boxes 6 with _ | ⟨v6,c6⟩ <;> rcases hb7 : s.boxes 7 with _ | ⟨v7,c7⟩
      all_goals
        by_cases hfm : x.fm = f
        · rw [if_pos hfm] at ss
          simp only [decide_eq_true hfm] at cs
          simp (maxSteps:=999999) only [E0,seval,-Int.reduceNatCast',NUM,cs,SOFR,SLOT,INTS,hPs,h11,h10,h9,h1,h4,hr4,hb6,hb7,e1,hd,hf,List.length_map,Int.toNat_natCast,Nat.zero_add,Nat.zero_le,Nat.le_refl,(show (k : Int) < M.os.length by omega),(show (0 : Int) ≤ k by omega),(show S.length + 1 ≤ 67108864 by omega),(show S.length ≤ 67108863 by omega),(i64_in (x:=(k : Int) + 1) (by unfold I64; omega))] at hW
          subst hW
          refine rd_next (k + 1) ?_ (show M.os.length - (k + 1) < M.os.length - k by omega)
          simp (maxSteps:=999999) only [E0,seval,-Int.reduceNatCast',h10,h9,h1,h4,hd,ss,List.length_append,List.map_append]
          exact ⟨by omega,by simp,fun i hi => by simp (maxSteps:=999999) only [E0,seval,-Int.reduceNatCast',(show ¬ i = H.next + 1 by omega)]; exact hfr i hi,by omega⟩
        · rw [if_neg hfm,List.append_nil] at ss
          simp only [decide_eq_false hfm] at cs
          simp (maxSteps:=999999) only [E0,seval,-Int.reduceNatCast',NUM,cs,SOFR,SLOT,INTS,hPs,h11,h10,h9,h1,h4,hr4,hb6,hb7,e1,hd,hf,List.length_map,Int.toNat_natCast,Nat.zero_add,Nat.zero_le,Nat.le_refl,(show (k : Int) < M.os.length by omega),(show (0 : Int) ≤ k by omega),(i64_in (x:=(k : Int) + 1) (by unfold I64; omega))] at hW
          subst hW
          refine rd_next (k + 1) ?_ (show M.os.length - (k + 1) < M.os.length - k by omega)
          simp (maxSteps:=999999) only [E0,seval,-Int.reduceNatCast',h10,h9,h1,h4,hr4,hd,ss]
          exact ⟨by omega,by simp,hfr,by omega⟩)
  clear hL
  simp (maxSteps:=999999) only [E0,seval,-Int.reduceNatCast',NUM,h4,hd,hf]
  exact ⟨_,_,rfl,hr4,hfr⟩
include hr
set_option maxHeartbeats 4000000 in
theorem c_statements (set f : Int) : ap Tryz.prog pol 13 [.agg (mcl M q),I set,I f] = some (.ret (STMV M set f)):=by
  have cp:=c_pay hr hv hA set
  unfold PAYV at cp
  unfold STMV
  rw [ap_eq _ Tryz.func13 rfl Tryz.ntmps13 Tryz.results13 (by kernel_rfl) rfl (by exact Nat.le_of_ble_eq_true rfl)]
  by_cases h : PE M set = 0
  rotate_left
  · rw [if_pos h] at cp ⊢
    simp (maxSteps:=999999) only [E0,seval,-Int.reduceNatCast',K1,hv.st,SAV hA,cp,h]
  rw [if_neg (fun g => g h)] at cp ⊢
  obtain ⟨h0,ha,hp⟩:=PE_0 h
  have lo:=(MC_0 (ASK_0 h0).1).2.2.1
  by_cases f0 : f < 0
  · rw [if_pos (.inl f0)]
    simp (maxSteps:=999999) only [E0,seval,-Int.reduceNatCast',K1,hv.st,SAV hA,cp,f0]
  by_cases f1 : (M.D.fs.length : Int) ≤ f
  · rw [if_pos (.inr f1)]
    simp (maxSteps:=999999) only [E0,seval,-Int.reduceNatCast',K1,hv.st,SAV hA,cp,f0,f1,List.length_map]
  rw [if_neg (fun g => g.elim f0 f1)]
  simp (maxSteps:=999999) only [E0,seval,-Int.reduceNatCast',K1,hv.st,SAV hA,cp,f0,f1,List.length_map]
  generalize hE : callF _ _ _ _ _ _ = E
  obtain ⟨R,H',rfl,hR,hfr⟩:=c_mapped hv hA lo (PAYS M.os set) 1 set f (PAY M.os set) (fun k x e => PAYS_get e) _ (by simp (maxSteps:=999999) only [E0,seval,-Int.reduceNatCast']) (by simp (maxSteps:=999999) only [E0,seval,-Int.reduceNatCast']) _ hE
  have tk : ((STS (PAY M.os set) M.os set f M.os.length).map stm).take (STS (PAY M.os set) M.os set f M.os.length).length = (STS (PAY M.os set) M.os set f M.os.length).map stm:=List.take_of_length_le (by simp)
  simp (maxSteps:=999999) only [E0,seval,-Int.reduceNatCast',NUM,hR,tk,SSTM,Nat.zero_add,Nat.le_refl,List.length_map]
end
theorem c_same (a b : List Int) (c c' : Option Nat) (hl : a.length ≤ 1000000) : ap Tryz.prog pol 11 [.vs 1 (a.map I) c,.vs 1 (b.map I) c'] = some (.ret (.bool (decide (a = b)))):=by
  rw [ap_eq _ Tryz.func11 rfl Tryz.ntmps11 Tryz.results11 (by kernel_rfl) rfl (by exact Nat.le_of_ble_eq_true rfl)]
  by_cases h : a.length = b.length
  rotate_left
  · rw [decide_eq_false (fun e => h (by rw [e]))]
    simp (maxSteps:=999999) only [E0,seval,-Int.reduceNatCast',NUM,List.length_map,(show ¬ (a.length : Int) = b.length by omega)]
  simp (maxSteps:=999999) only [E0,seval,-Int.reduceNatCast',NUM,List.length_map,h]
  generalize hL : W _ (.loop _) _ = L
  obtain ⟨ex,s,rfl,hex,hd⟩:=loop_at hL (α:=Nat) (fun j => a.length - j)
    (fun s0 j s => j ≤ a.length ∧ a.take j = b.take j ∧ s.tmps 5 = I j ∧ s.tmps 0 = .vs 1 (a.map I) c ∧ s.tmps 1 = .vs 1 (b.map I) c' ∧ s.defers = [] ∧ s.fid = 0)
    (fun s0 ex s => ((ex = .exit 0 ∧ a = b) ∨ (ex = .ret ∧ a ≠ b ∧ s.tmps 4 = .bool false)) ∧ s.defers = []) 0
    (by simp (maxSteps:=999999) only [E0,seval,-Int.reduceNatCast',List.take_zero]; exact ⟨by omega,by simp⟩) (by
      rintro j s r hW ⟨hj,ht,h5,h0,h1,hd,hf⟩
      by_cases hp : j < a.length
      · have e0 : a[j]? = some a[j]:=List.getElem?_eq_getElem hp
        have f0 : b[j]? = some (b[j]'(by omega)):=List.getElem?_eq_getElem _
        have e1:=map_get (f:=I) e0
        have f1:=map_get (f:=I) f0
        generalize a[j] = x at *
        generalize b[j]'(by omega) = y at *
        by_cases hxy : x = y
        · simp (maxSteps:=999999) only [E0,seval,-Int.reduceNatCast',NUM,h5,h0,h1,hd,hf,e1,f1,hxy,List.length_map,Int.toNat_natCast,(show (j : Int) < a.length by omega),(show (j : Int) < b.length by omega),(show (0 : Int) ≤ j by omega),i64_in (x:=(j : Int) + 1) (by unfold I64; omega)] at hW
          subst hW
          refine rd_next (j + 1) ?_ (show a.length - (j + 1) < a.length - j by omega)
          simp (maxSteps:=999999) only [E0,seval,-Int.reduceNatCast',h0,h1,hd]
          exact ⟨by omega,by rw [List.take_add_one,List.take_add_one,ht,e0,f0,hxy],by simp⟩
        · simp (maxSteps:=999999) only [E0,seval,-Int.reduceNatCast',NUM,h5,h0,h1,hd,hf,e1,f1,hxy,List.length_map,Int.toNat_natCast,(show (j : Int) < a.length by omega),(show (j : Int) < b.length by omega),(show (0 : Int) ≤ j by omega)] at hW
          subst hW
          exact rd_ret ⟨.inr ⟨rfl,fun e => hxy (by rw [e,f0] at e0; exact (Option.some.inj e0).symm),by simp (maxSteps:=999999) only [E0,seval,-Int.reduceNatCast']⟩,by simp (maxSteps:=999999) only [E0,seval,-Int.reduceNatCast',hd]⟩
      · simp (maxSteps:=999999) only [E0,seval,-Int.reduceNatCast',h5,h0,hd,hf,List.length_map,(show ¬ (j : Int) < a.length by omega)] at hW
        subst hW
        have : j = a.length:=by omega
        subst this
        rw [List.take_length,h,List.take_length] at ht
        exact rd_exit ⟨.inl ⟨rfl,ht⟩,by simp (maxSteps:=999999) only [E0,seval,-Int.reduceNatCast',hd]⟩)
  rcases hex with ⟨rfl,hg⟩ | ⟨rfl,hg,h2⟩
  · rw [decide_eq_true hg]; simp (maxSteps:=999999) only [E0,seval,-Int.reduceNatCast',hd]
  · rw [decide_eq_false hg]; simp (maxSteps:=999999) only [E0,seval,-Int.reduceNatCast',hd,h2]
theorem c_same0 : ap Tryz.prog pol 11 [.nils,.nils] = some (.ret (.bool true)):=by
  rw [ap_eq _ Tryz.func11 rfl Tryz.ntmps11 Tryz.results11 (by kernel_rfl) rfl (by exact Nat.le_of_ble_eq_true rfl)]
  simp (maxSteps:=999999) only [E0,seval,-Int.reduceNatCast',NUM,WW_loop]
theorem u_stm : (match Tryz.prog.underlying 54 with | some (.struct fs) => (fs.toList.map fun f => (f.name,f.type,f.offset)) == [("Offer",3,0),("Pays",3,1),("Bid",3,2),("Won",4,3)] && !Tryz.prog.stoodInHeld 54 | _ => false) = true:=by kernel_rfl
theorem eq_stm (a b : Stm) : eqPV Tryz.prog Op.maxDepth 54 (stm a) (stm b) = some (decide (a = b)):=by
  have u:=u_stm
  obtain ⟨fs,hu⟩ : ∃ fs,Tryz.prog.underlying 54 = some (.struct fs):=by
    revert u
    cases Tryz.prog.underlying 54 with
    | none => intro u; cases u
    | some d => cases d <;> intro u <;> first | exact ⟨_,rfl⟩ | cases u
  rw [hu] at u
  simp only [Bool.and_eq_true,beq_iff_eq,Bool.not_eq_true'] at u
  obtain ⟨hf,hs⟩:=u
  have i3 : Tryz.prog.underlying 3 = some (.int .i64):=by kernel_rfl
  have i4 : Tryz.prog.underlying 4 = some .bool:=by kernel_rfl
  have a3 : aggT Tryz.prog 3 = some false:=by kernel_rfl
  have a4 : aggT Tryz.prog 4 = some false:=by kernel_rfl
  have s3 : szOf Tryz.prog 3 = some 1:=by kernel_rfl
  have s4 : szOf Tryz.prog 4 = some 1:=by kernel_rfl
  obtain ⟨l,hl⟩ : ∃ l,fs.toList = l:=⟨_,rfl⟩
  rw [hl] at hf
  rcases l with _ | ⟨f1,_ | ⟨f2,_ | ⟨f3,_ | ⟨f4,_ | ⟨f5,r⟩⟩⟩⟩⟩
  · simp at hf
  · simp at hf
  · simp at hf
  · simp at hf
  rotate_left
  · simp at hf
  simp only [List.map_cons,List.map_nil,List.cons.injEq,Prod.mk.injEq,and_true] at hf
  obtain ⟨⟨n1,t1,o1⟩,⟨n2,t2,o2⟩,⟨n3,t3,o3⟩,⟨n4,t4,o4⟩⟩:=hf
  obtain ⟨x1,x2,x3,x4⟩:=a
  obtain ⟨y1,y2,y3,y4⟩:=b
  show eqPV Tryz.prog (_ + 1) _ _ _ = _
  unfold eqPV
  rw [hu]
  simp only [hs,Bool.false_eq_true,if_false,hl,eqFs,n1,n2,n3,n4,t1,t2,t3,t4,o1,o2,o3,o4,partPV,a3,a4,s3,s4,Option.bind_some,List.getElem?_cons_zero,List.getElem?_cons_succ]
  have e3 : ∀ x y : Int,eqPV Tryz.prog (9999) 3 (I x) (I y) = some (decide (x = y)):=fun x y => by
    show eqPV Tryz.prog (_ + 1) _ _ _ = _
    unfold eqPV
    rw [i3]
    simp only [if_true]
    congr 1
  have e4 : ∀ x y : Bool,eqPV Tryz.prog (9999) 4 (.bool x) (.bool y) = some (decide (x = y)):=fun x y => by
    show eqPV Tryz.prog (_ + 1) _ _ _ = _
    unfold eqPV
    rw [i4]
    cases x <;> cases y <;> rfl
  simp only [e3,e4,Option.bind_some,decide_eq_true_eq,(show ¬ "Offer" = "_" by decide),(show ¬ "Pays" = "_" by decide),(show ¬ "Bid" = "_" by decide),(show ¬ "Won" = "_" by decide),if_false]
  by_cases h1 : x1 = y1 <;> by_cases h2 : x2 = y2 <;> by_cases h3 : x3 = y3 <;> by_cases h4 : x4 = y4 <;> simp [h1,h2,h3,h4]
theorem neq_stm (xo yo : Operand) (a1 a2 a3 b1 b2 b3 : Int) (a4 b4 : Bool) : binPV Tryz.prog .neq 54 xo yo (.agg [I a1,I a2,I a3,.bool a4]) (.agg [I b1,I b2,I b3,.bool b4]) = some (.bool (decide (¬ (Stm.mk a1 a2 a3 a4) = (Stm.mk b1 b2 b3 b4)))):=by
  have e:=eq_stm ⟨a1,a2,a3,a4⟩ ⟨b1,b2,b3,b4⟩
  have g : Tryz.prog.eqGuardType Tryz.prog.depth 54 = false:=by kernel_rfl
  simp only [binPV,eqOp,g,Bool.false_eq_true,if_false]
  change (eqPV Tryz.prog Op.maxDepth 54 (stm ⟨a1,a2,a3,a4⟩) (stm ⟨b1,b2,b3,b4⟩)).map (fun b => PV.bool !b) = _
  rw [e]
  simp only [Option.map_some]
  by_cases h : (Stm.mk a1 a2 a3 a4) = (Stm.mk b1 b2 b3 b4)
  · rw [decide_eq_true h,decide_eq_false (fun g => g h)]; rfl
  · rw [decide_eq_false h,decide_eq_true h]; rfl
abbrev qq (D : Dis) (Ws av : List PV) : Cps:=⟨none,none,.vs 2 (D.cs.map crp) none,.vs 10 (D.gs.map rgt) none,.vs 4 (D.ds.map dty) none,.vs 4 Ws none,av,none,none,none⟩
section
variable {M : Mkt} {Ws av : List PV} (hv : DV M.D (qq M.D Ws av).cs (qq M.D Ws av).gs (qq M.D Ws av).ds (qq M.D Ws av).ws) (hA : AWV M.aw (qq M.D Ws av).av)
include hv
theorem c_few19 : ∃ b,ap Tryz.prog pol 51 [.agg [.str M.D.nm,I M.D.hours,I M.D.cap,I M.D.start,.vs 12 (M.D.rs.map rch) none,.vs 4 (M.D.fs.map frm) none,.vs 2 (M.D.cs.map crp) none,.vs 10 (M.D.gs.map rgt) none,.vs 4 (M.D.ds.map dty) none,.vs 4 Ws none]] = some (.ret (.bool b)):=by
  rw [ap_eq _ Tryz.func51 rfl Tryz.ntmps51 Tryz.results51 (by kernel_rfl) rfl (by exact Nat.le_of_ble_eq_true rfl)]
  simp (maxSteps:=999999) only [E0,seval,-Int.reduceNatCast',NUM,List.length_map,b_and]
  exact ⟨_,rfl⟩
theorem c_few41 : ∃ b,ap Tryz.prog pol 33 [.agg [.str M.D.nm,I M.D.hours,I M.D.cap,I M.D.start,.vs 12 (M.D.rs.map rch) none,.vs 4 (M.D.fs.map frm) none,.vs 2 (M.D.cs.map crp) none,.vs 10 (M.D.gs.map rgt) none,.vs 4 (M.D.ds.map dty) none,.vs 4 Ws none],.nils] = some (.ret (.bool b)):=by
  obtain ⟨b0,e0⟩:=c_few19 hv
  rw [ap_eq _ Tryz.func33 rfl Tryz.ntmps33 Tryz.results33 (by kernel_rfl) rfl (by exact Nat.le_of_ble_eq_true rfl)]
  cases b0 with
  | false =>
    simp (maxSteps:=999999) only [E0,seval,-Int.reduceNatCast',NUM,SRCH,SFRM,SCRP,SRGT,SDTY,hv.st,e0]
    exact ⟨_,rfl⟩
  | true =>
    by_cases a1 : (M.D.rs.length : Int) ≤ 12 <;> by_cases a2 : (64 : Int) < M.D.rs.length <;> by_cases a3 : (M.D.fs.length : Int) ≤ 40 <;> by_cases a4 : (600 : Int) < M.D.fs.length
    all_goals
      simp (maxSteps:=999999) only [E0,seval,-Int.reduceNatCast',NUM,SRCH,SFRM,SCRP,SRGT,SDTY,hv.st,e0,List.length_map,a1,a2,a3,a4]
      exact ⟨_,rfl⟩
include hA
set_option maxHeartbeats 8000000 in
theorem c_few45 : ∃ b,ap Tryz.prog pol 17 [.agg (mcl M (qq M.D Ws av))] = some (.ret (.bool b)):=by
  obtain ⟨b0,e0⟩:=c_few41 hv
  have hlen:=SAV hA
  rw [ap_eq _ Tryz.func17 rfl Tryz.ntmps17 Tryz.results17 (by kernel_rfl) rfl (by exact Nat.le_of_ble_eq_true rfl)]
  cases b0 with
  | false =>
    simp (maxSteps:=999999) only [E0,seval,-Int.reduceNatCast',K1,hv.st,hlen,e0]
    exact ⟨_,rfl⟩
  | true =>
    by_cases a3 : (40 : Int) < M.aw.length
    · simp (maxSteps:=999999) only [E0,seval,-Int.reduceNatCast',K1,hv.st,hlen,e0,List.length_map,a3,(show (4 : Int) < M.aw.length by omega),(show ¬ (M.aw.length : Int) ≤ 8 by omega)]
      exact ⟨_,rfl⟩
    have go : ((4 : Int) < M.aw.length ∧ (M.aw.length : Int) ≤ 8) ∨ (¬ (4 : Int) < M.aw.length) ∨ ((4 : Int) < M.aw.length ∧ ¬ (M.aw.length : Int) ≤ 8):=by omega
    rcases go with ⟨a1,a2⟩ | go
    · simp (maxSteps:=999999) only [E0,seval,-Int.reduceNatCast',K1,hv.st,hlen,e0,List.length_map,a1,a2,a3]
      exact ⟨_,rfl⟩
    have go2 : ((40 : Int) < M.os.length ∧ (7 : Int) < M.os.length ∧ ¬ (M.os.length : Int) ≤ 12) ∨ (¬ (40 : Int) < M.os.length ∧ (7 : Int) < M.os.length ∧ (M.os.length : Int) ≤ 12) ∨ (¬ (40 : Int) < M.os.length ∧ ¬ (7 : Int) < M.os.length) ∨ (¬ (40 : Int) < M.os.length ∧ (7 : Int) < M.os.length ∧ ¬ (M.os.length : Int) ≤ 12):=by omega
    rcases go2 with ⟨b1,b2,b3⟩ | ⟨b1,b2,b3⟩ | go2
    · rcases go with a1 | ⟨a1,a2⟩
      · simp (maxSteps:=999999) only [E0,seval,-Int.reduceNatCast',K1,hv.st,hlen,e0,List.length_map,a1,a3,b1,b2,b3]
        exact ⟨_,rfl⟩
      · simp (maxSteps:=999999) only [E0,seval,-Int.reduceNatCast',K1,hv.st,hlen,e0,List.length_map,a1,a2,a3,b1,b2,b3]
        exact ⟨_,rfl⟩
    · rcases go with a1 | ⟨a1,a2⟩
      · simp (maxSteps:=999999) only [E0,seval,-Int.reduceNatCast',K1,hv.st,hlen,e0,List.length_map,a1,a3,b1,b2,b3]
        exact ⟨_,rfl⟩
      · simp (maxSteps:=999999) only [E0,seval,-Int.reduceNatCast',K1,hv.st,hlen,e0,List.length_map,a1,a2,a3,b1,b2,b3]
        exact ⟨_,rfl⟩
    replace go : ((¬ (4 : Int) < M.aw.length) ∧ True) ∨ ((4 : Int) < M.aw.length ∧ ¬ (M.aw.length : Int) ≤ 8):=go.imp (fun h => ⟨h,trivial⟩) id
    replace go2 : (¬ (40 : Int) < M.os.length ∧ (¬ (7 : Int) < M.os.length) ∧ True) ∨ (¬ (40 : Int) < M.os.length ∧ (7 : Int) < M.os.length ∧ ¬ (M.os.length : Int) ≤ 12):=go2.imp (fun h => ⟨h.1,h.2,trivial⟩) id
    rcases go with ⟨a1,a2⟩ | ⟨a1,a2⟩ <;> rcases go2 with ⟨b1,b2,b3⟩ | ⟨b1,b2,b3⟩
    all_goals
      simp (maxSteps:=999999) only [E0,seval,-Int.reduceNatCast',K1,hv.st,hlen,e0,List.length_map,a1,a2,a3,b1,b2,b3]
      generalize hL : W _ (.loop _) _ = L
      obtain ⟨ex,s,rfl,hex,hd⟩:=loop_at hL (α:=Nat) (fun j => M.aw.length - j)
        (fun s0 j s => j ≤ M.aw.length ∧ s.tmps 3 = I j ∧ s.tmps 1 = .bptr 0 1 0 0 ∧ s.boxes 1 = some (0,mcl M (qq M.D Ws av)) ∧ s.defers = [] ∧ s.fid = 0)
        (fun s0 ex s => ((ex = .exit 0 ∧ s.tmps 1 = .bptr 0 1 0 0 ∧ s.boxes 1 = some (0,mcl M (qq M.D Ws av)) ∧ s.fid = 0) ∨ (ex = .ret ∧ s.tmps 2 = .bool false)) ∧ s.defers = []) 0
        (by simp (maxSteps:=999999) only [E0,seval,-Int.reduceNatCast']; exact ⟨Nat.zero_le _,by simp⟩) (by
          rintro j s r hW ⟨hj,h3,h1,hb1,hd,hf⟩
          by_cases hp : j < M.aw.length
          rotate_left
          · simp (maxSteps:=999999) only [E0,seval,-Int.reduceNatCast',K2,hv.st,hlen,h3,h1,hb1,hd,hf,(show ¬ (j : Int) < M.aw.length by omega)] at hW
            subst hW
            exact rd_exit ⟨.inl ⟨rfl,by simp (maxSteps:=999999) only [E0,seval,-Int.reduceNatCast',h1,hb1]⟩,by simp (maxSteps:=999999) only [E0,seval,-Int.reduceNatCast',hd]⟩
          have e0 : M.aw[j]? = some M.aw[j]:=List.getElem?_eq_getElem hp
          obtain ⟨v,e1,hrv⟩:=hA.get j _ e0
          have rv:=RVS hrv.rv
          generalize M.aw[j] = l at *
          by_cases hl : (800 : Int) < l.length
          · simp (maxSteps:=999999) only [E0,seval,-Int.reduceNatCast',K2,hv.st,hlen,h3,h1,hb1,hd,hf,hl,e1,rv,(show (j : Int) < M.aw.length by omega),(show (0 : Int) ≤ j by omega)] at hW
            subst hW
            exact rd_ret ⟨.inr ⟨rfl,by simp (maxSteps:=999999) only [E0,seval,-Int.reduceNatCast']⟩,by simp (maxSteps:=999999) only [E0,seval,-Int.reduceNatCast',hd]⟩
          · simp (maxSteps:=999999) only [E0,seval,-Int.reduceNatCast',K2,hv.st,hlen,h3,h1,hb1,hd,hf,hl,e1,rv,(show (j : Int) < M.aw.length by omega),(show (0 : Int) ≤ j by omega),(i64_in (x:=(j : Int) + 1) (by unfold I64; omega))] at hW
            subst hW
            refine rd_next (j + 1) ?_ (show M.aw.length - (j + 1) < M.aw.length - j by omega)
            simp (maxSteps:=999999) only [E0,seval,-Int.reduceNatCast',h1,hb1,hd]
            exact ⟨by omega,by simp⟩)
      clear hL
      rcases hex with ⟨rfl,h1,hb1,hf⟩ | ⟨rfl,h2⟩
      rotate_left
      · simp (maxSteps:=999999) only [E0,seval,-Int.reduceNatCast',hd,h2]
        exact ⟨_,rfl⟩
      simp (maxSteps:=999999) only [E0,seval,-Int.reduceNatCast',K2,hv.st,hlen,h1,hb1,hd,hf]
      generalize hL : W _ (.loop _) _ = L
      obtain ⟨ex,s,rfl,hex,hd⟩:=loop_at hL (α:=Nat) (fun j => M.os.length - j)
        (fun s0 j s => j ≤ M.os.length ∧ s.tmps 4 = I j ∧ s.tmps 1 = .bptr 0 1 0 0 ∧ s.boxes 1 = some (0,mcl M (qq M.D Ws av)) ∧ s.defers = [] ∧ s.fid = 0)
        (fun s0 ex s => ((ex = .exit 2) ∨ (ex = .ret ∧ s.tmps 2 = .bool false)) ∧ s.defers = []) 0
        (by simp (maxSteps:=999999) only [E0,seval,-Int.reduceNatCast',h1,hb1]; exact ⟨Nat.zero_le _,by simp⟩) (by
          rintro j s r hW ⟨hj,h3,h1,hb1,hd,hf⟩
          by_cases hp : j < M.os.length
          rotate_left
          · simp (maxSteps:=999999) only [E0,seval,-Int.reduceNatCast',K2,hv.st,hlen,h3,h1,hb1,hd,hf,(show ¬ (j : Int) < M.os.length by omega)] at hW
            subst hW
            exact rd_exit ⟨.inl rfl,by simp (maxSteps:=999999) only [E0,seval,-Int.reduceNatCast',hd]⟩
          have e0 : M.os[j]? = some M.os[j]:=List.getElem?_eq_getElem hp
          have e1:=map_get (f:=ofr none) e0
          generalize M.os[j] = x at *
          by_cases hl : (100 : Int) < x.lots.length
          · simp (maxSteps:=999999) only [E0,seval,-Int.reduceNatCast',K2,hv.st,hlen,h3,h1,hb1,hd,hf,hl,e1,(show (j : Int) < M.os.length by omega),(show (0 : Int) ≤ j by omega)] at hW
            subst hW
            exact rd_ret ⟨.inr ⟨rfl,by simp (maxSteps:=999999) only [E0,seval,-Int.reduceNatCast']⟩,by simp (maxSteps:=999999) only [E0,seval,-Int.reduceNatCast',hd]⟩
          · simp (maxSteps:=999999) only [E0,seval,-Int.reduceNatCast',K2,hv.st,hlen,h3,h1,hb1,hd,hf,hl,e1,(show (j : Int) < M.os.length by omega),(show (0 : Int) ≤ j by omega),(i64_in (x:=(j : Int) + 1) (by unfold I64; omega))] at hW
            subst hW
            refine rd_next (j + 1) ?_ (show M.os.length - (j + 1) < M.os.length - j by omega)
            simp (maxSteps:=999999) only [E0,seval,-Int.reduceNatCast',h1,hb1,hd]
            exact ⟨by omega,by simp⟩)
      clear hL
      rcases hex with rfl | ⟨rfl,h2⟩
      · simp (maxSteps:=999999) only [E0,seval,-Int.reduceNatCast',hd]
        exact ⟨_,rfl⟩
      · simp (maxSteps:=999999) only [E0,seval,-Int.reduceNatCast',hd,h2]
        exact ⟨_,rfl⟩
theorem c_few : ∃ b,ap Tryz.prog pol 6 [.agg (mcl M (qq M.D Ws av))] = some (.ret (.bool b)):=by
  obtain ⟨b0,e0⟩:=c_few45 hv hA
  have hlen:=SAV hA
  refine ⟨b0,?_⟩
  rw [ap_eq _ Tryz.func6 rfl Tryz.ntmps6 Tryz.results6 (by kernel_rfl) rfl (by exact Nat.le_of_ble_eq_true rfl)]
  simp (maxSteps:=999999) only [E0,seval,-Int.reduceNatCast',K1,hv.st,hlen,e0]
end
set_option maxHeartbeats 8000000 in
theorem c_same45 (T : List (List Int)) (a b : List PV) (c c' : Option Nat) (ha : TVL T a) (hb : TVL T b) (lT : T.length ≤ 1000000) (lr : ∀ l ∈ T,l.length ≤ 1000000) : ap Tryz.prog pol 29 [.vs 1 a c,.vs 1 b c'] = some (.ret (.bool true)):=by
  have la:=ha.len
  have lb:=hb.len
  have sa:=STV ha
  have sb:=STV hb
  rw [ap_eq _ Tryz.func29 rfl Tryz.ntmps29 Tryz.results29 (by kernel_rfl) rfl (by exact Nat.le_of_ble_eq_true rfl)]
  simp (maxSteps:=999999) only [E0,seval,-Int.reduceNatCast',NUM,la,lb]
  generalize hL : W _ (.loop _) _ = L
  obtain ⟨ex,s,rfl,rfl,hd⟩:=loop_at hL (α:=Nat) (fun j => T.length - j)
    (fun s0 j s => j ≤ T.length ∧ s.tmps 5 = I j ∧ s.tmps 0 = .vs 1 a c ∧ s.tmps 1 = .vs 1 b c' ∧ s.defers = [] ∧ s.fid = 0)
    (fun s0 ex s => ex = .exit 0 ∧ s.defers = []) 0
    (by simp (maxSteps:=999999) only [E0,seval,-Int.reduceNatCast']; exact ⟨by omega,by simp⟩) (by
      rintro j s r hW ⟨hj,h5,h0,h1,hd,hf⟩
      by_cases hp : j < T.length
      rotate_left
      · simp (maxSteps:=999999) only [E0,seval,-Int.reduceNatCast',NUM,h5,h0,h1,hd,hf,la,(show ¬ (j : Int) < T.length by omega)] at hW
        subst hW
        exact rd_exit ⟨rfl,by simp (maxSteps:=999999) only [E0,seval,-Int.reduceNatCast',hd]⟩
      have e0 : T[j]? = some T[j]:=List.getElem?_eq_getElem hp
      obtain ⟨v,e1,hv⟩:=ha.get j _ e0
      obtain ⟨w,e2,hw⟩:=hb.get j _ e0
      have ll:=lr _ (List.getElem_mem hp)
      have rv:=RVS hv
      have rw_:=RVS hw
      generalize T[j] = l at *
      by_cases hl : l = []
      · subst hl
        simp (maxSteps:=999999) only [E0,seval,-Int.reduceNatCast',NUM,WW_loop,h5,h0,h1,hd,hf,la,lb,e1,e2,rv,rw_,List.length_nil,(show (j : Int) < T.length by omega),(show (0 : Int) ≤ j by omega),Int.toNat_natCast,(i64_in (x:=(j : Int) + 1) (by unfold I64; omega))] at hW
        subst hW
        refine rd_next (j + 1) ?_ (show T.length - (j + 1) < T.length - j by omega)
        simp (maxSteps:=999999) only [E0,seval,-Int.reduceNatCast',h0,h1,hd]
        exact ⟨by omega,by simp⟩
      obtain ⟨cv,rfl⟩ : ∃ c,v = .vs 1 (l.map I) c:=hv.resolve_right fun h => hl h.1
      obtain ⟨cw,rfl⟩ : ∃ c,w = .vs 1 (l.map I) c:=hw.resolve_right fun h => hl h.1
      simp (maxSteps:=999999) only [E0,seval,-Int.reduceNatCast',NUM,h5,h0,h1,hd,hf,la,lb,e1,e2,List.length_map,(show (j : Int) < T.length by omega),(show (0 : Int) ≤ j by omega),Int.toNat_natCast] at hW
      generalize hC : W _ (.loop _) _ = LC at hW
      obtain ⟨exC,sC,rfl,rfl,k5,k0,k1,kd,kf⟩:=loop_at hC (α:=Nat) (fun i => l.length - i)
        (fun s0 i s => i ≤ l.length ∧ s.tmps 6 = I i ∧ s.tmps 5 = I j ∧ s.tmps 0 = .vs 1 a c ∧ s.tmps 1 = .vs 1 b c' ∧ s.defers = [] ∧ s.fid = 0)
        (fun s0 ex s => ex = .exit 2 ∧ s.tmps 5 = I j ∧ s.tmps 0 = .vs 1 a c ∧ s.tmps 1 = .vs 1 b c' ∧ s.defers = [] ∧ s.fid = 0) 0
        (by simp (maxSteps:=999999) only [E0,seval,-Int.reduceNatCast',h5,h0,h1]; exact ⟨by omega,by simp⟩) (by
          rintro i sC r hW ⟨hi,k6,k5,k0,k1,kd,kf⟩
          by_cases hpi : i < l.length
          rotate_left
          · simp (maxSteps:=999999) only [E0,seval,-Int.reduceNatCast',NUM,k6,k5,k0,k1,kd,kf,la,e1,List.length_map,(show (j : Int) < T.length by omega),(show (0 : Int) ≤ j by omega),Int.toNat_natCast,(show ¬ (i : Int) < l.length by omega)] at hW
            subst hW
            exact rd_exit ⟨rfl,by simp (maxSteps:=999999) only [E0,seval,-Int.reduceNatCast',k5,k0,k1,kd]⟩
          have f0 : l[i]? = some l[i]:=List.getElem?_eq_getElem hpi
          have f1:=ints_get f0
          generalize l[i] = u at *
          simp (maxSteps:=999999) only [E0,seval,-Int.reduceNatCast',NUM,k6,k5,k0,k1,kd,kf,la,lb,e1,e2,f1,List.length_map,(show (j : Int) < T.length by omega),(show (0 : Int) ≤ j by omega),Int.toNat_natCast,(show (i : Int) < l.length by omega),(show (0 : Int) ≤ i by omega),(i64_in (x:=(i : Int) + 1) (by unfold I64; omega))] at hW
          subst hW
          refine rd_next (i + 1) ?_ (show l.length - (i + 1) < l.length - i by omega)
          simp (maxSteps:=999999) only [E0,seval,-Int.reduceNatCast',k5,k0,k1,kd]
          exact ⟨by omega,by simp⟩)
      obtain ⟨fC,tC,bC,dC,HC,rC⟩:=sC
      dsimp only at k5 k0 k1 kd kf
      subst kd
      simp (maxSteps:=999999) only [E0,seval,-Int.reduceNatCast',NUM,k5,(i64_in (x:=(j : Int) + 1) (by unfold I64; omega))] at hW
      subst hW
      refine rd_next (j + 1) ?_ (show T.length - (j + 1) < T.length - j by omega)
      simp (maxSteps:=999999) only [E0,seval,-Int.reduceNatCast',k0,k1,kf]
      exact ⟨by omega,by simp⟩)
  simp (maxSteps:=999999) only [E0,seval,-Int.reduceNatCast',hd]
theorem c_sameT (T : List (List Int)) (a b : List PV) (c c' : Option Nat) (ha : TVL T a) (hb : TVL T b) (lT : T.length ≤ 1000000) (lr : ∀ l ∈ T,l.length ≤ 1000000) : ap Tryz.prog pol 12 [.vs 1 a c,.vs 1 b c'] = some (.ret (.bool true)):=by
  have e:=c_same45 T a b c c' ha hb lT lr
  have sa:=STV ha
  have sb:=STV hb
  rw [ap_eq _ Tryz.func12 rfl Tryz.ntmps12 Tryz.results12 (by kernel_rfl) rfl (by exact Nat.le_of_ble_eq_true rfl)]
  simp (maxSteps:=999999) only [E0,seval,-Int.reduceNatCast',NUM,sa,sb,e]
theorem c_samest (l : List Stm) (c c' : Option Nat) (hl : l.length ≤ 1000000) : ap Tryz.prog pol 15 [.vs 4 (l.map stm) c,.vs 4 (l.map stm) c'] = some (.ret (.bool true)):=by
  rw [ap_eq _ Tryz.func15 rfl Tryz.ntmps15 Tryz.results15 (by kernel_rfl) rfl (by exact Nat.le_of_ble_eq_true rfl)]
  simp (maxSteps:=999999) only [E0,seval,-Int.reduceNatCast',NUM,SSTM,List.length_map]
  generalize hL : W _ (.loop _) _ = L
  obtain ⟨ex,s,rfl,rfl,hd⟩:=loop_at hL (α:=Nat) (fun j => l.length - j)
    (fun s0 j s => j ≤ l.length ∧ s.tmps 5 = I j ∧ s.tmps 0 = .vs 4 (l.map stm) c ∧ s.tmps 1 = .vs 4 (l.map stm) c' ∧ s.defers = [] ∧ s.fid = 0)
    (fun s0 ex s => ex = .exit 0 ∧ s.defers = []) 0
    (by simp (maxSteps:=999999) only [E0,seval,-Int.reduceNatCast']; exact ⟨by omega,by simp⟩) (by
      rintro j s r hW ⟨hj,h5,h0,h1,hd,hf⟩
      by_cases hp : j < l.length
      rotate_left
      · simp (maxSteps:=999999) only [E0,seval,-Int.reduceNatCast',NUM,h5,h0,h1,hd,hf,List.length_map,(show ¬ (j : Int) < l.length by omega)] at hW
        subst hW
        exact rd_exit ⟨rfl,by simp (maxSteps:=999999) only [E0,seval,-Int.reduceNatCast',hd]⟩
      have e0 : l[j]? = some l[j]:=List.getElem?_eq_getElem hp
      have e1:=map_get (f:=stm) e0
      generalize l[j] = x at *
      simp (maxSteps:=999999) only [E0,seval,-Int.reduceNatCast',NUM,neq_stm,h5,h0,h1,hd,hf,e1,List.length_map,(show (j : Int) < l.length by omega),(show (0 : Int) ≤ j by omega),Int.toNat_natCast,(i64_in (x:=(j : Int) + 1) (by unfold I64; omega))] at hW
      subst hW
      refine rd_next (j + 1) ?_ (show l.length - (j + 1) < l.length - j by omega)
      simp (maxSteps:=999999) only [E0,seval,-Int.reduceNatCast',h0,h1,hd]
      exact ⟨by omega,by simp⟩)
  simp (maxSteps:=999999) only [E0,seval,-Int.reduceNatCast',hd]
def SMR : Rch:=⟨.empty,-1,1,50,50,0,0,0,0,1,0,1⟩
def SMD : Dis:=⟨.empty,4,0,0,[SMR],[⟨.empty,0,0,-1⟩,⟨.empty,0,0,-1⟩,⟨.empty,0,0,-1⟩],[],[],[]⟩
def SM : Mkt:=⟨SMD,[[6,0,1]],0,0,[⟨1,0,-10,0,10000,[⟨0,-4⟩]⟩,⟨2,1,12,0,10000,[⟨0,4⟩]⟩,⟨5,2,15,0,10000,[⟨0,4⟩]⟩]⟩
def qs : Cps:=⟨some 1,some 3,.nils,.nils,.nils,.nils,[.vs 1 [I 6,I 0,I 1] (some 3)],some 1,some 1,some 3⟩
theorem c_offer (a b c d : Int) : ap Tryz.prog pol 32 [I a,I b,I c,I d] = some (.ret (.agg [I a,I b,I c,I 0,I 10000,.vs 2 [.agg [I 0,I d]] (some 1)])):=by
  rw [ap_eq _ Tryz.func32 rfl Tryz.ntmps32 Tryz.results32 (by kernel_rfl) rfl (by exact Nat.le_of_ble_eq_true rfl)]
  simp (maxSteps:=999999) only [E0,seval,-Int.reduceNatCast',NUM]
theorem c_small : ap Tryz.prog pol 16 [] = some (.ret (.agg (mcl SM qs))):=by
  rw [ap_eq _ Tryz.func16 rfl Tryz.ntmps16 Tryz.results16 (by kernel_rfl) rfl (by exact Nat.le_of_ble_eq_true rfl)]
  simp (maxSteps:=999999) only [E0,seval,-Int.reduceNatCast',NUM,c_offer]
  rfl
theorem SM_ok : ∀ x ∈ SM.D.rs,x.OK:=by
  intro x hx
  simp only [SM,SMD,List.mem_singleton] at hx
  subst hx
  unfold SMR Rch.OK I64
  simp
theorem SM_dv : DV SM.D qs.cs qs.gs qs.ds qs.ws:=⟨SL_nils 2,SL_nils 10,SL_nils 4,⟨rfl,rfl,rfl,rfl⟩,fun _ => ⟨rfl,rfl,rfl,rfl⟩,fun _ => ⟨rfl,rfl,rfl,rfl⟩,fun _ => ⟨rfl,rfl,rfl,rfl⟩⟩
theorem SM_av : AWV SM.aw qs.av:=by
  refine ⟨rfl,fun i l e => ?_⟩
  match i with
  | 0 =>
    simp only [SM,List.getElem?_cons_zero,Option.some.injEq] at e
    subst e
    exact ⟨_,rfl,.inl ⟨by decide,some 3,rfl⟩⟩
  | i + 1 => simp [SM] at e
theorem ALLI_nil {α : Type} {P : Nat → α → Prop} : ALLI P []:=by
  intro i y e
  simp at e
theorem ALLI_one {α : Type} {P : Nat → α → Prop} {x : α} (h : P 0 x) : ALLI P [x]:=by
  intro i y e
  match i with
  | 0 => simp at e; subst e; exact h
  | i + 1 => simp at e
theorem ALLI_three {α : Type} {P : Nat → α → Prop} {x y z : α} (h : P 0 x) (h1 : P 1 y) (h2 : P 2 z) : ALLI P [x,y,z]:=by
  intro i w e
  match i with
  | 0 => simp at e; subst e; exact h
  | 1 => simp at e; subst e; exact h1
  | 2 => simp at e; subst e; exact h2
  | i + 3 => simp at e
theorem SM_X : XC SMD = 0:=by
  unfold XC
  rw [if_pos (by decide),if_pos]
  exact ⟨by decide,by decide,by decide,ALLI_one (by decide),ALLI_nil,ALLI_three (by decide) (by decide) (by decide),ALLI_nil,ALLI_nil⟩
theorem SM_need {t : Int} (h : 0 < t) (h1 : t ≤ 1000) : NEED SMR t = some t:=by
  have w : ∀ v : Int,0 ≤ v → WO (los SMR) v = v:=by
    intro v hv
    unfold WO HI UPD los SMR
    simp only []
    split
    · omega
    · simp
      omega
  have il : IsL (fun v => t ≤ WO (los SMR) v) 1073741825 t:=by
    refine ⟨by omega,by omega,fun i h0 h1 => ?_,fun i h0 h1 => ?_⟩
    · rw [w i h0]; omega
    · rw [w i (by omega)]; omega
  unfold NEED
  rw [if_neg (by omega),if_neg (by omega),LST_eq il,if_pos (by omega)]
  have : SMR.si = 0:=rfl
  rw [this]
  congr 1
  omega
theorem SM_nds {l : List Int} {t : Int} (h : SUMP l [0] [⟨true,0⟩,⟨true,1⟩,⟨true,2⟩] = t) (h1 : 0 < t) (h2 : t ≤ 1000) : NDS SMD l SMD.rs.length = some [t]:=by
  have e:=NDS_succ (D:=SMD) (cl:=l) (hs:=[0]) (k:=0) (x:=SMR) rfl rfl
  have ep : PRT SMD ((SMD.rs.length - 1 - 0 : Nat) : Int) = [⟨true,0⟩,⟨true,1⟩,⟨true,2⟩]:=by rfl
  rw [ep,h,SM_need h1 h2] at e
  exact e
theorem LIT_dec {l : List Int} (h : l.all (fun x => decide (0 ≤ x ∧ x ≤ 1073741824)) = true) : LIT l:=by
  intro x hx
  have:=List.all_eq_true.1 h x hx
  exact of_decide_eq_true this
theorem SM_o {no fm pr d : Int} (h0 : 0 ≤ no ∧ no ≤ 1048576) (h1 : 0 ≤ fm ∧ fm < 600) (h2 : -1073741824 ≤ pr ∧ pr ≤ 1073741824) (h3 : d ≠ 0 ∧ -1073741824 ≤ d ∧ d ≤ 1073741824) : OC ⟨no,fm,pr,0,10000,[⟨0,d⟩]⟩ = 0:=by
  unfold OC
  rw [if_neg (show ¬ 8 < [(⟨0,d⟩ : Lot)].length from by simp),if_pos]
  refine ⟨h0,h1,h2,by simp,by simp,ALLI_one ?_⟩
  unfold LOTK PW
  simp
  omega
theorem SM_mof {no fm pr d p : Int} (h0 : 0 ≤ no ∧ no ≤ 1048576) (h1 : 0 ≤ fm ∧ fm < 3) (h2 : -1073741824 ≤ pr ∧ pr ≤ 1073741824) (h3 : d ≠ 0 ∧ -1073741824 ≤ d ∧ d ≤ 1073741824) (h4 : p < no) : MOF SM p ⟨no,fm,pr,0,10000,[⟨0,d⟩]⟩:=by
  refine ⟨SM_o h0 (by omega) h2 h3,h4,?_,?_⟩
  · show fm < ((3 : Nat) : Int)
    omega
  · intro y hy
    simp only [List.mem_singleton] at hy
    subst hy
    show (0 : Int) < ((1 : Nat) : Int)
    decide
theorem SM_M : MC SM = 0:=by
  unfold MC
  have h0 : XC SM.D = 0:=SM_X
  rw [if_pos h0,if_neg (by decide),if_neg (by decide),if_pos]
  refine ⟨fun l hl => ?_,?_⟩
  · have hl : l = [6,0,1]:=by simpa [SM] using hl
    subst hl
    refine ⟨?_,[7],SM_nds (by decide) (by decide) (by decide)⟩
    unfold DVC
    rw [if_pos h0,if_pos ⟨rfl,LIT_dec (by decide)⟩]
  · exact ALLI_three (SM_mof (by decide) (by decide) (by decide) (by decide) (by decide)) (SM_mof (by decide) (by decide) (by decide) (by decide) (by decide)) (SM_mof (by decide) (by decide) (by decide) (by decide) (by decide))
theorem SM_ask {set : Int} (h : 0 ≤ set ∧ set ≤ 7) : ASK SM set = 0:=by
  unfold ASK
  rw [if_pos SM_M,if_pos]
  exact h
theorem SM_ask8 : ASK SM 8 = 1:=by
  unfold ASK
  rw [if_pos SM_M,if_neg]
  decide
theorem SM_rnk (set : Int) (k : Nat) : RNK SM set k:=by
  intro j x hj e _
  have : x.lo = 0 ∧ x.hi = 10000:=by
    match j,e with
    | 0,e => simp [SM] at e; subst e; exact ⟨rfl,rfl⟩
    | 1,e => simp [SM] at e; subst e; exact ⟨rfl,rfl⟩
    | 2,e => simp [SM] at e; subst e; exact ⟨rfl,rfl⟩
    | j + 3,e => simp [SM] at e
  rw [this.1,this.2]
  decide
theorem SM_cap {a b : Int} (h : b ≤ 50) : CAP SMD.rs [a] [b] SMD.rs.length:=by
  intro i x y z hi h1 h2 h3
  match i with
  | 0 =>
    simp at h1 h2 h3
    have : z = SMR:=by simpa [SMD] using h3.symm
    subst h1; subst h2; subst this
    exact .inr h
  | i + 1 => simp at h1
theorem SM_step {l : List Int} {t : Int} (hl : LIT l) (h : SUMP l [0] [⟨true,0⟩,⟨true,1⟩,⟨true,2⟩] = t) (h1 : 0 < t) (h2 : t ≤ 50) : STEPW SM 0 [6,0,1] l = if 7 - t = 0 then some 0 else none:=by
  unfold STEPW
  have e1 : NDS SM.D [6,0,1] SM.D.rs.length = some [7]:=SM_nds (by decide) (by decide) (by decide)
  have e2 : NDS SM.D l SM.D.rs.length = some [t]:=SM_nds h h1 (by omega)
  rw [if_pos hl,e1,e2]
  show (if CAP SMD.rs [7] [t] SMD.rs.length then (if 0 ≤ 0 + (7 - t) ∧ 0 + (7 - t) ≤ (0 : Int) then some (0 + (7 - t)) else none) else none) = _
  rw [if_pos (SM_cap h2)]
  by_cases g : 7 - t = 0
  · rw [if_pos g,if_pos (by omega),g]; rfl
  · rw [if_neg g,if_neg (by omega)]
theorem SM_aft {set : Int} {l : List Int} {t : Int} (hm : MOVT SM set 3 = [l]) (hl : LIT l) (h : SUMP l [0] [⟨true,0⟩,⟨true,1⟩,⟨true,2⟩] = t) (h1 : 0 < t) (h2 : t ≤ 50) : AFT SM set = if 7 - t = 0 then some [l] else none:=by
  unfold AFT
  have hm' : MOVT SM set SM.os.length = [l]:=hm
  have k0 : KPT SM [l] 0 = some 0:=rfl
  have k1 : KPT SM [l] SM.aw.length = if 7 - t = 0 then some 0 else none:=by
    have:=KPT_succ (M:=SM) (T:=[l]) (k:=0) (kept:=0) (o:=[6,0,1]) (l:=l) rfl rfl rfl
    rw [SM_step hl h h1 h2] at this
    exact this
  rw [if_pos (SM_rnk _ _),hm',k1]
  by_cases g : 7 - t = 0
  · rw [if_pos g,if_pos g]
  · rw [if_neg g,if_neg g]
theorem SM_a5 : AFT SM 5 = some [[2,0,5]]:=SM_aft (t:=7) (by decide) (LIT_dec (by decide)) (by decide) (by decide) (by decide)
theorem SM_a1 : AFT SM 1 = none:=SM_aft (l:=[2,0,1]) (t:=3) (by decide) (LIT_dec (by decide)) (by decide) (by decide) (by decide)
theorem SM_a7 : AFT SM 7 = none:=SM_aft (l:=[2,4,5]) (t:=11) (by decide) (LIT_dec (by decide)) (by decide) (by decide) (by decide)
theorem SM_p5 : PE SM 5 = 0:=by
  unfold PE
  rw [if_neg (by rw [SM_ask (by decide)]; decide),if_neg]
  rw [SM_a5]
  rintro (h | h)
  · cases h
  · revert h; decide
theorem SM_p1 : PE SM 1 = 470:=by
  unfold PE
  rw [if_neg (by rw [SM_ask (by decide)]; decide),if_pos (.inl SM_a1)]
theorem SM_p7 : PE SM 7 = 470:=by
  unfold PE
  rw [if_neg (by rw [SM_ask (by decide)]; decide),if_pos (.inl SM_a7)]
theorem SM_p8 : PE SM 8 = 1:=by
  unfold PE
  rw [if_pos (by rw [SM_ask8]; decide),SM_ask8]
theorem SM_reb : REB SM.os 5 = [2,0,3]:=by
  have hw : WGS SM.os 5 = [10,0,15]:=by decide
  have hp : PRC SM.os 5 SM.os.length = 5:=by decide
  have prb : PRB SM.os:=MC_prb SM_M
  have ck:=CKW_ok prb 5 (by decide) (by decide)
  have ln:=REB_len prb 5 (by decide) (by decide)
  unfold REB at ln ⊢
  rw [hw,hp] at ck ln ⊢
  have q:=fun i x n e en => S.OUTS_q (i:=i) (x:=x) (n:=n) ck (by decide) e en
  generalize S.OUTS 5 [10,0,15] = o at *
  match o,ln with
  | [a,b,c],_ =>
    have qa:=q 0 10 a rfl rfl
    have qb:=q 1 0 b rfl rfl
    have qc:=q 2 15 c rfl rfl
    simp [S.SUMI] at qa qb qc
    rw [qa,qb,qc]
theorem SM_pays : PAYS SM.os 5 = [-12,0,12]:=by
  unfold PAYS PAY
  rw [SM_reb]
  decide
theorem SM_mons : MONS SM 5 = [-12,0,12]:=by
  have e : ∀ f : Int,MON (PAY SM.os 5) SM.os f SM.os.length = MON (fun i x => if BIT 5 i = 1 then x.pr - [2,0,3].getD i 0 else 0) SM.os f SM.os.length:=fun f => by
    unfold PAY
    rw [SM_reb]
  unfold MONS
  simp only [e]
  decide
theorem SM_sts : STS (PAY SM.os 5) SM.os 5 2 SM.os.length = [⟨5,12,15,true⟩]:=by
  unfold PAY
  rw [SM_reb]
  decide
theorem e_pays (c c' : Option Nat) : ap Tryz.prog pol 11 [.vs 1 [I (-12),I 0,I 12] c,.vs 1 [I (-12),I 0,I 12] c'] = some (.ret (.bool true)):=c_same [-12,0,12] [-12,0,12] c c' (by decide)
set_option maxHeartbeats 8000000 in
theorem c_sane : ap Tryz.prog pol 5 [] = some (.ret (.bool true)):=by
  have hr:=SM_ok
  have hv:=SM_dv
  have hA:=SM_av
  have p5:=c_pay hr hv hA 5
  have p1:=c_pay hr hv hA 1
  have p7:=c_pay hr hv hA 7
  have p8:=c_pay hr hv hA 8
  unfold PAYV at p5 p1 p7 p8
  rw [if_neg (by rw [SM_p5]; decide),SM_pays] at p5
  rw [if_pos (by rw [SM_p1]; decide),SM_p1] at p1
  rw [if_pos (by rw [SM_p7]; decide),SM_p7] at p7
  rw [if_pos (by rw [SM_p8]; decide),SM_p8] at p8
  obtain ⟨tv,ct,htv⟩:=c_Aft hr hv hA 5
  have tvl:=htv _ (SM_ask (by decide)) SM_a5
  have b5:=c_books hr hv hA 5 tv ct htv
  unfold BKV at b5
  rw [if_neg (by rw [SM_p5]; decide),SM_mons] at b5
  have s5:=c_statements hr hv hA 5 2
  have s3:=c_statements hr hv hA 5 3
  unfold STMV at s5 s3
  rw [if_neg (by rw [SM_p5]; decide),if_neg (by decide),SM_sts] at s5
  rw [if_neg (by rw [SM_p5]; decide),if_pos (by decide)] at s3
  have st:=STV tvl
  have tl : TVL [[2,0,5]] [PV.vs 1 [I 2,I 0,I 5] (some 3)]:=by
    refine ⟨rfl,fun w l e => ?_⟩
    match w with
    | 0 =>
      simp only [List.getElem?_cons_zero,Option.some.injEq] at e
      subst e
      exact ⟨_,rfl,.inl ⟨some 3,rfl⟩⟩
    | w + 1 => simp at e
  have t5:=c_sameT [[2,0,5]] tv _ none (some 1) tvl tl (by decide) (by decide)
  have l5:=c_samest [⟨5,12,15,true⟩] none (some 1) (by decide)
  have l0 : ([(⟨5,12,15,true⟩ : Stm)].map stm) = [.agg [I 5,I 12,I 15,.bool true]]:=rfl
  rw [l0] at s5 l5
  rw [ap_eq _ Tryz.func5 rfl Tryz.ntmps5 Tryz.results5 (by kernel_rfl) rfl (by exact Nat.le_of_ble_eq_true rfl)]
  simp (maxSteps:=999999) only [E0,seval,-Int.reduceNatCast',K1,hv.st,SAV hA,c_small,p5,p1,p7,p8,b5,s5,s3,t5,l5,st,e_pays]
theorem c_refdiv (x y : Int) (hx : 0 ≤ x) (hy : 0 ≤ y) : ap Tryz.prog pol 149 [I x,I y] = some (.ret (I (Nat.gcd x.toNat y.toNat))):=by
  rw [ap_eq _ Tryz.func149 rfl Tryz.ntmps149 Tryz.results149 (by kernel_rfl) rfl (by exact Nat.le_of_ble_eq_true rfl)]
  simp (maxSteps:=999999) only [E0,seval,-Int.reduceNatCast']
  generalize hL : W _ (.loop _) _ = L
  obtain ⟨ex,s,rfl,rfl,h0,hd⟩:=loop_at hL (α:=Int × Int) (fun x => x.2.toNat)
    (fun _ q s => 0 ≤ q.1 ∧ 0 ≤ q.2 ∧ Nat.gcd q.1.toNat q.2.toNat = Nat.gcd x.toNat y.toNat ∧ s.tmps 0 = I q.1 ∧ s.tmps 1 = I q.2 ∧ s.defers = [])
    (fun _ ex s => ex = .exit 0 ∧ s.tmps 0 = I (Nat.gcd x.toNat y.toNat) ∧ s.defers = []) (x,y)
    (by simp (maxSteps:=999999) only [E0,seval,-Int.reduceNatCast',hx,hy]) (by
      rintro ⟨a,b⟩ s r hW ⟨ha,hb,hg,h0,h1,hd⟩
      simp only at ha hb hg h0 h1
      simp (maxSteps:=999999) only [E0,seval,-Int.reduceNatCast',h0,h1,hd] at hW
      subst hW
      refine rd_ite (fun hp => ?_) (fun hp => ?_)
      · rw [if_neg (by omega)]
        have e : a.tmod b = a % b:=Int.tmod_eq_emod_of_nonneg ha
        have e1:=Int.emod_nonneg a (b:=b) (by omega)
        have e2:=Int.emod_lt_of_pos a hp
        rw [e]
        refine rd_next (b,a % b) ?_ (by simp only; omega)
        simp (maxSteps:=999999) only [E0,seval,-Int.reduceNatCast']
        exact ⟨hb,e1,(gcd_step ha hp).trans hg⟩
      · refine rd_exit ⟨rfl,?_⟩
        have : b = 0:=by omega
        subst this
        simp only [Int.toNat_zero,Nat.gcd_zero_right] at hg
        simp (maxSteps:=999999) only [E0,seval,-Int.reduceNatCast',h0]
        congr 1
        omega)
  simp (maxSteps:=999999) only [E0,seval,-Int.reduceNatCast',h0,hd]
theorem r_size (x : Int) (h : I64 x) (h' : x ≠ -9223372036854775808) : ap Tryz.prog pol 150 [I x] = some (.ret (I (mag x))):=by
  rw [ap_eq _ Tryz.func150 rfl Tryz.ntmps150 Tryz.results150 (by kernel_rfl) rfl (by exact Nat.le_of_ble_eq_true rfl)]
  simp (maxSteps:=999999) only [E0,seval,-Int.reduceNatCast']
  unfold I64 at h
  unfold mag
  split
  · rw [wrap_i64]; congr 3; omega
  · rfl
theorem r_valid (n d : Int) (hn : I64 n) (hd : I64 d) : ap Tryz.prog pol 145 [rat n d] = some (.ret (.bool (decide (VALID n d)))):=by
  by_cases h : -1073741824 ≤ n
  · rw [ap_eq _ Tryz.func145 rfl Tryz.ntmps145 Tryz.results145 (by kernel_rfl) rfl (by exact Nat.le_of_ble_eq_true rfl)]
    by_cases h1 : 1 ≤ d
    · have hm : 0 ≤ mag n:=by unfold mag; split <;> omega
      simp (maxSteps:=999999) only [E0,seval,-Int.reduceNatCast',r_size n hn (by omega),c_refdiv _ _ hm (show 0 ≤ d by omega),h,h1]
      have e : d.toNat = d.natAbs:=by omega
      rw [e,mag_nat,Int.toNat_natCast]
      unfold VALID
      split
      · split
        · next h2 h3 =>
          congr 3
          simp only [h1,h2,h,h3,true_and]
          congr 1
          apply propext
          omega
        · next h3 => simp only [h3,false_and,and_false,decide_false]
      · next h2 => simp only [h2,false_and,and_false,decide_false]
    · simp (maxSteps:=999999) only [E0,seval,-Int.reduceNatCast',h1]
      rw [decide_eq_false (by unfold VALID; omega)]
  · rw [ap_eq _ Tryz.func145 rfl Tryz.ntmps145 Tryz.results145 (by kernel_rfl) rfl (by exact Nat.le_of_ble_eq_true rfl)]
    simp (maxSteps:=999999) only [E0,seval,-Int.reduceNatCast',h]
    rw [decide_eq_false (by unfold VALID; omega)]
    repeat' split
    all_goals rfl
theorem c_refcheck12 (n d : Int) (hn : I64 n) (hd : I64 d) : ap Tryz.prog pol 140 [rat n d] = some (.ret (I (if VALID n d then 0 else 120))):=by
  rw [ap_eq _ Tryz.func140 rfl Tryz.ntmps140 Tryz.results140 (by kernel_rfl) rfl (by exact Nat.le_of_ble_eq_true rfl)]
  simp (maxSteps:=999999) only [E0,seval,-Int.reduceNatCast',r_valid n d hn hd]
  by_cases h : VALID n d <;> simp [h]
theorem r_both (a b c d : Int) (ha : I64 a) (hb : I64 b) (hc : I64 c) (hd : I64 d) : ap Tryz.prog pol 146 [rat a b,rat c d] = some (.ret (.bool (decide (VALID a b ∧ VALID c d)))):=by
  rw [ap_eq _ Tryz.func146 rfl Tryz.ntmps146 Tryz.results146 (by kernel_rfl) rfl (by exact Nat.le_of_ble_eq_true rfl)]
  simp (maxSteps:=999999) only [E0,seval,-Int.reduceNatCast',r_valid _ _ ha hb,r_valid _ _ hc hd]
  split
  · next h => simp [h]
  · next h => simp [h]
section
variable (a b c d : Int) (ha : I64 a) (hb : I64 b) (hc : I64 c) (hd : I64 d)
include ha hb hc hd
theorem r_less : ap Tryz.prog pol 147 [rat a b,rat c d] = some (.ret (.bool (decide (w64 (a * d) < w64 (c * b))))):=by
  rw [ap_eq _ Tryz.func147 rfl Tryz.ntmps147 Tryz.results147 (by kernel_rfl) rfl (by exact Nat.le_of_ble_eq_true rfl)]
  simp (maxSteps:=999999) only [E0,seval,-Int.reduceNatCast']
theorem c_refcmp : ap Tryz.prog pol 141 [rat a b,rat c d] = some (.ret (.tup [I (CMPR a b c d).1,I (CMPR a b c d).2])):=by
  rw [ap_eq _ Tryz.func141 rfl Tryz.ntmps141 Tryz.results141 (by kernel_rfl) rfl (by exact Nat.le_of_ble_eq_true rfl)]
  unfold CMPR
  by_cases h : VALID a b ∧ VALID c d
  · simp (maxSteps:=999999) only [E0,seval,-Int.reduceNatCast',r_both a b c d ha hb hc hd,h,r_less a b c d ha hb hc hd,r_less c d a b hc hd ha hb]
    unfold CMP
    repeat' split
    all_goals rfl
  · simp (maxSteps:=999999) only [E0,seval,-Int.reduceNatCast',r_both a b c d ha hb hc hd,h]
end
theorem r_within (n lo hi : Int) : ap Tryz.prog pol 115 [I n,I lo,I hi] = some (.ret (.bool (decide (lo ≤ n ∧ n ≤ hi)))):=by
  rw [ap_eq _ Tryz.func115 rfl Tryz.ntmps115 Tryz.results115 (by kernel_rfl) rfl (by exact Nat.le_of_ble_eq_true rfl)]
  simp (maxSteps:=999999) only [E0,seval,-Int.reduceNatCast',b_and]
theorem c_refshares (a b c d : Int) (ha : I64 a) (hb : I64 b) (hc : I64 c) (hd : I64 d) : ap Tryz.prog pol 135 [.agg [I a,I b,I c,I d]] = some (.ret (.bool (decide (SHR a b c d)))):=by
  rw [ap_eq _ Tryz.func135 rfl Tryz.ntmps135 Tryz.results135 (by kernel_rfl) rfl (by exact Nat.le_of_ble_eq_true rfl)]
  by_cases h1 : VALID a b
  rotate_left
  · simp (maxSteps:=999999) only [E0,seval,-Int.reduceNatCast',NUM,c_refcheck12 a b ha hb,h1]
    exact b_no fun h => h1 h.1
  by_cases h2 : VALID c d
  rotate_left
  · simp (maxSteps:=999999) only [E0,seval,-Int.reduceNatCast',NUM,c_refcheck12 a b ha hb,c_refcheck12 c d hc hd,h1,h2]
    exact b_no fun h => h2 h.2.1
  have e : CMPR a b c d = (CMP (w64 (a * d)) (w64 (c * b)),0):=by simp only [CMPR,h1,h2,and_self,if_true]
  simp (maxSteps:=999999) only [E0,seval,-Int.reduceNatCast',NUM,c_refcheck12 a b ha hb,c_refcheck12 c d hc hd,c_refcmp a b c d ha hb hc hd,h1,h2,e,b_and]
  refine b_iff ?_
  unfold SHR
  simp only [h1,h2,true_and,and_assoc]
theorem c_refreach (x : Rch) (h : x.OK) : ap Tryz.prog pol 128 [rch x] = some (.ret (.bool (decide (RIN x)))):=by
  obtain ⟨nm,up,dl,cp,bk,si,e0,e1,s0,s1,s2,s3⟩:=x
  obtain ⟨ha,hb,hc,hd⟩:=h
  simp only at ha hb hc hd
  rw [ap_eq _ Tryz.func128 rfl Tryz.ntmps128 Tryz.results128 (by kernel_rfl) rfl (by exact Nat.le_of_ble_eq_true rfl)]
  simp (maxSteps:=999999) only [E0,seval,-Int.reduceNatCast',NUM,r_within,c_refshares s0 s1 s2 s3 ha hb hc hd,b_and,b_nand]
  refine b_iff ?_
  unfold RIN
  simp only [Decidable.not_not]
  constructor
  · rintro ⟨h1,h2,h3,h4,h5,h6,h7⟩
    exact ⟨h1,by omega,by omega,by omega,h7⟩
  · rintro ⟨h1,h2,h3,h4,h7⟩
    exact ⟨h1,by omega,by omega,by omega,by omega,by omega,h7⟩
theorem c_refreaches (rs : List Rch) (c : Option Nat) (hr : ∀ x ∈ rs,x.OK) (hl : rs.length ≤ 10000) : ∃ b,ap Tryz.prog pol 116 [.vs 12 (rs.map rch) c] = some (.ret (.bool b)) ∧ (b = true ↔ (0 < rs.length ∧ ALLI (fun i x => RUP i x ∧ RIN x) rs)):=by
  rw [ap_eq _ Tryz.func116 rfl Tryz.ntmps116 Tryz.results116 (by kernel_rfl) rfl (by exact Nat.le_of_ble_eq_true rfl)]
  simp (maxSteps:=999999) only [E0,seval,-Int.reduceNatCast',SRCH]
  generalize hL : W _ (.loop _) _ = L
  obtain ⟨ex,s,rfl,hd,hf,hex⟩:=loop_at hL (α:=Nat) (fun j => rs.length - j)
    (fun s0 j s => j ≤ rs.length ∧ ALLI (fun i x => RUP i x ∧ RIN x) (rs.take j) ∧ s.tmps 3 = I j ∧ s.tmps 0 = .vs 12 (rs.map rch) c ∧ s.defers = [] ∧ s.fid = 0)
    (fun s0 ex s => s.defers = [] ∧ s.fid = 0 ∧ ((ex = .exit 0 ∧ ALLI (fun i x => RUP i x ∧ RIN x) rs ∧ s.tmps 0 = .vs 12 (rs.map rch) c) ∨ (ex = .ret ∧ ¬ ALLI (fun i x => RUP i x ∧ RIN x) rs ∧ s.tmps 2 = .bool false))) 0
    (by simp (maxSteps:=999999) only [E0,seval,-Int.reduceNatCast',List.take_zero]; exact ⟨Nat.zero_le _,fun i x h => by simp at h,by simp⟩) (by
      rintro j s r0 hW ⟨hj,ha,h3,h0,hd,hf⟩
      by_cases hp : j < rs.length
      · have e0 : rs[j]? = some rs[j]:=List.getElem?_eq_getElem hp
        have e1:=map_get (f:=rch) e0
        have ok:=hr _ (List.getElem_mem hp)
        have cr:=c_refreach rs[j] ok
        generalize rs[j] = x at *
        by_cases hj0 : j = 0
        · by_cases hu : RUP j x
          · have hu' : x.up = -1:=by unfold RUP at hu; omega
            by_cases hi : RIN x
            · simp (maxSteps:=999999) only [E0,seval,-Int.reduceNatCast',NUM,SRCH,h3,h0,hd,hf,e1,cr,r_within,eq_true (show (j : Int) = 0 by omega),(show ¬ (0 : Int) < j by omega),List.length_map,Int.toNat_natCast,(show (j : Int) < rs.length by omega),(show (0 : Int) ≤ j by omega),(i64_in (x:=(j : Int) + 1) (by unfold I64; omega)),(i64_in (x:=(j : Int) - 1) (by unfold I64; omega)),eq_true hu',hi] at hW
              subst hW
              refine rd_next (j + 1) ?_ (show rs.length - (j + 1) < rs.length - j by omega)
              simp (maxSteps:=999999) only [E0,seval,-Int.reduceNatCast',h0]
              exact ⟨by omega,ALLI_take ha e0 ⟨hu,hi⟩,by simp⟩
            · simp (maxSteps:=999999) only [E0,seval,-Int.reduceNatCast',NUM,SRCH,h3,h0,hd,hf,e1,cr,r_within,eq_true (show (j : Int) = 0 by omega),(show ¬ (0 : Int) < j by omega),List.length_map,Int.toNat_natCast,(show (j : Int) < rs.length by omega),(show (0 : Int) ≤ j by omega),(i64_in (x:=(j : Int) + 1) (by unfold I64; omega)),(i64_in (x:=(j : Int) - 1) (by unfold I64; omega)),eq_true hu',hi] at hW
              subst hW
              refine rd_ret ⟨?_,?_,.inr ⟨rfl,ALLI_not (P:=fun i x => RUP i x ∧ RIN x) e0 (fun h => hi h.2),?_⟩⟩ <;> simp (maxSteps:=999999) only [E0,seval,-Int.reduceNatCast',hd,hf]
          · have hu' : ¬ x.up = -1:=by unfold RUP at hu; omega
            simp (maxSteps:=999999) only [E0,seval,-Int.reduceNatCast',NUM,SRCH,h3,h0,hd,hf,e1,cr,r_within,eq_true (show (j : Int) = 0 by omega),(show ¬ (0 : Int) < j by omega),List.length_map,Int.toNat_natCast,(show (j : Int) < rs.length by omega),(show (0 : Int) ≤ j by omega),(i64_in (x:=(j : Int) + 1) (by unfold I64; omega)),(i64_in (x:=(j : Int) - 1) (by unfold I64; omega)),eq_false hu'] at hW
            subst hW
            refine rd_ret ⟨?_,?_,.inr ⟨rfl,ALLI_not (P:=fun i x => RUP i x ∧ RIN x) e0 (fun h => hu h.1),?_⟩⟩ <;> simp (maxSteps:=999999) only [E0,seval,-Int.reduceNatCast',hd,hf]
        · by_cases hu : RUP j x
          · have hu' : 0 ≤ x.up ∧ x.up ≤ (j : Int) - 1:=by unfold RUP at hu; omega
            by_cases hi : RIN x
            · simp (maxSteps:=999999) only [E0,seval,-Int.reduceNatCast',NUM,SRCH,h3,h0,hd,hf,e1,cr,r_within,List.length_map,Int.toNat_natCast,(show (j : Int) < rs.length by omega),(show (0 : Int) ≤ j by omega),(i64_in (x:=(j : Int) + 1) (by unfold I64; omega)),(i64_in (x:=(j : Int) - 1) (by unfold I64; omega)),(show ¬ (j : Int) = 0 by omega),(show (0 : Int) < j by omega),hu',hi] at hW
              subst hW
              refine rd_next (j + 1) ?_ (show rs.length - (j + 1) < rs.length - j by omega)
              simp (maxSteps:=999999) only [E0,seval,-Int.reduceNatCast',h0]
              exact ⟨by omega,ALLI_take ha e0 ⟨hu,hi⟩,by simp⟩
            · simp (maxSteps:=999999) only [E0,seval,-Int.reduceNatCast',NUM,SRCH,h3,h0,hd,hf,e1,cr,r_within,List.length_map,Int.toNat_natCast,(show (j : Int) < rs.length by omega),(show (0 : Int) ≤ j by omega),(i64_in (x:=(j : Int) + 1) (by unfold I64; omega)),(i64_in (x:=(j : Int) - 1) (by unfold I64; omega)),(show ¬ (j : Int) = 0 by omega),(show (0 : Int) < j by omega),hu',hi] at hW
              subst hW
              refine rd_ret ⟨?_,?_,.inr ⟨rfl,ALLI_not (P:=fun i x => RUP i x ∧ RIN x) e0 (fun h => hi h.2),?_⟩⟩ <;> simp (maxSteps:=999999) only [E0,seval,-Int.reduceNatCast',hd,hf]
          · have hu' : ¬ (0 ≤ x.up ∧ x.up ≤ (j : Int) - 1):=by unfold RUP at hu; omega
            simp (maxSteps:=999999) only [E0,seval,-Int.reduceNatCast',NUM,SRCH,h3,h0,hd,hf,e1,cr,r_within,List.length_map,Int.toNat_natCast,(show (j : Int) < rs.length by omega),(show (0 : Int) ≤ j by omega),(i64_in (x:=(j : Int) + 1) (by unfold I64; omega)),(i64_in (x:=(j : Int) - 1) (by unfold I64; omega)),(show ¬ (j : Int) = 0 by omega),(show (0 : Int) < j by omega),hu'] at hW
            subst hW
            refine rd_ret ⟨?_,?_,.inr ⟨rfl,ALLI_not (P:=fun i x => RUP i x ∧ RIN x) e0 (fun h => hu h.1),?_⟩⟩ <;> simp (maxSteps:=999999) only [E0,seval,-Int.reduceNatCast',hd,hf]
      · simp (maxSteps:=999999) only [E0,seval,-Int.reduceNatCast',List.length_map,h3,h0,hd,hf,(show ¬ (j : Int) < rs.length by omega)] at hW
        subst hW
        refine rd_exit ⟨rfl,rfl,.inl ⟨rfl,ALLI_full ha (by omega),?_⟩⟩
        simp (maxSteps:=999999) only [E0,seval,-Int.reduceNatCast',h0])
  rcases hex with ⟨rfl,h,h0⟩ | ⟨rfl,h,h2⟩
  · simp (maxSteps:=999999) only [E0,seval,-Int.reduceNatCast',hd,hf,h0,List.length_map]
    exact ⟨_,rfl,by simp [h]⟩
  · simp (maxSteps:=999999) only [E0,seval,-Int.reduceNatCast',hd,hf,h2]
    exact ⟨_,rfl,by simp [h]⟩
abbrev SWS (l : List PV) : Prop:=strip0L l = l ∧ l.map strip0 = l ∧ (∀ H,l.map (strip1 H) = l) ∧ (∀ H,l.map (strip2 H) = l) ∧ (∀ H,strip1L H l = l) ∧ (∀ H,strip2L H l = l)
abbrev dc (D : Dis) (ws : List PV) : List PV:=[.str D.nm,I D.hours,I D.cap,I D.start,.vs 12 (D.rs.map rch) none,.vs 4 (D.fs.map frm) none,.vs 2 (D.cs.map crp) none,.vs 10 (D.gs.map rgt) none,.vs 4 (D.ds.map dty) none,.vs 4 ws none]
theorem c_reffarms (D : Dis) (ws : List PV) (hw : SWS ws) (l1 : D.rs.length ≤ 10000) (l2 : D.fs.length ≤ 10000) (l3 : D.cs.length ≤ 10000) : ∃ b,ap Tryz.prog pol 117 [.agg (dc D ws)] = some (.ret (.bool b)) ∧ (b = true ↔ (ALLI (fun _ x => CRPK x) D.cs ∧ ALLI (fun _ x => FRMK D.rs.length D.cs.length x) D.fs)):=by
  rw [ap_eq _ Tryz.func117 rfl Tryz.ntmps117 Tryz.results117 (by kernel_rfl) rfl (by exact Nat.le_of_ble_eq_true rfl)]
  simp (maxSteps:=999999) only [E0,seval,-Int.reduceNatCast']
  generalize hL : W _ (.loop _) _ = L
  obtain ⟨ex,s,rfl,hd,hf,hex⟩:=loop_at hL (α:=Nat) (fun j => D.cs.length - j)
    (fun s0 j s => j ≤ D.cs.length ∧ ALLI (fun _ x => CRPK x) (D.cs.take j) ∧ s.tmps 3 = I j ∧ s.tmps 1 = .bptr 0 1 0 0 ∧ s.boxes 1 = some (0,dc D ws) ∧ s.defers = [] ∧ s.fid = 0)
    (fun s0 ex s => s.defers = [] ∧ s.fid = 0 ∧ ((ex = .exit 0 ∧ ALLI (fun _ x => CRPK x) D.cs ∧ s.tmps 1 = .bptr 0 1 0 0 ∧ s.boxes 1 = some (0,dc D ws)) ∨ (ex = .ret ∧ ¬ ALLI (fun _ x => CRPK x) D.cs ∧ s.tmps 2 = .bool false))) 0
    (by simp (maxSteps:=999999) only [E0,seval,-Int.reduceNatCast',List.take_zero]; exact ⟨Nat.zero_le _,fun i x h => by simp at h,by simp⟩) (by
      rintro j s r0 hW ⟨hj,ha,h3,h1,hb,hd,hf⟩
      by_cases hp : j < D.cs.length
      · have e0 : D.cs[j]? = some D.cs[j]:=List.getElem?_eq_getElem hp
        have e1:=map_get (f:=crp) e0
        generalize D.cs[j] = x at *
        by_cases hu : CRPK x
        · have hu' : 0 ≤ x.n ∧ x.n ≤ 1048576:=hu
          simp (maxSteps:=999999) only [E0,seval,-Int.reduceNatCast',NUM,h3,h1,hb,hd,hf,e1,r_within,eq_true hu',List.length_map,Int.toNat_natCast,(show (j : Int) < D.cs.length by omega),(show (0 : Int) ≤ j by omega),(i64_in (x:=(j : Int) + 1) (by unfold I64; omega))] at hW
          subst hW
          refine rd_next (j + 1) ?_ (show D.cs.length - (j + 1) < D.cs.length - j by omega)
          simp (maxSteps:=999999) only [E0,seval,-Int.reduceNatCast',h1,hb]
          exact ⟨by omega,ALLI_take ha e0 hu,by simp⟩
        · have hu' : ¬ (0 ≤ x.n ∧ x.n ≤ 1048576):=hu
          simp (maxSteps:=999999) only [E0,seval,-Int.reduceNatCast',NUM,h3,h1,hb,hd,hf,e1,r_within,eq_false hu',List.length_map,Int.toNat_natCast,(show (j : Int) < D.cs.length by omega),(show (0 : Int) ≤ j by omega)] at hW
          subst hW
          refine rd_ret ⟨?_,?_,.inr ⟨rfl,ALLI_not (P:=fun _ x => CRPK x) e0 hu,?_⟩⟩ <;> simp (maxSteps:=999999) only [E0,seval,-Int.reduceNatCast',hd,hf]
      · simp (maxSteps:=999999) only [E0,seval,-Int.reduceNatCast',List.length_map,h3,h1,hb,hd,hf,(show ¬ (j : Int) < D.cs.length by omega)] at hW
        subst hW
        refine rd_exit ⟨rfl,rfl,.inl ⟨rfl,ALLI_full ha (by omega),?_⟩⟩
        simp (maxSteps:=999999) only [E0,seval,-Int.reduceNatCast',h1,hb])
  rcases hex with ⟨rfl,hcs,g1,gb⟩ | ⟨rfl,h,h2⟩
  rotate_left
  · simp (maxSteps:=999999) only [E0,seval,-Int.reduceNatCast',hd,hf,h2]
    exact ⟨_,rfl,by simp [h]⟩
  simp (maxSteps:=999999) only [E0,seval,-Int.reduceNatCast',hd,hf,g1,gb]
  clear hL
  generalize hL : W _ (.loop _) _ = L
  obtain ⟨ex,s,rfl,hd,hf,hex⟩:=loop_at hL (α:=Nat) (fun j => D.fs.length - j)
    (fun s0 j s => j ≤ D.fs.length ∧ ALLI (fun _ x => FRMK D.rs.length D.cs.length x) (D.fs.take j) ∧ s.tmps 4 = I j ∧ s.tmps 1 = .bptr 0 1 0 0 ∧ s.boxes 1 = some (0,dc D ws) ∧ s.defers = [] ∧ s.fid = 0)
    (fun s0 ex s => s.defers = [] ∧ s.fid = 0 ∧ ((ex = .exit 2 ∧ ALLI (fun _ x => FRMK D.rs.length D.cs.length x) D.fs) ∨ (ex = .ret ∧ ¬ ALLI (fun _ x => FRMK D.rs.length D.cs.length x) D.fs ∧ s.tmps 2 = .bool false))) 0
    (by simp (maxSteps:=999999) only [E0,seval,-Int.reduceNatCast',List.take_zero,g1,gb]; exact ⟨Nat.zero_le _,fun i x h => by simp at h,by simp⟩) (by
      rintro j s r0 hW ⟨hj,ha,h4,h1,hb,hd,hf⟩
      by_cases hp : j < D.fs.length
      · have e0 : D.fs[j]? = some D.fs[j]:=List.getElem?_eq_getElem hp
        have e1:=map_get (f:=frm) e0
        generalize D.fs[j] = x at *
        by_cases a1 : 0 ≤ x.at_ ∧ x.at_ ≤ (D.rs.length : Int) - 1
        rotate_left
        · simp (maxSteps:=999999) only [E0,seval,-Int.reduceNatCast',NUM,h4,h1,hb,hd,hf,e1,r_within,List.length_map,Int.toNat_natCast,(show (j : Int) < D.fs.length by omega),(show (0 : Int) ≤ j by omega),(i64_in (x:=(j : Int) + 1) (by unfold I64; omega)),(i64_in (x:=(D.rs.length : Int) - 1) (by unfold I64; omega)),(i64_in (x:=(D.cs.length : Int) - 1) (by unfold I64; omega)),eq_false a1] at hW
          subst hW
          refine rd_ret ⟨?_,?_,.inr ⟨rfl,ALLI_not (P:=fun _ x => FRMK D.rs.length D.cs.length x) e0 (fun h => by unfold FRMK at h; omega),?_⟩⟩ <;> simp (maxSteps:=999999) only [E0,seval,-Int.reduceNatCast',hd,hf]
        by_cases a2 : 0 ≤ x.ar ∧ x.ar ≤ 1048576
        rotate_left
        · simp (maxSteps:=999999) only [E0,seval,-Int.reduceNatCast',NUM,h4,h1,hb,hd,hf,e1,r_within,List.length_map,Int.toNat_natCast,(show (j : Int) < D.fs.length by omega),(show (0 : Int) ≤ j by omega),(i64_in (x:=(j : Int) + 1) (by unfold I64; omega)),(i64_in (x:=(D.rs.length : Int) - 1) (by unfold I64; omega)),(i64_in (x:=(D.cs.length : Int) - 1) (by unfold I64; omega)),eq_true a1,eq_false a2] at hW
          subst hW
          refine rd_ret ⟨?_,?_,.inr ⟨rfl,ALLI_not (P:=fun _ x => FRMK D.rs.length D.cs.length x) e0 (fun h => by unfold FRMK at h; omega),?_⟩⟩ <;> simp (maxSteps:=999999) only [E0,seval,-Int.reduceNatCast',hd,hf]
        by_cases a0 : x.ar = 0
        · by_cases a3 : x.cr = -1
          · simp (maxSteps:=999999) only [E0,seval,-Int.reduceNatCast',NUM,h4,h1,hb,hd,hf,e1,r_within,List.length_map,Int.toNat_natCast,(show (j : Int) < D.fs.length by omega),(show (0 : Int) ≤ j by omega),(i64_in (x:=(j : Int) + 1) (by unfold I64; omega)),(i64_in (x:=(D.rs.length : Int) - 1) (by unfold I64; omega)),(i64_in (x:=(D.cs.length : Int) - 1) (by unfold I64; omega)),eq_true a1,eq_true a2,eq_true a0,eq_true a3,(show ¬ 0 < x.ar by omega)] at hW
            subst hW
            refine rd_next (j + 1) ?_ (show D.fs.length - (j + 1) < D.fs.length - j by omega)
            simp (maxSteps:=999999) only [E0,seval,-Int.reduceNatCast',h1,hb]
            exact ⟨by omega,ALLI_take ha e0 (by unfold FRMK; rw [if_neg (show ¬ 0 < x.ar by omega)]; omega),by simp⟩
          · simp (maxSteps:=999999) only [E0,seval,-Int.reduceNatCast',NUM,h4,h1,hb,hd,hf,e1,r_within,List.length_map,Int.toNat_natCast,(show (j : Int) < D.fs.length by omega),(show (0 : Int) ≤ j by omega),(i64_in (x:=(j : Int) + 1) (by unfold I64; omega)),(i64_in (x:=(D.rs.length : Int) - 1) (by unfold I64; omega)),(i64_in (x:=(D.cs.length : Int) - 1) (by unfold I64; omega)),eq_true a1,eq_true a2,eq_true a0,eq_false a3,(show ¬ 0 < x.ar by omega)] at hW
            subst hW
            refine rd_ret ⟨?_,?_,.inr ⟨rfl,ALLI_not (P:=fun _ x => FRMK D.rs.length D.cs.length x) e0 (fun h => by unfold FRMK at h; rw [if_neg (show ¬ 0 < x.ar by omega)] at h; omega),?_⟩⟩ <;> simp (maxSteps:=999999) only [E0,seval,-Int.reduceNatCast',hd,hf]
        · by_cases a3 : 0 ≤ x.cr ∧ x.cr ≤ (D.cs.length : Int) - 1
          · simp (maxSteps:=999999) only [E0,seval,-Int.reduceNatCast',NUM,h4,h1,hb,hd,hf,e1,r_within,List.length_map,Int.toNat_natCast,(show (j : Int) < D.fs.length by omega),(show (0 : Int) ≤ j by omega),(i64_in (x:=(j : Int) + 1) (by unfold I64; omega)),(i64_in (x:=(D.rs.length : Int) - 1) (by unfold I64; omega)),(i64_in (x:=(D.cs.length : Int) - 1) (by unfold I64; omega)),eq_true a1,eq_true a2,eq_false a0,eq_true a3,(show 0 < x.ar by omega)] at hW
            subst hW
            refine rd_next (j + 1) ?_ (show D.fs.length - (j + 1) < D.fs.length - j by omega)
            simp (maxSteps:=999999) only [E0,seval,-Int.reduceNatCast',h1,hb]
            exact ⟨by omega,ALLI_take ha e0 (by unfold FRMK; rw [if_pos (show 0 < x.ar by omega)]; omega),by simp⟩
          · simp (maxSteps:=999999) only [E0,seval,-Int.reduceNatCast',NUM,h4,h1,hb,hd,hf,e1,r_within,List.length_map,Int.toNat_natCast,(show (j : Int) < D.fs.length by omega),(show (0 : Int) ≤ j by omega),(i64_in (x:=(j : Int) + 1) (by unfold I64; omega)),(i64_in (x:=(D.rs.length : Int) - 1) (by unfold I64; omega)),(i64_in (x:=(D.cs.length : Int) - 1) (by unfold I64; omega)),eq_true a1,eq_true a2,eq_false a0,eq_false a3,(show 0 < x.ar by omega)] at hW
            subst hW
            refine rd_ret ⟨?_,?_,.inr ⟨rfl,ALLI_not (P:=fun _ x => FRMK D.rs.length D.cs.length x) e0 (fun h => by unfold FRMK at h; rw [if_pos (show 0 < x.ar by omega)] at h; omega),?_⟩⟩ <;> simp (maxSteps:=999999) only [E0,seval,-Int.reduceNatCast',hd,hf]
      · simp (maxSteps:=999999) only [E0,seval,-Int.reduceNatCast',List.length_map,h4,h1,hb,hd,hf,(show ¬ (j : Int) < D.fs.length by omega)] at hW
        subst hW
        refine rd_exit ⟨rfl,rfl,.inl ⟨rfl,ALLI_full ha (by omega)⟩⟩)
  rcases hex with ⟨rfl,hfs⟩ | ⟨rfl,h,h2⟩
  · simp (maxSteps:=999999) only [E0,seval,-Int.reduceNatCast',hd,hf]
    exact ⟨_,rfl,by simp [hcs,hfs]⟩
  · simp (maxSteps:=999999) only [E0,seval,-Int.reduceNatCast',hd,hf,h2]
    exact ⟨_,rfl,by simp [h]⟩
theorem c_refright (D : Dis) (ws : List PV) (hw : SWS ws) (x : Rgt) (h1 : 1 ≤ D.hours) (h2 : D.hours ≤ 4096) (l1 : D.rs.length ≤ 10000) (l2 : D.fs.length ≤ 10000) :
    ap Tryz.prog pol 118 [.agg (dc D ws),rgt x] = some (.ret (.bool (decide (RGT D.hours D.fs.length D.rs.length x)))):=by
  obtain ⟨n,kd,fm,rc,a,b,c,d,e,f⟩:=x
  rw [ap_eq _ Tryz.func118 rfl Tryz.ntmps118 Tryz.results118 (by kernel_rfl) rfl (by exact Nat.le_of_ble_eq_true rfl)]
  by_cases k1 : kd = 1
  · subst k1
    simp (maxSteps:=999999) only [E0,seval,-Int.reduceNatCast',NUM,r_within,List.length_map,i64_in (x:=D.hours - 1) (by unfold I64; omega),i64_in (x:=(D.rs.length : Int) - 1) (by unfold I64; omega),i64_in (x:=(D.fs.length : Int) - 1) (by unfold I64; omega),b_and,b_nand]
    refine b_iff ?_
    unfold RGT
    simp only [Int.reduceEq,if_true]
    omega
  · by_cases k2 : kd = 2
    · subst k2
      simp (maxSteps:=999999) only [E0,seval,-Int.reduceNatCast',NUM,r_within,List.length_map,i64_in (x:=D.hours - 1) (by unfold I64; omega),i64_in (x:=(D.rs.length : Int) - 1) (by unfold I64; omega),i64_in (x:=(D.fs.length : Int) - 1) (by unfold I64; omega),b_and,b_nand,k1]
      refine b_iff ?_
      unfold RGT
      simp only [Int.reduceEq,if_true,if_false]
      omega
    · by_cases k3 : kd = 3
      · subst k3
        simp (maxSteps:=999999) only [E0,seval,-Int.reduceNatCast',NUM,r_within,List.length_map,i64_in (x:=D.hours - 1) (by unfold I64; omega),i64_in (x:=(D.rs.length : Int) - 1) (by unfold I64; omega),i64_in (x:=(D.fs.length : Int) - 1) (by unfold I64; omega),b_and,b_nand,k1,k2]
        refine b_iff ?_
        unfold RGT
        simp only [Int.reduceEq,if_true,if_false]
        omega
      · simp (maxSteps:=999999) only [E0,seval,-Int.reduceNatCast',NUM,r_within,List.length_map,i64_in (x:=D.hours - 1) (by unfold I64; omega),i64_in (x:=(D.rs.length : Int) - 1) (by unfold I64; omega),i64_in (x:=(D.fs.length : Int) - 1) (by unfold I64; omega),b_and,b_nand,k1,k2,k3]
        rw [decide_eq_false (p:=RGT ..) (by unfold RGT; simp only [k1,k2,k3,if_false,and_false]; exact id)]
        simp only [ite_self]
theorem c_refvalid (D : Dis) (ws : List PV) (hw : SWS ws) (hr : ∀ x ∈ D.rs,x.OK) (l1 : D.rs.length ≤ 10000) (l2 : D.fs.length ≤ 10000) (l3 : D.cs.length ≤ 10000) (l4 : D.gs.length ≤ 10000) (l5 : D.ds.length ≤ 10000) :
    ∃ b,ap Tryz.prog pol 98 [.agg (dc D ws)] = some (.ret (.bool b)) ∧ (b = true ↔ D.K):=by
  obtain ⟨br,er,hbr⟩:=c_refreaches D.rs none hr l1
  obtain ⟨bf,ef,hbf⟩:=c_reffarms D ws hw l1 l2 l3
  rw [ap_eq _ Tryz.func98 rfl Tryz.ntmps98 Tryz.results98 (by kernel_rfl) rfl (by exact Nat.le_of_ble_eq_true rfl)]
  by_cases a1 : 1 ≤ D.hours ∧ D.hours ≤ 4096
  rotate_left
  · simp (maxSteps:=999999) only [E0,seval,-Int.reduceNatCast',NUM,r_within,eq_false a1]
    exact ⟨_,rfl,by simp; exact fun h => a1 h.1⟩
  by_cases a2 : 0 ≤ D.start ∧ D.start ≤ D.cap
  rotate_left
  · simp (maxSteps:=999999) only [E0,seval,-Int.reduceNatCast',NUM,r_within,eq_true a1,eq_false a2]
    exact ⟨_,rfl,by simp; exact fun h => a2 (by have:=h.2.1; omega)⟩
  by_cases a3 : D.cap ≤ 1099511627776
  rotate_left
  · simp (maxSteps:=999999) only [E0,seval,-Int.reduceNatCast',NUM,r_within,eq_true a1,eq_true a2,(show 1099511627776 < D.cap by omega)]
    exact ⟨_,rfl,by simp; exact fun h => a3 (by have:=h.2.1; omega)⟩
  cases br with
  | false =>
    simp (maxSteps:=999999) only [E0,seval,-Int.reduceNatCast',NUM,SRCH,r_within,eq_true a1,eq_true a2,(show ¬ 1099511627776 < D.cap by omega),er]
    exact ⟨_,rfl,by simp; exact fun h => by have:=hbr.2 ⟨h.2.2.1,h.2.2.2.1⟩; simp at this⟩
  | true =>
  cases bf with
  | false =>
    simp (maxSteps:=999999) only [E0,seval,-Int.reduceNatCast',NUM,SRCH,SFRM,SCRP,SRGT,SDTY,hw,r_within,eq_true a1,eq_true a2,(show ¬ 1099511627776 < D.cap by omega),er,ef]
    exact ⟨_,rfl,by simp; exact fun h => by have:=hbf.2 ⟨h.2.2.2.2.1,h.2.2.2.2.2.1⟩; simp at this⟩
  | true =>
  simp (maxSteps:=999999) only [E0,seval,-Int.reduceNatCast',NUM,SRCH,SFRM,SCRP,SRGT,SDTY,hw,r_within,eq_true a1,eq_true a2,(show ¬ 1099511627776 < D.cap by omega),er,ef]
  have hbr:=hbr.1 rfl
  have hbf:=hbf.1 rfl
  have sh : ∀ g : Prop,(ALLI (fun _ x => RGT D.hours D.fs.length D.rs.length x) D.gs ∧ ALLI (fun _ x => DTYK D.hours D.fs.length D.rs.length x) D.ds ↔ g) → (g ↔ D.K):=fun g e => by
    rw [← e]
    exact ⟨fun h => ⟨a1,⟨a2.1,a2.2,a3⟩,hbr.1,hbr.2,hbf.1,hbf.2,h.1,h.2⟩,fun h => h.2.2.2.2.2.2⟩
  generalize hL : W _ (.loop _) _ = L
  obtain ⟨ex,s,rfl,hd,hf,hex⟩:=loop_at hL (α:=Nat) (fun j => D.gs.length - j)
    (fun s0 j s => j ≤ D.gs.length ∧ ALLI (fun _ x => RGT D.hours D.fs.length D.rs.length x) (D.gs.take j) ∧ s.tmps 3 = I j ∧ s.tmps 1 = .bptr 0 1 0 0 ∧ s.boxes 1 = some (0,dc D ws) ∧ s.defers = [] ∧ s.fid = 0)
    (fun s0 ex s => s.defers = [] ∧ s.fid = 0 ∧ ((ex = .exit 0 ∧ ALLI (fun _ x => RGT D.hours D.fs.length D.rs.length x) D.gs ∧ s.tmps 1 = .bptr 0 1 0 0 ∧ s.boxes 1 = some (0,dc D ws)) ∨ (ex = .ret ∧ ¬ ALLI (fun _ x => RGT D.hours D.fs.length D.rs.length x) D.gs ∧ s.tmps 2 = .bool false))) 0
    (by simp (maxSteps:=999999) only [E0,seval,-Int.reduceNatCast',List.take_zero]; exact ⟨Nat.zero_le _,fun i x h => by simp at h,by simp⟩) (by
      rintro j s r0 hW ⟨hj,ha,h3,h1,hb,hd,hf⟩
      by_cases hp : j < D.gs.length
      · have e0 : D.gs[j]? = some D.gs[j]:=List.getElem?_eq_getElem hp
        have e1:=map_get (f:=rgt) e0
        generalize D.gs[j] = x at *
        have cr:=c_refright D ws hw x a1.1 a1.2 l1 l2
        by_cases hu : RGT D.hours D.fs.length D.rs.length x
        · simp (maxSteps:=999999) only [E0,seval,-Int.reduceNatCast',NUM,SRCH,SFRM,SCRP,SRGT,SDTY,hw,h3,h1,hb,hd,hf,e1,cr,eq_true hu,List.length_map,Int.toNat_natCast,(show (j : Int) < D.gs.length by omega),(show (0 : Int) ≤ j by omega),(i64_in (x:=(j : Int) + 1) (by unfold I64; omega))] at hW
          subst hW
          refine rd_next (j + 1) ?_ (show D.gs.length - (j + 1) < D.gs.length - j by omega)
          simp (maxSteps:=999999) only [E0,seval,-Int.reduceNatCast',h1,hb]
          exact ⟨by omega,ALLI_take ha e0 hu,by simp⟩
        · simp (maxSteps:=999999) only [E0,seval,-Int.reduceNatCast',NUM,SRCH,SFRM,SCRP,SRGT,SDTY,hw,h3,h1,hb,hd,hf,e1,cr,eq_false hu,List.length_map,Int.toNat_natCast,(show (j : Int) < D.gs.length by omega),(show (0 : Int) ≤ j by omega)] at hW
          subst hW
          refine rd_ret ⟨?_,?_,.inr ⟨rfl,ALLI_not (P:=fun _ x => RGT D.hours D.fs.length D.rs.length x) e0 hu,?_⟩⟩ <;> simp (maxSteps:=999999) only [E0,seval,-Int.reduceNatCast',hd,hf]
      · simp (maxSteps:=999999) only [E0,seval,-Int.reduceNatCast',List.length_map,h3,h1,hb,hd,hf,(show ¬ (j : Int) < D.gs.length by omega)] at hW
        subst hW
        refine rd_exit ⟨rfl,rfl,.inl ⟨rfl,ALLI_full ha (by omega),?_⟩⟩
        simp (maxSteps:=999999) only [E0,seval,-Int.reduceNatCast',h1,hb])
  rcases hex with ⟨rfl,hgs,g1,gb⟩ | ⟨rfl,h,h2⟩
  rotate_left
  · simp (maxSteps:=999999) only [E0,seval,-Int.reduceNatCast',hd,hf,h2]
    exact ⟨_,rfl,sh _ (by simp [h])⟩
  simp (maxSteps:=999999) only [E0,seval,-Int.reduceNatCast',hd,hf,g1,gb]
  clear hL
  generalize hL : W _ (.loop _) _ = L
  obtain ⟨ex,s,rfl,hd,hf,hex⟩:=loop_at hL (α:=Nat) (fun j => D.ds.length - j)
    (fun s0 j s => j ≤ D.ds.length ∧ ALLI (fun _ x => DTYK D.hours D.fs.length D.rs.length x) (D.ds.take j) ∧ s.tmps 4 = I j ∧ s.tmps 1 = .bptr 0 1 0 0 ∧ s.boxes 1 = some (0,dc D ws) ∧ s.defers = [] ∧ s.fid = 0)
    (fun s0 ex s => s.defers = [] ∧ s.fid = 0 ∧ ((ex = .exit 2 ∧ ALLI (fun _ x => DTYK D.hours D.fs.length D.rs.length x) D.ds) ∨ (ex = .ret ∧ ¬ ALLI (fun _ x => DTYK D.hours D.fs.length D.rs.length x) D.ds ∧ s.tmps 2 = .bool false))) 0
    (by simp (maxSteps:=999999) only [E0,seval,-Int.reduceNatCast',List.take_zero,g1,gb]; exact ⟨Nat.zero_le _,fun i x h => by simp at h,by simp⟩) (by
      rintro j s r0 hW ⟨hj,ha,h4,h1,hb,hd,hf⟩
      by_cases hp : j < D.ds.length
      · have e0 : D.ds[j]? = some D.ds[j]:=List.getElem?_eq_getElem hp
        have e1:=map_get (f:=dty) e0
        generalize D.ds[j] = x at *
        by_cases b1 : 0 ≤ x.fm ∧ x.fm ≤ (D.fs.length : Int) - 1
        rotate_left
        · simp (maxSteps:=999999) only [E0,seval,-Int.reduceNatCast',NUM,h4,h1,hb,hd,hf,e1,r_within,List.length_map,Int.toNat_natCast,(show (j : Int) < D.ds.length by omega),(show (0 : Int) ≤ j by omega),(i64_in (x:=(j : Int) + 1) (by unfold I64; omega)),(i64_in (x:=(D.rs.length : Int) - 1) (by unfold I64; omega)),(i64_in (x:=(D.fs.length : Int) - 1) (by unfold I64; omega)),eq_false b1] at hW
          subst hW
          refine rd_ret ⟨?_,?_,.inr ⟨rfl,ALLI_not (P:=fun _ x => DTYK D.hours D.fs.length D.rs.length x) e0 (fun h => by unfold DTYK at h; omega),?_⟩⟩ <;> simp (maxSteps:=999999) only [E0,seval,-Int.reduceNatCast',hd,hf]
        by_cases b2 : 0 ≤ x.rc ∧ x.rc ≤ (D.rs.length : Int) - 1
        rotate_left
        · simp (maxSteps:=999999) only [E0,seval,-Int.reduceNatCast',NUM,h4,h1,hb,hd,hf,e1,r_within,List.length_map,Int.toNat_natCast,(show (j : Int) < D.ds.length by omega),(show (0 : Int) ≤ j by omega),(i64_in (x:=(j : Int) + 1) (by unfold I64; omega)),(i64_in (x:=(D.rs.length : Int) - 1) (by unfold I64; omega)),(i64_in (x:=(D.fs.length : Int) - 1) (by unfold I64; omega)),eq_true b1,eq_false b2] at hW
          subst hW
          refine rd_ret ⟨?_,?_,.inr ⟨rfl,ALLI_not (P:=fun _ x => DTYK D.hours D.fs.length D.rs.length x) e0 (fun h => by unfold DTYK at h; omega),?_⟩⟩ <;> simp (maxSteps:=999999) only [E0,seval,-Int.reduceNatCast',hd,hf]
        by_cases b3 : 0 ≤ x.due ∧ x.due ≤ D.hours
        · simp (maxSteps:=999999) only [E0,seval,-Int.reduceNatCast',NUM,h4,h1,hb,hd,hf,e1,r_within,List.length_map,Int.toNat_natCast,(show (j : Int) < D.ds.length by omega),(show (0 : Int) ≤ j by omega),(i64_in (x:=(j : Int) + 1) (by unfold I64; omega)),(i64_in (x:=(D.rs.length : Int) - 1) (by unfold I64; omega)),(i64_in (x:=(D.fs.length : Int) - 1) (by unfold I64; omega)),eq_true b1,eq_true b2,eq_true b3] at hW
          subst hW
          refine rd_next (j + 1) ?_ (show D.ds.length - (j + 1) < D.ds.length - j by omega)
          simp (maxSteps:=999999) only [E0,seval,-Int.reduceNatCast',h1,hb]
          exact ⟨by omega,ALLI_take ha e0 (by unfold DTYK; omega),by simp⟩
        · simp (maxSteps:=999999) only [E0,seval,-Int.reduceNatCast',NUM,h4,h1,hb,hd,hf,e1,r_within,List.length_map,Int.toNat_natCast,(show (j : Int) < D.ds.length by omega),(show (0 : Int) ≤ j by omega),(i64_in (x:=(j : Int) + 1) (by unfold I64; omega)),(i64_in (x:=(D.rs.length : Int) - 1) (by unfold I64; omega)),(i64_in (x:=(D.fs.length : Int) - 1) (by unfold I64; omega)),eq_true b1,eq_true b2,eq_false b3] at hW
          subst hW
          refine rd_ret ⟨?_,?_,.inr ⟨rfl,ALLI_not (P:=fun _ x => DTYK D.hours D.fs.length D.rs.length x) e0 (fun h => by unfold DTYK at h; omega),?_⟩⟩ <;> simp (maxSteps:=999999) only [E0,seval,-Int.reduceNatCast',hd,hf]
      · simp (maxSteps:=999999) only [E0,seval,-Int.reduceNatCast',List.length_map,h4,h1,hb,hd,hf,(show ¬ (j : Int) < D.ds.length by omega)] at hW
        subst hW
        refine rd_exit ⟨rfl,rfl,.inl ⟨rfl,ALLI_full ha (by omega)⟩⟩)
  rcases hex with ⟨rfl,hds⟩ | ⟨rfl,h,h2⟩
  · simp (maxSteps:=999999) only [E0,seval,-Int.reduceNatCast',hd,hf]
    exact ⟨_,rfl,sh _ (by simp [hgs,hds])⟩
  · simp (maxSteps:=999999) only [E0,seval,-Int.reduceNatCast',hd,hf,h2]
    exact ⟨_,rfl,sh _ (by simp [h])⟩
theorem c_ref19check (D : Dis) (ws : List PV) (hw : SWS ws) (hr : ∀ x ∈ D.rs,x.OK) :
    ∃ c,ap Tryz.prog pol 84 [.agg (dc D ws)] = some (.ret (I c)) ∧ ((¬ D.LEN ∧ c = 2) ∨ (D.LEN ∧ D.K ∧ c = 0) ∨ (D.LEN ∧ ¬ D.K ∧ c = 191)):=by
  rw [ap_eq _ Tryz.func84 rfl Tryz.ntmps84 Tryz.results84 (by kernel_rfl) rfl (by exact Nat.le_of_ble_eq_true rfl)]
  by_cases hl : D.LEN
  · obtain ⟨b1,b2,b3,b4,b5⟩:=id hl
    obtain ⟨b,eb,hb⟩:=c_refvalid D ws hw hr (by omega) (by omega) (by omega) (by omega) (by omega)
    cases b with
    | true =>
      simp (maxSteps:=999999) only [E0,seval,-Int.reduceNatCast',NUM,SRCH,SFRM,SCRP,SRGT,SDTY,hw,eb,List.length_map,(show ¬ (64 : Int) < D.rs.length by omega),(show ¬ (600 : Int) < D.fs.length by omega),(show ¬ (32 : Int) < D.cs.length by omega),(show ¬ (256 : Int) < D.gs.length by omega),(show ¬ (256 : Int) < D.ds.length by omega)]
      exact ⟨_,rfl,.inr (.inl ⟨hl,hb.1 rfl,rfl⟩)⟩
    | false =>
      simp (maxSteps:=999999) only [E0,seval,-Int.reduceNatCast',NUM,SRCH,SFRM,SCRP,SRGT,SDTY,hw,eb,List.length_map,(show ¬ (64 : Int) < D.rs.length by omega),(show ¬ (600 : Int) < D.fs.length by omega),(show ¬ (32 : Int) < D.cs.length by omega),(show ¬ (256 : Int) < D.gs.length by omega),(show ¬ (256 : Int) < D.ds.length by omega)]
      exact ⟨_,rfl,.inr (.inr ⟨hl,fun h => by have:=hb.2 h; simp at this,rfl⟩)⟩
  · refine ⟨2,?_,.inl ⟨hl,rfl⟩⟩
    by_cases b1 : (64 : Int) < D.rs.length
    · simp (maxSteps:=999999) only [E0,seval,-Int.reduceNatCast',NUM,List.length_map,b1]
    by_cases b2 : (600 : Int) < D.fs.length
    · simp (maxSteps:=999999) only [E0,seval,-Int.reduceNatCast',NUM,List.length_map,b1,b2]
    by_cases b3 : (32 : Int) < D.cs.length
    · simp (maxSteps:=999999) only [E0,seval,-Int.reduceNatCast',NUM,List.length_map,b1,b2,b3]
    by_cases b4 : (256 : Int) < D.gs.length
    · simp (maxSteps:=999999) only [E0,seval,-Int.reduceNatCast',NUM,List.length_map,b1,b2,b3,b4]
    by_cases b5 : (256 : Int) < D.ds.length
    · simp (maxSteps:=999999) only [E0,seval,-Int.reduceNatCast',NUM,List.length_map,b1,b2,b3,b4,b5]
    exact absurd ⟨by omega,by omega,by omega,by omega,by omega⟩ hl
theorem c_refup (a b : Int) (h1 : 1 ≤ b) (h0 : 0 ≤ a) (hs : a + b ≤ 9223372036854775807) : ap Tryz.prog pol 142 [I a,I b] = some (.ret (I (UPD a b))):=by
  have e:=Int.tdiv_eq_ediv_of_nonneg (a:=a + b - 1) (b:=b) (by omega)
  have q : 0 ≤ (a + b - 1) / b ∧ (a + b - 1) / b ≤ a + b - 1:=⟨Int.ediv_nonneg (by omega) (by omega),Int.ediv_le_self _ (by omega)⟩
  rw [ap_eq _ Tryz.func142 rfl Tryz.ntmps142 Tryz.results142 (by kernel_rfl) rfl (by exact Nat.le_of_ble_eq_true rfl)]
  simp (maxSteps:=999999) only [E0,seval,-Int.reduceNatCast',i64_in (x:=a + b) (by unfold I64; omega),i64_in (x:=a + b - 1) (by unfold I64; omega),(show ¬ b = 0 by omega),e,i64_in (x:=(a + b - 1) / b) (by unfold I64; omega)]
  rfl
section
variable (x : Rch) (h : RIGHT x) (v : Int) (hv : 0 ≤ v ∧ v ≤ 1073741824)
include h hv
theorem c_reflost : ap Tryz.prog pol 136 [rch x,I v] = some (.ret (.agg [I (LO (los x) v),I (HI (los x) v)])):=by
  have p1:=lo_part h.RT hv.1
  have p2:=hi_part h.RT hv.1
  have hr:=h.RT
  obtain ⟨nm,up,dl,cp,bk,si,e0,e1,s0,s1,s2,s3⟩:=x
  have he:=h.1
  simp only [los] at *
  have m1:=Int.mul_nonneg hr.na hv.1
  have m2:=Int.mul_nonneg hr.nc hv.1
  have k1:=hr.da
  have k2:=hr.db
  have k3:=hr.dc
  have k4:=hr.dd
  have k5:=hr.nb
  have k6:=hr.nd
  simp only at m1 m2 k1 k2 k3 k4 k5 k6
  have b1:=mul_bd (a:=s0) (n:=v) (M:=1073741824) (N:=1073741824) ⟨by have:=hr.na; simp only at this; omega,by omega⟩ ⟨by omega,by omega⟩
  have b2:=mul_bd (a:=s2) (n:=v) (M:=1073741824) (N:=1073741824) ⟨by have:=hr.nc; simp only at this; omega,by omega⟩ ⟨by omega,by omega⟩
  have e:=Int.tdiv_eq_ediv_of_nonneg (a:=s0 * v) (b:=s1) m1
  rw [ap_eq _ Tryz.func136 rfl Tryz.ntmps136 Tryz.results136 (by kernel_rfl) rfl (by exact Nat.le_of_ble_eq_true rfl)]
  by_cases h0 : v = 0
  · subst h0
    simp (maxSteps:=999999) only [E0,seval,-Int.reduceNatCast',NUM]
    rfl
  · simp (maxSteps:=999999) only [E0,seval,-Int.reduceNatCast',NUM,h0,Int.mul_comm v,i64_in (x:=s0 * v) (by unfold I64; omega),i64_in (x:=s2 * v) (by unfold I64; omega),e,(show ¬ s1 = 0 by omega),c_refup (s2 * v) s3 k2 m2 (by omega),i64_in (x:=s0 * v / s1) (by unfold I64; omega),i64_in (x:=e0 + s0 * v / s1) (by unfold I64; omega),i64_in (x:=e1 + UPD (s2 * v) s3) (by unfold I64; omega)]
    simp [LO,HI,h0]
end
def AB (best : Bool) (r : Los) (v : Int) : Int:=if best then BE r v else WO r v
theorem AB_mono {best : Bool} {r : Los} (h : r.RT) {a b : Int} (ha : 0 ≤ a) (hab : a ≤ b) : AB best r a ≤ AB best r b:=by
  unfold AB; split
  · exact BE_mono h ha hab
  · exact WO_mono h ha hab
theorem c_arrives (x : Rch) (h : RIGHT x) (v : Int) (hv : 0 ≤ v ∧ v ≤ 1073741824) (best : Bool) : ap Tryz.prog pol 130 [rch x,I v,.bool best] = some (.ret (I (AB best (los x) v))):=by
  have b1:=LO_bd h.RT hv.1
  have b2:=HI_bd h.RT hv.1
  rw [ap_eq _ Tryz.func130 rfl Tryz.ntmps130 Tryz.results130 (by kernel_rfl) rfl (by exact Nat.le_of_ble_eq_true rfl)]
  cases best
  · simp (maxSteps:=999999) only [E0,seval,-Int.reduceNatCast',NUM,c_reflost x h v hv,i64_in (x:=v - HI (los x) v) (by unfold I64; omega)]
    rfl
  · simp (maxSteps:=999999) only [E0,seval,-Int.reduceNatCast',NUM,c_reflost x h v hv,i64_in (x:=v - LO (los x) v) (by unfold I64; omega)]
    rfl
theorem c_refleast (x : Rch) (h : RIGHT x) (w : Int) (best : Bool) : ∃ r,IsL (fun v => w ≤ AB best (los x) v) 1073741825 r ∧ ap Tryz.prog pol 120 [rch x,I w,.bool best] = some (.ret (I (if r ≤ 1073741824 then r else -1))):=by
  have ca:=c_arrives x h 1073741824 ⟨by decide,by decide⟩ best
  by_cases h0 : AB best (los x) 1073741824 < w
  · refine ⟨1073741825,⟨by decide,by decide,fun i h1 h2 h3 => ?_,fun i h1 h2 => by omega⟩,?_⟩
    · have:=AB_mono (best:=best) h.RT h1 (show i ≤ 1073741824 by omega)
      omega
    · rw [ap_eq _ Tryz.func120 rfl Tryz.ntmps120 Tryz.results120 (by kernel_rfl) rfl (by exact Nat.le_of_ble_eq_true rfl)]
      simp (maxSteps:=999999) only [E0,seval,-Int.reduceNatCast',NUM,ca,h0]
  rw [ap_eq _ Tryz.func120 rfl Tryz.ntmps120 Tryz.results120 (by kernel_rfl) rfl (by exact Nat.le_of_ble_eq_true rfl)]
  simp (maxSteps:=999999) only [E0,seval,-Int.reduceNatCast',NUM,ca,h0]
  generalize hL : W _ (.loop _) _ = L
  obtain ⟨ex,s,rfl,rfl,r,h7,hd,hf,hr,hl⟩:=loop_at hL (α:=Int × Int) (fun p => (p.2 - p.1).toNat)
    (fun s0 p s => 0 ≤ p.1 ∧ p.1 ≤ p.2 ∧ p.2 ≤ 1073741824 ∧ s.tmps 7 = I p.1 ∧ s.tmps 8 = I p.2 ∧ s.tmps 1 = I w ∧ s.tmps 2 = .bool best ∧ s.tmps 3 = .bptr 0 3 0 0 ∧ s.boxes 3 = some (0,[.str x.nm,I x.up,I x.dl,I x.cp,I x.bk,I x.si,I x.e0,I x.e1,I x.s0,I x.s1,I x.s2,I x.s3]) ∧ s.defers = [] ∧ s.fid = 0 ∧ (∀ i,0 ≤ i → i < p.1 → ¬ w ≤ AB best (los x) i) ∧ (w ≤ AB best (los x) p.2))
    (fun s0 ex s => ex = .exit 0 ∧ ∃ r,s.tmps 7 = I r ∧ s.defers = [] ∧ s.fid = 0 ∧ r ≤ 1073741824 ∧ IsL (fun v => w ≤ AB best (los x) v) 1073741825 r) (0,1073741824)
    (by simp (maxSteps:=999999) only [E0,seval,-Int.reduceNatCast']; exact ⟨fun i h1 h2 => by omega,by omega⟩) (by
      rintro ⟨a,b⟩ s r0 hW ⟨h0a,hab,hb,q7,q8,q1,q2,q3,qb,hd,hfi,no,yes⟩
      simp only at *
      by_cases hp : a < b
      · obtain ⟨m,em,hm⟩ : ∃ m,(a + b).tdiv 2 = m ∧ (a ≤ m ∧ m < b):=⟨_,rfl,by rw [Int.tdiv_eq_ediv_of_nonneg (by omega)]; omega⟩
        have cm:=c_arrives x h m (by omega) best
        by_cases hm' : w ≤ AB best (los x) m
        · simp (maxSteps:=999999) only [E0,seval,-Int.reduceNatCast',NUM,q7,q8,q1,q2,q3,qb,hd,hfi,hp,i64_in (x:=a + b) (by unfold I64; omega),em,i64_in (x:=m) (by unfold I64; omega),cm,hm'] at hW
          subst hW
          refine rd_next (a,m) ?_ (show (m - a).toNat < (b - a).toNat by omega)
          simp (maxSteps:=999999) only [E0,seval,-Int.reduceNatCast',q7,q1,q2,q3,qb]
          exact ⟨h0a,hm.1,by omega,no,hm'⟩
        · simp (maxSteps:=999999) only [E0,seval,-Int.reduceNatCast',NUM,q7,q8,q1,q2,q3,qb,hd,hfi,hp,i64_in (x:=a + b) (by unfold I64; omega),em,i64_in (x:=m) (by unfold I64; omega),i64_in (x:=m + 1) (by unfold I64; omega),cm,hm'] at hW
          subst hW
          refine rd_next (m + 1,b) ?_ (show (b - (m + 1)).toNat < (b - a).toNat by omega)
          simp (maxSteps:=999999) only [E0,seval,-Int.reduceNatCast',q8,q1,q2,q3,qb]
          refine ⟨by omega,by omega,hb,fun i h1 h2 => ?_,yes⟩
          have:=AB_mono (best:=best) h.RT h1 (show i ≤ m by omega)
          omega
      · simp (maxSteps:=999999) only [E0,seval,-Int.reduceNatCast',NUM,q7,q8,q1,q2,q3,qb,hd,hfi,hp] at hW
        subst hW
        have : a = b:=by omega
        subst this
        refine rd_exit ⟨rfl,a,?_⟩
        simp (maxSteps:=999999) only [E0,seval,-Int.reduceNatCast',q7]
        refine ⟨hb,h0a,by omega,no,fun i h1 h2 => ?_⟩
        have:=AB_mono (best:=best) h.RT h0a h1
        omega)
  simp (maxSteps:=999999) only [E0,seval,-Int.reduceNatCast',h7,hd,hf]
  exact ⟨r,hl,by rw [if_pos hr]⟩
end Go.Proofs.YtbmmbefgmhhciaaGreat
