/- For every input the law FnExactCommonPrefix holds of the functions that the program's text computes, over numbers and lists alone. -/
import Derived.Test.YtinmdckpljnpcaaQFnExactCommonPrefixx2
namespace Go.Proofs.Ytinmdckpljnpcaa.Pure
open Go.RowKit Go.Proofs.Ytinmdckpljnpcaa.QFnExactCommonPrefix Go.Proofs.YtinmdckpljnpcaaW.PrintWords Go.Proofs.YtinmdckpljnpcaaW.PrintLast Go.Proofs.YtinmdckpljnpcaaW.PrintMore
set_option linter.unusedVariables false
set_option linter.unusedSimpArgs false

theorem len17 {l : Int} (h0 : 0 ≤ l) (h1 : l ≤ 16) : l = 0 ∨ l = 1 ∨ l = 2 ∨ l = 3 ∨ l = 4 ∨ l = 5 ∨ l = 6 ∨ l = 7 ∨ l = 8 ∨ l = 9 ∨ l = 10 ∨ l = 11 ∨ l = 12 ∨ l = 13 ∨ l = 14 ∨ l = 15 ∨ l = 16 := by omega
/-- How many addresses a prefix of length l has. -/
def psz (l : Int) : Int := 2 ^ (16 - l).toNat
theorem psz_pos (l : Int) : 0 < psz l := Int.pow_pos (by decide)
theorem psz_le {l : Int} (h0 : 0 ≤ l) (h1 : l ≤ 16) : psz l ≤ 65536 := by
  rcases len17 h0 h1 with rfl | rfl | rfl | rfl | rfl | rfl | rfl | rfl | rfl | rfl | rfl | rfl | rfl | rfl | rfl | rfl | rfl <;> decide
theorem psz_half {l : Int} (h0 : 0 ≤ l) (h1 : l ≤ 15) : psz l = 2 * psz (l + 1) := by
  rcases len17 h0 (by omega) with rfl | rfl | rfl | rfl | rfl | rfl | rfl | rfl | rfl | rfl | rfl | rfl | rfl | rfl | rfl | rfl | rfl <;> first | decide | omega
theorem psz_top {l : Int} (h0 : 0 ≤ l) (h1 : l ≤ 16) : 65536 = psz l * 2 ^ l.toNat := by
  rcases len17 h0 h1 with rfl | rfl | rfl | rfl | rfl | rfl | rfl | rfl | rfl | rfl | rfl | rfl | rfl | rfl | rfl | rfl | rfl <;> decide
theorem w64 {n : Int} (h0 : -9223372036854775808 ≤ n) (h1 : n ≤ 9223372036854775807) : wrap64 n = n := by unfold wrap64; omega
theorem shl_psz {l : Int} (h0 : 0 ≤ l) (h1 : l ≤ 16) : shl .i64 1 (16 - l) = psz l := by
  rcases len17 h0 h1 with rfl | rfl | rfl | rfl | rfl | rfl | rfl | rfl | rfl | rfl | rfl | rfl | rfl | rfl | rfl | rfl | rfl <;> decide
theorem u64w {n : Int} (h0 : 0 ≤ n) (h1 : n ≤ 16) : IntKind.u64.wrap n = n := by
  rcases len17 h0 h1 with rfl | rfl | rfl | rfl | rfl | rfl | rfl | rfl | rfl | rfl | rfl | rfl | rfl | rfl | rfl | rfl | rfl <;> decide
/-- A valid prefix. -/
def Pok (n l : Int) : Prop := 0 ≤ l ∧ l ≤ 16 ∧ 0 ≤ n ∧ n ≤ 65535 ∧ n % psz l = 0
instance (n l : Int) : Decidable (Pok n l) := by unfold Pok; infer_instance
theorem Pok.top {n l : Int} (h : Pok n l) : n + psz l ≤ 65536 := by
  obtain ⟨h0, h1, h2, h3, h4⟩ := h
  have e := psz_top h0 h1
  have p := psz_pos l
  have d := Int.emod_add_mul_ediv n (psz l)
  rw [h4, Int.zero_add] at d
  have q : n / psz l < 2 ^ l.toNat := by
    apply Int.ediv_lt_of_lt_mul p
    rw [Int.mul_comm]; omega
  have m : psz l * (n / psz l + 1) ≤ psz l * 2 ^ l.toNat := Int.mul_le_mul_of_nonneg_left (by omega) (by omega)
  rw [Int.mul_add] at m
  omega
theorem spec_In (a b c : Int) : spec_l01In.f a b c = some (decide (b ≤ a ∧ a ≤ c)) := by
  unfold spec_l01In.f
  by_cases h : b ≤ a <;> simp [h]
theorem spec_Addr (a : Int) : spec_l01Addr.f a = some (decide (0 ≤ a ∧ a ≤ 65535)) := by
  unfold spec_l01Addr.f; rw [spec_In]; rfl
theorem spec_Size {l : Int} (h0 : 0 ≤ l) (h1 : l ≤ 16) : spec_l01Size2.f l = some (psz l) := by
  unfold spec_l01Size2.f
  rw [w64 (by omega) (by omega), u64w (by omega) (by omega), if_pos (by omega), shl_psz h0 h1]
theorem impl_In (a b c : Int) : impl_within.f a b c = some (decide (b ≤ a ∧ a ≤ c)) := by
  unfold impl_within.f
  by_cases h : b ≤ a <;> simp [h]
theorem impl_Addr (a : Int) : impl_isAddr.f a = some (decide (0 ≤ a ∧ a ≤ 65535)) := by
  unfold impl_isAddr.f; rw [impl_In]; rfl
theorem impl_Size (n : Int) {l : Int} (h0 : 0 ≤ l) (h1 : l ≤ 16) : impl_Prefix_size.f n l = some (psz l) := by
  unfold impl_Prefix_size.f
  rw [w64 (by omega) (by omega), if_pos (by omega), shl_psz h0 h1]
/-- A prefix holds an address. -/
def Phas (n l a : Int) : Prop := n ≤ a ∧ a ≤ n + psz l - 1
instance (n l a : Int) : Decidable (Phas n l a) := by unfold Phas; infer_instance
theorem impl_has {n l : Int} (h : Pok n l) (a : Int) : impl_Prefix_has.f n l a = some (decide (Phas n l a)) := by
  have p := psz_pos l
  have p2 := psz_le h.1 h.2.1
  have h3 := h
  unfold Pok at h3
  unfold impl_Prefix_has.f
  rw [impl_Size n h.1 h.2.1]
  simp only [Option.bind_some]
  rw [w64 (n := n + psz l) (by omega) (by omega), w64 (by omega) (by omega), impl_In]
  rfl
theorem nat_andNot (a i : Nat) (ha : a < 2 ^ 64) (hi : i ≤ 64) : a &&& (2 ^ 64 - 1 - (2 ^ i - 1)) = 2 ^ i * (a / 2 ^ i) := by
  have hp : 0 < 2 ^ i := Nat.two_pow_pos i
  have hle : 2 ^ i ≤ 2 ^ 64 := Nat.pow_le_pow_right (by decide) hi
  have e : 2 ^ 64 - 1 - (2 ^ i - 1) = 2 ^ 64 - ((2 ^ i - 1) + 1) := by omega
  rw [e]
  apply Nat.eq_of_testBit_eq
  intro j
  rw [Nat.testBit_and, Nat.testBit_two_pow_sub_succ (by omega), Nat.testBit_two_pow_sub_one, Nat.testBit_two_pow_mul, Nat.testBit_div_two_pow]
  by_cases h : j < i
  · have h2 : ¬ j ≥ i := by omega
    simp [h, h2]
  · have h2 : j ≥ i := by omega
    have e2 : i + (j - i) = j := by omega
    rw [Nat.sub_add_cancel h2]
    simp [h, h2]
    intro hb
    apply Nat.lt_of_not_le
    intro h64
    have := Nat.testBit_lt_two_pow (Nat.lt_of_lt_of_le ha (Nat.pow_le_pow_right (by decide) h64))
    rw [this] at hb
    cases hb
theorem andNot_i64 (x : Int) (i : Nat) (h0 : 0 ≤ x) (h1 : x ≤ 65535) (hi : i ≤ 16) : Go.bits .andNot .i64 x (2 ^ i - 1) = x - x % 2 ^ i := by
  obtain ⟨a, rfl⟩ := Int.eq_ofNat_of_zero_le h0
  have hp : 0 < 2 ^ i := Nat.two_pow_pos i
  have hle : 2 ^ i ≤ 2 ^ 16 := Nat.pow_le_pow_right (by decide) hi
  have hc : ((2 : Int) ^ i - 1) = ((2 ^ i - 1 : Nat) : Int) := by
    rw [Int.natCast_sub hp]; simp
  rw [hc]
  show IntKind.i64.wrap ((BitVec.ofInt 64 (a : Int) &&& ~~~BitVec.ofInt 64 ((2 ^ i - 1 : Nat) : Int)).toNat : Int) = _
  rw [BitVec.toNat_and, BitVec.toNat_not, BitVec.ofInt_natCast, BitVec.ofInt_natCast, BitVec.toNat_ofNat, BitVec.toNat_ofNat, Nat.mod_eq_of_lt (by omega), Nat.mod_eq_of_lt (by omega)]
  rw [nat_andNot a i (by omega) (by omega)]
  have d := Nat.div_add_mod a (2 ^ i)
  have m : ((a : Int) % 2 ^ i) = ((a % 2 ^ i : Nat) : Int) := by simp
  rw [m]
  have e : 2 ^ i * (a / 2 ^ i) = a - a % 2 ^ i := by omega
  rw [e]
  have hm : a % 2 ^ i ≤ a := Nat.mod_le _ _
  rw [IntKind.wrap_i64]
  omega
/-- The greatest length, from d down, at which both addresses lie in one prefix. -/
def cpl (a b : Int) : Nat → Int
  | 0 => 0
  | d + 1 => if a / psz ((d : Int) + 1) = b / psz ((d : Int) + 1) then (d : Int) + 1 else cpl a b d
theorem psz_div {a l : Int} (h0 : 0 ≤ a) (h1 : a ≤ 65535) : 0 ≤ a / psz l ∧ a / psz l ≤ 65535 := by
  have p := psz_pos l
  refine ⟨Int.ediv_nonneg h0 (by omega), Int.le_trans (Int.ediv_le_self _ h0) h1⟩
theorem psz_mod {a l : Int} (h0 : 0 ≤ a) (h1 : a ≤ 65535) : 0 ≤ a - a % psz l ∧ a - a % psz l ≤ 65535 ∧ (a - a % psz l) % psz l = 0 := by
  have p := psz_pos l
  have m1 := Int.emod_nonneg a (by omega : psz l ≠ 0)
  have m2 := Int.emod_add_mul_ediv a (psz l)
  have q := (psz_div (l := l) h0 h1).1
  have q2 : 0 ≤ psz l * (a / psz l) := Int.mul_nonneg (by omega) q
  refine ⟨by omega, by omega, ?_⟩
  have e : a - a % psz l = psz l * (a / psz l) := by omega
  rw [e, Int.mul_emod_right]
theorem psz_zero : psz 0 = 65536 := by decide
theorem spec_loop (a b : Int) (ha : 0 ≤ a ∧ a ≤ 65535) (hb : 0 ≤ b ∧ b ≤ 65535) : ∀ (d k : Nat), d ≤ 16 → d < k →
    spec_CommonPrefix.l0 k a b d = some (a - a % psz (cpl a b d), cpl a b d, true) := by
  intro d
  induction d with
  | zero =>
    intro k _ hk
    obtain ⟨k, rfl⟩ : ∃ m, k = m + 1 := ⟨k - 1, by omega⟩
    have e0 : ((0 : Nat) : Int) = 0 := rfl
    have hz := spec_Size (l := 0) (by omega) (by omega)
    simp only [spec_CommonPrefix.l0]
    rw [e0, hz, psz_zero]
    simp only [Option.bind_some]
    have t1 : Int.tdiv a 65536 = 0 := by rw [Int.tdiv_eq_ediv_of_nonneg ha.1]; omega
    have t2 : Int.tdiv b 65536 = 0 := by rw [Int.tdiv_eq_ediv_of_nonneg hb.1]; omega
    rw [if_neg (by omega), t1, t2, if_pos rfl, Int.tmod_eq_emod_of_nonneg ha.1, w64 (n := a - a % 65536) (by omega) (by omega)]
    simp only [cpl, psz_zero]
  | succ d ih =>
    intro k hd hk
    obtain ⟨k, rfl⟩ : ∃ m, k = m + 1 := ⟨k - 1, by omega⟩
    have hs := spec_Size (l := ((d + 1 : Nat) : Int)) (by omega) (by omega)
    have p := psz_pos ((d + 1 : Nat) : Int)
    have q1 := psz_div (l := ((d + 1 : Nat) : Int)) ha.1 ha.2
    have q2 := psz_div (l := ((d + 1 : Nat) : Int)) hb.1 hb.2
    have m1 := psz_mod (l := ((d + 1 : Nat) : Int)) ha.1 ha.2
    simp only [spec_CommonPrefix.l0]
    rw [hs]
    simp only [Option.bind_some]
    rw [if_neg (by omega), Int.tdiv_eq_ediv_of_nonneg ha.1, Int.tdiv_eq_ediv_of_nonneg hb.1, w64 (by omega) (by omega), w64 (by omega) (by omega)]
    have ec : ((d + 1 : Nat) : Int) = (d : Int) + 1 := by omega
    by_cases h : a / psz ((d + 1 : Nat) : Int) = b / psz ((d + 1 : Nat) : Int)
    · rw [if_pos h, Int.tmod_eq_emod_of_nonneg ha.1, w64 (by omega) (by omega)]
      rw [ec] at h ⊢
      simp only [cpl, if_pos h]
    · rw [if_neg h, w64 (by omega) (by omega)]
      have es : ((d + 1 : Nat) : Int) - 1 = (d : Int) := by omega
      rw [es, ih k (by omega) (by omega)]
      rw [ec] at h
      simp only [cpl, if_neg h]
theorem has_same {a b l : Int} (ha : 0 ≤ a) (hb : 0 ≤ b) : Phas (a - a % psz l) l b ↔ a / psz l = b / psz l := by
  have p := psz_pos l
  have d1 := Int.emod_add_mul_ediv a (psz l)
  have d2 := Int.emod_add_mul_ediv b (psz l)
  have m1 := Int.emod_nonneg b (by omega : psz l ≠ 0)
  have m2 := Int.emod_lt_of_pos b p
  have e : a - a % psz l = psz l * (a / psz l) := by omega
  unfold Phas
  rw [e]
  constructor
  · rintro ⟨h1, h2⟩
    have x1 : a / psz l ≤ b / psz l := by
      rw [Int.le_ediv_iff_mul_le p, Int.mul_comm]; exact h1
    have x2 : b / psz l < a / psz l + 1 := by
      rw [Int.ediv_lt_iff_lt_mul p, Int.add_mul, Int.mul_comm]; omega
    omega
  · intro h
    rw [h]
    omega
theorem psz_down {a l : Int} (h0 : 0 ≤ l) (h1 : l ≤ 15) : (a - a % psz (l + 1)) - (a - a % psz (l + 1)) % psz l = a - a % psz l := by
  have e := psz_half h0 h1
  have p := psz_pos (l + 1)
  rw [e]
  generalize psz (l + 1) = s at *
  have d1 := Int.emod_add_mul_ediv a s
  have d2 := Int.emod_add_mul_ediv a (2 * s)
  have ea : a - a % s = s * (a / s) := by omega
  have n1 := Int.emod_nonneg a (by omega : s ≠ 0)
  have n2 := Int.emod_lt_of_pos a p
  have n3 := Int.emod_nonneg a (by omega : 2 * s ≠ 0)
  have n4 := Int.emod_lt_of_pos a (by omega : 0 < 2 * s)
  have key : a / (2 * s) = (a - a % s) / (2 * s) := by
    have h2 : a / s / 2 = a / (2 * s) := by rw [Int.ediv_ediv_of_nonneg (by omega : 0 ≤ s), Int.mul_comm]
    rw [← h2, ea, Int.mul_comm 2 s, Int.mul_ediv_mul_of_pos _ _ p]
  have d3 := Int.emod_add_mul_ediv (a - a % s) (2 * s)
  rw [← key] at d3
  omega
theorem psz_nat {l : Int} : psz l = 2 ^ (16 - l).toNat := rfl
theorem impl_loop (a b : Int) (ha : 0 ≤ a ∧ a ≤ 65535) (hb : 0 ≤ b ∧ b ≤ 65535) : ∀ (d k : Nat), d ≤ 16 → d < k →
    impl_CommonPrefix.l0 k b (a - a % psz d) d = some (a - a % psz (cpl a b d), cpl a b d, true) := by
  intro d
  induction d with
  | zero =>
    intro k _ hk
    obtain ⟨k, rfl⟩ : ∃ m, k = m + 1 := ⟨k - 1, by omega⟩
    have e0 : ((0 : Nat) : Int) = 0 := rfl
    have m := psz_mod (l := 0) ha.1 ha.2
    simp only [impl_CommonPrefix.l0]
    rw [e0, impl_has ⟨by omega, by omega, m.1, m.2.1, m.2.2⟩]
    have h : Phas (a - a % psz 0) 0 b := by
      rw [has_same ha.1 hb.1, psz_zero]; omega
    simp [h, cpl]
  | succ d ih =>
    intro k hd hk
    obtain ⟨k, rfl⟩ : ∃ m, k = m + 1 := ⟨k - 1, by omega⟩
    have m := psz_mod (l := ((d + 1 : Nat) : Int)) ha.1 ha.2
    have m2 := psz_mod (l := (d : Int)) ha.1 ha.2
    have ec : ((d + 1 : Nat) : Int) = (d : Int) + 1 := by omega
    have p := psz_pos (d : Int)
    have p2 := psz_le (l := (d : Int)) (by omega) (by omega)
    simp only [impl_CommonPrefix.l0]
    rw [impl_has ⟨by omega, by omega, m.1, m.2.1, m.2.2⟩]
    simp only [Option.bind_some, decide_eq_true_eq]
    have hs := has_same (l := ((d + 1 : Nat) : Int)) ha.1 hb.1
    by_cases h : a / psz ((d + 1 : Nat) : Int) = b / psz ((d + 1 : Nat) : Int)
    · rw [if_pos (hs.2 h)]
      rw [ec] at h ⊢
      simp only [cpl, if_pos h]
    · have es : ((d + 1 : Nat) : Int) - 1 = (d : Int) := by omega
      rw [if_neg (fun x => h (hs.1 x)), w64 (n := ((d + 1 : Nat) : Int) - 1) (by omega) (by omega), es, impl_Size _ (by omega) (by omega)]
      simp only [Option.bind_some]
      have e16 : (16 - (d : Int)).toNat ≤ 16 := by omega
      have x := andNot_i64 (a - a % psz ((d + 1 : Nat) : Int)) (16 - (d : Int)).toNat m.1 m.2.1 e16
      rw [← psz_nat] at x
      rw [w64 (n := psz (d : Int) - 1) (by omega) (by omega), x, ec, psz_down (by omega) (by omega), ih k (by omega) (by omega)]
      rw [ec] at h
      simp only [cpl, if_neg h]
theorem FnExactCommonPrefix : laws_FnExactCommonPrefix.Pure := by
  intro a b _ _
  obtain ⟨n, hn⟩ : ∃ n : Nat, 17 < n := ⟨18, by omega⟩
  refine ⟨n + 1, ?_⟩
  unfold laws_FnExactCommonPrefix.f spec_CommonPrefix.f impl_CommonPrefix.f
  rw [spec_Addr, spec_Addr, impl_Addr, impl_Addr]
  by_cases ha : 0 ≤ a ∧ a ≤ 65535
  · by_cases hb : 0 ≤ b ∧ b ≤ 65535
    · have s := spec_loop a b ha hb 16 n (by omega) (by omega)
      have i := impl_loop a b ha hb 16 n (by omega) (by omega)
      have e1 : psz ((16 : Nat) : Int) = 1 := by decide
      rw [e1, Int.emod_one, Int.sub_zero] at i
      have e16 : ((16 : Nat) : Int) = 16 := rfl
      rw [e16] at s i
      simp only [Option.bind_some, ha, hb, and_self, decide_true, if_true, Bool.not_true]
      simp only [spec_CommonPrefix.j0, impl_CommonPrefix.j0]
      rw [if_neg (by decide), if_neg (by decide), s, i]
      simp [laws_eqPrefix.f]
    · simp only [Option.bind_some, ha, hb, and_self, decide_true, decide_false, if_true, Bool.not_false]
      simp [spec_CommonPrefix.j0, impl_CommonPrefix.j0, laws_eqPrefix.f]
  · simp only [Option.bind_some, ha, decide_false]
    simp [spec_CommonPrefix.j0, impl_CommonPrefix.j0, laws_eqPrefix.f]

end Go.Proofs.Ytinmdckpljnpcaa.Pure
