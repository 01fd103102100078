/- Contracts of functions that the law reaches: what each call returns and what it leaves in memory. Made by this session over the print of the kit. -/
import Derived.Test.YtjepmdngbafonaaQFnSqueezedx0
namespace Go.Proofs.Ytjepmdngbafonaa.QFnSqueezed
open Go.RowKit Go.Proofs.YtjepmdngbafonaaZ.PrintWords Go.Proofs.YtjepmdngbafonaaZ.PrintLast Go.Proofs.YtjepmdngbafonaaZ.PrintMore
attribute [local go_sem] max2_int min2_int max_two min_two max_three min_three max_four min_four   -- for this text's walks alone
set_option linter.unusedVariables false
set_option linter.unusedSimpArgs false
def ba3_0 := bs_ 17 0
def ba3_1 := bs_ 17 1
def ba3_2 := bs_ 17 3
def ba3_3 := bs_ 17 7
def ba3_4 := bs_ 17 15
def ba3_5 := bs_ 17 31
def ba3_6 := bs_ 17 63
def ba3_7 := bs_ 17 127
def ba3_8 := bs_ 17 255
def ba3_9 := bs_ 17 511
def ba3_10 := bs_ 17 1023
def ba3_11 := bs_ 17 2047
def ba3_12 := bs_ 17 4095
def ba3_13 := bs_ 17 8191
def ba3_14 := bs_ 17 16383
def ba3_15 := bs_ 17 32767
def ba3_16 := bs_ 17 65535
def ba3_17 := bs_ 17 131071

/-! ### laws_big: function 8 -/
def laws_big.f (l0 : List Int) : Option (Bool) := some (decide ((l0.length : Int) > 1048576))
set_option maxHeartbeats 8000000 in
set_option maxRecDepth 100000 in
theorem laws_big.calls (A0 : Option Addr) (c0 : Nat) (l0 : List Int) (r : Bool) (w : World) (hr0 : Kd.C (Kd.int .u8) w A0 l0.length l0) (hc0 : l0.length ≤ c0) (h : laws_big.f l0 = some r) :
  Calls Try.prog 8 #[.slice A0 l0.length c0] w fun e w' => e = .returned (.bool r) ∧ Drawn0 w w' := by
 have HR0 := Aside0.mk hr0
 have HC0 := Aside0.mk hc0
 clear hr0 hc0
 have H : (some (decide ((l0.length : Int) > 1048576))) = some r := h
 clear h
 obtain rfl := Option.some.inj H
 go_enter Try.func8, Try.ntmps8
 go_wp2
 go_ret
 exact ⟨by first | rfl | (simp; done) | (simp [*]; done), by repeat (first | exact Drawn0.refl _ | apply Drawn0.step)⟩

/-! ### impl_Prefix_size: function 69 -/
def impl_Prefix_size.f (a0_0 : Int) (a0_1 : Int) : Option (Int) := if 0 ≤ (wrap64 (16 - a0_1)) then (some (shl .i64 1 (wrap64 (16 - a0_1)))) else (none)
set_option maxHeartbeats 8000000 in
set_option maxRecDepth 100000 in
theorem impl_Prefix_size.calls (a0_0 : Int) (a0_1 : Int) (r : Int) (w : World) (h : impl_Prefix_size.f a0_0 a0_1 = some r) :
  Calls Try.prog 69 #[.agg #[.int .i64 a0_0, .int .i64 a0_1]] w fun e w' => e = .returned (.int .i64 r) ∧ Below w.heap.size w w' := by
 have hu28 := Try.underlying28
 have HB := Aside0.mk (Below.refl w.heap.size w)
 have H : (if 0 ≤ (wrap64 (16 - a0_1)) then (some (shl .i64 1 (wrap64 (16 - a0_1)))) else (none)) = some r := h
 clear h
 obtain ⟨ji2, hji2⟩ : ∃ j_ : Int, (wrap64 (16 - a0_1)) = j_ := ⟨_, rfl⟩
 first | rw [hji2] at H | simp only [hji2] at H
 have hji2w : (IntKind.i64.wrap (16 - a0_1)) = ji2 := (i64_w _).trans hji2
 by_cases c3 : 0 ≤ (ji2)
 rotate_left
 ·rw [if_neg c3] at H
  exact absurd H (by simp)
 rw [if_pos c3] at H
 have c3b0 := eq_true c3
 have c3b1 : decide (0 ≤ (ji2)) = true := decide_eq_true c3
 clear c3
 obtain ⟨ji4, hji4⟩ : ∃ j_ : Int, (shl .i64 1 (ji2)) = j_ := ⟨_, rfl⟩
 first | rw [hji4] at H | simp only [hji4] at H
 have hji4_ : (IntKind.i64.wrap (1 * 2 ^ min (ji2).toNat 64)) = ji4 := hji4
 have hji4z : (ji2) ≤ 64 → (IntKind.i64.wrap (1 * 2 ^ (ji2).toNat)) = ji4 := shl_small hji4
 have hji4u : (IntKind.i64.wrap (2 ^ min (ji2).toNat 64)) = ji4 := by have h_ := hji4_; rw [Int.one_mul] at h_; exact h_
 have hji4v : (ji2) ≤ 64 → (IntKind.i64.wrap (2 ^ (ji2).toNat)) = ji4 := fun hle_ => by have h_ := hji4z hle_; rw [Int.one_mul] at h_; exact h_
 have hji4y : (wrap64 (1 * 2 ^ min (ji2).toNat 64)) = ji4 := (i64_w _).symm.trans hji4_
 have hji4x : (ji2) ≤ 64 → (wrap64 (1 * 2 ^ (ji2).toNat)) = ji4 := fun h_ => (i64_w _).symm.trans (hji4z h_)
 obtain rfl := Option.some.inj H
 go_enter Try.func69, Try.ntmps69
 go_wp2_with ((with_reducible refine gate_dst (N := 1) rfl ?_); refine be_ 1 #[.int .i64 a0_0, .int .i64 a0_1] 28 ?_; intro gb101 hg w5 BK101 hb; have GW101 := ge_ HB hg; have GE101 := ge_ HB hg; replace HB := at_ HB hb; clear hb hg; have hcz6_0 := cz_ BK101 0 (.int .i64 a0_0); have hcz6_1 := cz_ BK101 1 (.int .i64 a0_1); have hfz6_0 := fz_ BK101 0; have hfz6_1 := fz_ BK101 1)
 go_ret
 exact ⟨by first | rfl | (simp [errW_none, errW_some] <;> rfl) | (simp only [← hji2, ← hji4]; first | rfl | (simp [errW_none, errW_some] <;> rfl)) | (simp [*, errW_none, errW_some] <;> rfl), bw_⟩

/-! ### impl_within: function 88 -/
def impl_within.f (a0 : Int) (a1 : Int) (a2 : Int) : Option (Bool) := if a0 ≥ a1 then (some (decide (a0 ≤ a2))) else (some false)
set_option maxHeartbeats 8000000 in
set_option maxRecDepth 100000 in
theorem impl_within.calls (a0 : Int) (a1 : Int) (a2 : Int) (r : Bool) (w : World) (h : impl_within.f a0 a1 a2 = some r) :
  Calls Try.prog 88 #[.int .i64 a0, .int .i64 a1, .int .i64 a2] w fun e w' => e = .returned (.bool r) ∧ Drawn0 w w' := by
 have H : (if a0 ≥ a1 then (some (decide (a0 ≤ a2))) else (some false)) = some r := h
 clear h
 by_cases c4 : a0 ≥ a1
 ·rw [if_pos c4] at H
  have c4b0 : decide (a1 ≤ a0) = true := decide_eq_true c4
  clear c4
  obtain rfl := Option.some.inj H
  go_enter Try.func88, Try.ntmps88
  go_wp2
  go_ret
  exact ⟨by first | rfl | (simp; done) | (simp [*]; done), by repeat (first | exact Drawn0.refl _ | apply Drawn0.step)⟩
 rw [if_neg c4] at H
 have c4b0 : decide (a1 ≤ a0) = false := decide_eq_false c4
 clear c4
 obtain rfl := Option.some.inj H
 go_enter Try.func88, Try.ntmps88
 go_wp2
 go_ret
 exact ⟨by first | rfl | (simp; done) | (simp [*]; done), by repeat (first | exact Drawn0.refl _ | apply Drawn0.step)⟩

/-! ### impl_isAddr: function 84 -/
def impl_isAddr.f (a0 : Int) : Option (Bool) := (impl_within.f a0 0 65535).bind fun t102 => (some t102)
set_option maxHeartbeats 8000000 in
set_option maxRecDepth 100000 in
theorem impl_isAddr.calls (a0 : Int) (r : Bool) (w : World) (h : impl_isAddr.f a0 = some r) :
  Calls Try.prog 84 #[.int .i64 a0] w fun e w' => e = .returned (.bool r) ∧ Drawn0 w w' := by
 have H : ((impl_within.f a0 0 65535).bind fun t102 => (some t102)) = some r := h
 clear h
 obtain ⟨t102, A2, H⟩ := ob_ H
 obtain rfl := Option.some.inj H
 go_enter Try.func84, Try.ntmps84
 go_wp2_with ((with_reducible refine gate_callee (f := 88) rfl ?_); refine gl_ (some 4) Try.func88 #[.int .i64 a0, .int .i64 0, .int .i64 65535] ?_; (with_reducible refine (impl_within.calls a0 0 65535 t102 _ A2.out).mono ?_); rintro e w' ⟨rfl, ⟨nd, rfl⟩⟩; refine ⟨_, rfl, ?_⟩)
 go_ret
 exact ⟨by first | rfl | (simp; done) | (simp [*]; done), by repeat (first | exact Drawn0.refl _ | apply Drawn0.step)⟩

/-! ### impl_PrefixOk: function 74 -/
def impl_PrefixOk.f (a0_0 : Int) (a0_1 : Int) : Option (Bool) := (impl_within.f a0_1 0 16).bind fun t104 => (if t104 = true then ((impl_isAddr.f a0_0).bind fun t105 => (if t105 = true then ((impl_Prefix_size.f a0_0 a0_1).bind fun t106 => (if t106 = 0 then (none) else (some ((Int.tmod a0_0 t106) == 0)))) else (some false))) else (some false))
def impl_PrefixOk.T1 : Bool × List (List Nat × List Nat) := (true, [([], []), ([0], [0]), ([1], [1]), ([2, 2], [2]), ([3], [3]), ([4, 3], [3, 4]), ([5, 3, 3], [3, 5]), ([3, 6], [3, 6]), ([7, 6], [7]), ([8], [8]), ([9, 8], [8, 9]), ([8], [8]), ([11, 8, 8], [8, 11]), ([10, 12, 8], [8, 10, 12]), ([13, 8], [8, 13]), ([8, 14], [8, 14]), ([15, 12, 0, 1, 2, 3, 4, 5, 6, 7, 8, 9, 10, 11, 12, 13, 14, 15], [15])])
def impl_PrefixOk.B1 : List Nat := [0, 1, 3, 7, 15, 31, 63, 127, 255, 511, 1023, 511, 2559, 8191, 16383, 32767, 65535]
theorem impl_PrefixOk.tab1 : rtab .any (opsOf Try.f74 1) = impl_PrefixOk.T1 := by kernel_rfl
theorem impl_PrefixOk.bits1 : waitsOk impl_PrefixOk.T1.2 impl_PrefixOk.B1 = true := by kernel_rfl
set_option maxHeartbeats 8000000 in
set_option maxRecDepth 100000 in
theorem impl_PrefixOk.calls (a0_0 : Int) (a0_1 : Int) (r : Bool) (w : World) (h : impl_PrefixOk.f a0_0 a0_1 = some r) :
  Calls Try.prog 74 #[.agg #[.int .i64 a0_0, .int .i64 a0_1]] w fun e w' => e = .returned (.bool r) ∧ Below w.heap.size w w' := by
 have hu28 := Try.underlying28
 have HB := Aside0.mk (Below.refl w.heap.size w)
 have H : ((impl_within.f a0_1 0 16).bind fun t104 => (if t104 = true then ((impl_isAddr.f a0_0).bind fun t105 => (if t105 = true then ((impl_Prefix_size.f a0_0 a0_1).bind fun t106 => (if t106 = 0 then (none) else (some ((Int.tmod a0_0 t106) == 0)))) else (some false))) else (some false))) = some r := h
 clear h
 obtain ⟨t104, A2, H⟩ := ob_ H
 by_cases c3 : t104 = true
 rotate_left
 ·replace c3 := Bool.eq_false_iff.mpr c3
  subst c3
  rw [if_neg (show ¬ (false = true) by decide)] at H
  obtain rfl := Option.some.inj H
  go_enter Try.func74, Try.ntmps74
  try go_wp2_with ((with_reducible refine gate_dst (N := 1) rfl ?_); refine be_ 1 #[.int .i64 a0_0, .int .i64 a0_1] 28 ?_; intro gb103 hg w13 BK103 hb; have GW103 := ge_ HB hg; have GE103 := ge_ HB hg; replace HB := at_ HB hb; clear hb hg)
  replace BK103 := ad_ BK103
  replace HB := Aside0.mk (below_drew1 HB.out)
  refine start_ (n := 17) (S := fun w' => w'.cell? ⟨gb103, 0, none⟩ = some (.int .i64 a0_0) ∧ w'.cell? ⟨gb103, 1, none⟩ = some (.int .i64 a0_1)) (ds := []) ba3_0 (by kernel_rfl) rfl rfl ⟨bq5_ BK103 0, bq5_ BK103 1⟩ (fun hHeld => ?_); refine with_tabW impl_PrefixOk.tab1 impl_PrefixOk.bits1 (fun HT_ HW_ => ?_)
  generalize w13.drew = w14 at BK103 HB hHeld ⊢
  refine pz_ 0 3 ba3_1 HT_ ?_
  refine pt_ 1 4 ba3_2 HT_ HW_ hHeld ?_
  refine on_ 2 (some 5) ba3_3 HT_ (fun K hK => ?_)
  refine gz_ Try.func88 #[.int .i64 a0_1, .int .i64 0, .int .i64 16] ?_
  with_reducible refine (impl_within.calls a0_1 0 16 false _ A2.out).mono ?_
  rintro e w' ⟨rfl, ⟨nd, rfl⟩⟩
  refine ⟨_, rfl, ?_⟩
  refine hK.out _ _ ⟨bq5_ BK103 0, bq5_ BK103 1⟩ (fun hHeld => ?_)
  clear hK K
  refine nz_ 5 ?_
  refine pz_ 3 6 ba3_4 HT_ ?_
  refine pu_ 4 7 ba3_5 HT_ ?_
  refine pu_ 5 8 ba3_6 HT_ ?_
  refine pu_ 6 9 ba3_7 HT_ ?_
  refine pz_ 7 10 ba3_8 HT_ ?_
  refine pz_ 8 11 ba3_9 HT_ ?_
  refine pu_ 9 12 ba3_10 HT_ ?_
  refine pu_ 10 13 ba3_11 HT_ ?_
  refine pu_ 11 14 ba3_12 HT_ ?_
  refine pu_ 12 15 ba3_13 HT_ ?_
  refine pu_ 13 16 ba3_14 HT_ ?_
  refine pu_ 14 17 ba3_15 HT_ ?_
  refine pz_ 15 18 ba3_16 HT_ ?_
  refine pz_ 16 2 ba3_17 HT_ ?_
  refine done_ (done_of HT_.out (by kernel_rfl)) ?_
  go_wp2
  go_ret
  exact ⟨by first | rfl | (simp [errW_none, errW_some] <;> rfl) | (simp [*, errW_none, errW_some] <;> rfl), bw_⟩
 subst c3
 rw [if_pos rfl] at H
 obtain ⟨t105, A4, H⟩ := ob_ H
 by_cases c5 : t105 = true
 rotate_left
 ·replace c5 := Bool.eq_false_iff.mpr c5
  subst c5
  rw [if_neg (show ¬ (false = true) by decide)] at H
  obtain rfl := Option.some.inj H
  go_enter Try.func74, Try.ntmps74
  try go_wp2_with ((with_reducible refine gate_dst (N := 1) rfl ?_); refine be_ 1 #[.int .i64 a0_0, .int .i64 a0_1] 28 ?_; intro gb103 hg w11 BK103 hb; have GW103 := ge_ HB hg; have GE103 := ge_ HB hg; replace HB := at_ HB hb; clear hb hg)
  replace BK103 := ad_ BK103
  replace HB := Aside0.mk (below_drew1 HB.out)
  refine start_ (n := 17) (S := fun w' => w'.cell? ⟨gb103, 0, none⟩ = some (.int .i64 a0_0) ∧ w'.cell? ⟨gb103, 1, none⟩ = some (.int .i64 a0_1)) (ds := []) ba3_0 (by kernel_rfl) rfl rfl ⟨bq5_ BK103 0, bq5_ BK103 1⟩ (fun hHeld => ?_); refine with_tabW impl_PrefixOk.tab1 impl_PrefixOk.bits1 (fun HT_ HW_ => ?_)
  generalize w11.drew = w12 at BK103 HB hHeld ⊢
  refine pz_ 0 3 ba3_1 HT_ ?_
  refine pt_ 1 4 ba3_2 HT_ HW_ hHeld ?_
  refine on_ 2 (some 5) ba3_3 HT_ (fun K hK => ?_)
  refine gz_ Try.func88 #[.int .i64 a0_1, .int .i64 0, .int .i64 16] ?_
  with_reducible refine (impl_within.calls a0_1 0 16 true _ A2.out).mono ?_
  rintro e w' ⟨rfl, ⟨nd, rfl⟩⟩
  refine ⟨_, rfl, ?_⟩
  refine hK.out _ _ ⟨bq5_ BK103 0, bq5_ BK103 1⟩ (fun hHeld => ?_)
  clear hK K
  refine nz_ 5 ?_
  refine pz_ 3 6 ba3_4 HT_ ?_
  refine pz_ 4 7 ba3_5 HT_ ?_
  refine pt_ 5 8 ba3_6 HT_ HW_ hHeld ?_
  refine on_ 6 (some 9) ba3_7 HT_ (fun K hK => ?_)
  refine gz_ Try.func84 #[.int .i64 a0_0] ?_
  with_reducible refine (impl_isAddr.calls a0_0 false _ A4.out).mono ?_
  rintro e w' ⟨rfl, ⟨nd, rfl⟩⟩
  refine ⟨_, rfl, ?_⟩
  refine hK.out _ _ ⟨bq5_ BK103 0, bq5_ BK103 1⟩ (fun hHeld => ?_)
  clear hK K
  refine nz_ 9 ?_
  refine pz_ 7 10 ba3_8 HT_ ?_
  refine pz_ 8 11 ba3_9 HT_ ?_
  refine pu_ 9 12 ba3_10 HT_ ?_
  refine pu_ 10 13 ba3_11 HT_ ?_
  refine pu_ 11 14 ba3_12 HT_ ?_
  refine pu_ 12 15 ba3_13 HT_ ?_
  refine pu_ 13 16 ba3_14 HT_ ?_
  refine pu_ 14 17 ba3_15 HT_ ?_
  refine pz_ 15 18 ba3_16 HT_ ?_
  refine pz_ 16 2 ba3_17 HT_ ?_
  refine done_ (done_of HT_.out (by kernel_rfl)) ?_
  go_wp2
  go_ret
  exact ⟨by first | rfl | (simp [errW_none, errW_some] <;> rfl) | (simp [*, errW_none, errW_some] <;> rfl), bw_⟩
 subst c5
 rw [if_pos rfl] at H
 obtain ⟨t106, A6, H⟩ := ob_ H
 by_cases c7 : t106 = 0
 ·rw [if_pos c7] at H
  exact absurd H (by simp)
 rw [if_neg c7] at H
 have c7b0 : (t106 == 0) = false := beq_eq_false_iff_ne.mpr c7
 have c7b1 : (t106 != 0) = true := bne_iff_ne.mpr c7
 obtain rfl := Option.some.inj H
 go_enter Try.func74, Try.ntmps74
 try go_wp2_with ((with_reducible refine gate_dst (N := 1) rfl ?_); refine be_ 1 #[.int .i64 a0_0, .int .i64 a0_1] 28 ?_; intro gb103 hg w8 BK103 hb; have GW103 := ge_ HB hg; have GE103 := ge_ HB hg; replace HB := at_ HB hb; clear hb hg)
 replace BK103 := ad_ BK103
 replace HB := Aside0.mk (below_drew1 HB.out)
 refine start_ (n := 17) (S := fun w' => w'.cell? ⟨gb103, 0, none⟩ = some (.int .i64 a0_0) ∧ w'.cell? ⟨gb103, 1, none⟩ = some (.int .i64 a0_1)) (ds := []) ba3_0 (by kernel_rfl) rfl rfl ⟨bq5_ BK103 0, bq5_ BK103 1⟩ (fun hHeld => ?_); refine with_tabW impl_PrefixOk.tab1 impl_PrefixOk.bits1 (fun HT_ HW_ => ?_)
 generalize w8.drew = w9 at BK103 HB hHeld ⊢
 refine pz_ 0 3 ba3_1 HT_ ?_
 refine pt_ 1 4 ba3_2 HT_ HW_ hHeld ?_
 refine on_ 2 (some 5) ba3_3 HT_ (fun K hK => ?_)
 refine gz_ Try.func88 #[.int .i64 a0_1, .int .i64 0, .int .i64 16] ?_
 with_reducible refine (impl_within.calls a0_1 0 16 true _ A2.out).mono ?_
 rintro e w' ⟨rfl, ⟨nd, rfl⟩⟩
 refine ⟨_, rfl, ?_⟩
 refine hK.out _ _ ⟨bq5_ BK103 0, bq5_ BK103 1⟩ (fun hHeld => ?_)
 clear hK K
 refine nz_ 5 ?_
 refine pz_ 3 6 ba3_4 HT_ ?_
 refine pz_ 4 7 ba3_5 HT_ ?_
 refine pt_ 5 8 ba3_6 HT_ HW_ hHeld ?_
 refine on_ 6 (some 9) ba3_7 HT_ (fun K hK => ?_)
 refine gz_ Try.func84 #[.int .i64 a0_0] ?_
 with_reducible refine (impl_isAddr.calls a0_0 true _ A4.out).mono ?_
 rintro e w' ⟨rfl, ⟨nd, rfl⟩⟩
 refine ⟨_, rfl, ?_⟩
 refine hK.out _ _ ⟨bq5_ BK103 0, bq5_ BK103 1⟩ (fun hHeld => ?_)
 clear hK K
 refine nz_ 9 ?_
 refine pz_ 7 10 ba3_8 HT_ ?_
 refine pz_ 8 11 ba3_9 HT_ ?_
 refine pz_ 9 12 ba3_10 HT_ ?_
 refine pt_ 10 13 ba3_11 HT_ HW_ hHeld ?_
 refine pt_ 11 14 ba3_12 HT_ HW_ hHeld ?_
 refine on_ 12 (some 15) ba3_13 HT_ (fun K hK => ?_)
 refine gz_ Try.func69 #[.agg #[.int .i64 a0_0, .int .i64 a0_1]] ?_
 with_reducible refine (impl_Prefix_size.calls a0_0 a0_1 t106 _ A6.out).mono ?_
 rintro e w10 ⟨rfl, hb⟩
 refine ⟨_, rfl, ?_⟩
 replace BK103 := ab_ BK103 hb
 replace HB := at_ HB hb
 clear hb
 refine hK.out _ _ ⟨bq5_ BK103 0, bq5_ BK103 1⟩ (fun hHeld => ?_)
 clear hK K
 refine nz_ 15 ?_
 refine pz_ 13 16 ba3_14 HT_ ?_
 refine pz_ 14 17 ba3_15 HT_ ?_
 refine pz_ 15 18 ba3_16 HT_ ?_
 refine pz_ 16 2 ba3_17 HT_ ?_
 refine done_ (done_of HT_.out (by kernel_rfl)) ?_
 go_wp2
 go_ret
 exact ⟨by first | rfl | (simp [errW_none, errW_some] <;> rfl) | (simp [*, errW_none, errW_some] <;> rfl), bw_⟩

/-! ### impl_isRoute: function 49 -/
def impl_isRoute.f (a0_0 : Int) (a0_1 : Int) (a0_2 : Int) : Option (Bool) := (impl_PrefixOk.f a0_0 a0_1).bind fun t108 => (if t108 = true then ((impl_within.f a0_2 0 999).bind fun t109 => (some t109)) else (some false))
set_option maxHeartbeats 8000000 in
set_option maxRecDepth 100000 in
theorem impl_isRoute.calls (a0_0 : Int) (a0_1 : Int) (a0_2 : Int) (r : Bool) (w : World) (h : impl_isRoute.f a0_0 a0_1 a0_2 = some r) :
  Calls Try.prog 49 #[.agg #[.int .i64 a0_0, .int .i64 a0_1, .int .i64 a0_2]] w fun e w' => e = .returned (.bool r) ∧ Below w.heap.size w w' := by
 have hu30 := Try.underlying30
 have hu28 := Try.underlying28
 have HB := Aside0.mk (Below.refl w.heap.size w)
 have H : ((impl_PrefixOk.f a0_0 a0_1).bind fun t108 => (if t108 = true then ((impl_within.f a0_2 0 999).bind fun t109 => (some t109)) else (some false))) = some r := h
 clear h
 obtain ⟨t108, A2, H⟩ := ob_ H
 by_cases c3 : t108 = true
 rotate_left
 ·replace c3 := Bool.eq_false_iff.mpr c3
  subst c3
  rw [if_neg (show ¬ (false = true) by decide)] at H
  obtain rfl := Option.some.inj H
  go_enter Try.func49, Try.ntmps49
  go_wp2_with (first | ((with_reducible refine gate_dst (N := 1) rfl ?_); refine be_ 1 #[.int .i64 a0_0, .int .i64 a0_1, .int .i64 a0_2] 30 ?_; intro gb107 hg w9 BK107 hb; have GW107 := ge_ HB hg; have GE107 := ge_ HB hg; replace HB := at_ HB hb; clear hb hg; have hcz10_0 := cz_ BK107 0 (.int .i64 a0_0); have hcz10_1 := cz_ BK107 1 (.int .i64 a0_1); have hcz10_2 := cz_ BK107 2 (.int .i64 a0_2); have hfz10_0 := fz_ BK107 0; have hfz10_1 := fz_ BK107 1; have hfz10_2 := fz_ BK107 2) | ((with_reducible refine gate_callee (f := 74) rfl ?_); refine gl_ (some 5) Try.func74 #[.agg #[.int .i64 a0_0, .int .i64 a0_1]] ?_; (with_reducible refine (impl_PrefixOk.calls a0_0 a0_1 false _ A2.out).mono ?_); rintro e w11 ⟨rfl, hb⟩; refine ⟨_, rfl, ?_⟩; replace BK107 := ab_ BK107 hb; replace HB := at_ HB hb; clear hb))
  go_ret
  exact ⟨by first | rfl | (simp [errW_none, errW_some] <;> rfl) | (simp [*, errW_none, errW_some] <;> rfl), bw_⟩
 subst c3
 rw [if_pos rfl] at H
 obtain ⟨t109, A4, H⟩ := ob_ H
 obtain rfl := Option.some.inj H
 go_enter Try.func49, Try.ntmps49
 go_wp2_with (first | ((with_reducible refine gate_dst (N := 1) rfl ?_); refine be_ 1 #[.int .i64 a0_0, .int .i64 a0_1, .int .i64 a0_2] 30 ?_; intro gb107 hg w5 BK107 hb; have GW107 := ge_ HB hg; have GE107 := ge_ HB hg; replace HB := at_ HB hb; clear hb hg; have hcz6_0 := cz_ BK107 0 (.int .i64 a0_0); have hcz6_1 := cz_ BK107 1 (.int .i64 a0_1); have hcz6_2 := cz_ BK107 2 (.int .i64 a0_2); have hfz6_0 := fz_ BK107 0; have hfz6_1 := fz_ BK107 1; have hfz6_2 := fz_ BK107 2) | ((with_reducible refine gate_callee (f := 74) rfl ?_); refine gl_ (some 5) Try.func74 #[.agg #[.int .i64 a0_0, .int .i64 a0_1]] ?_; (with_reducible refine (impl_PrefixOk.calls a0_0 a0_1 true _ A2.out).mono ?_); rintro e w7 ⟨rfl, hb⟩; refine ⟨_, rfl, ?_⟩; replace BK107 := ab_ BK107 hb; replace HB := at_ HB hb; clear hb; have hcz8_0 := cz_ BK107 0 (.int .i64 a0_0); have hcz8_1 := cz_ BK107 1 (.int .i64 a0_1); have hcz8_2 := cz_ BK107 2 (.int .i64 a0_2); have hfz8_0 := fz_ BK107 0; have hfz8_1 := fz_ BK107 1; have hfz8_2 := fz_ BK107 2) | (go_at_call 88; (with_reducible refine (impl_within.calls a0_2 0 999 t109 _ A4.out).mono ?_); rintro e w' ⟨rfl, ⟨nd, rfl⟩⟩))
 go_ret
 exact ⟨by first | rfl | (simp [errW_none, errW_some] <;> rfl) | (simp [*, errW_none, errW_some] <;> rfl), bw_⟩

/-! ### impl_comparePrefixes: function 77 -/
def impl_comparePrefixes.f (a0_0 : Int) (a0_1 : Int) (a1_0 : Int) (a1_1 : Int) : Option (Int) := if a0_0 = a1_0 then (some (wrap64 (a0_1 - a1_1))) else (some (wrap64 (a0_0 - a1_0)))
set_option maxHeartbeats 8000000 in
set_option maxRecDepth 100000 in
theorem impl_comparePrefixes.calls (a0_0 : Int) (a0_1 : Int) (a1_0 : Int) (a1_1 : Int) (r : Int) (w : World) (h : impl_comparePrefixes.f a0_0 a0_1 a1_0 a1_1 = some r) :
  Calls Try.prog 77 #[.agg #[.int .i64 a0_0, .int .i64 a0_1], .agg #[.int .i64 a1_0, .int .i64 a1_1]] w fun e w' => e = .returned (.int .i64 r) ∧ Below w.heap.size w w' := by
 have hu28 := Try.underlying28
 have HB := Aside0.mk (Below.refl w.heap.size w)
 have H : (if a0_0 = a1_0 then (some (wrap64 (a0_1 - a1_1))) else (some (wrap64 (a0_0 - a1_0)))) = some r := h
 clear h
 by_cases c3 : a0_0 = a1_0
 rotate_left
 ·rw [if_neg c3] at H
  have c3b0 : (a0_0 == a1_0) = false := beq_eq_false_iff_ne.mpr c3
  have c3b1 : (a0_0 != a1_0) = true := bne_iff_ne.mpr c3
  obtain rfl := Option.some.inj H
  go_enter Try.func77, Try.ntmps77
  go_wp2_with (first | ((with_reducible refine gate_dst (N := 2) rfl ?_); refine be_ 2 #[.int .i64 a0_0, .int .i64 a0_1] 28 ?_; intro gb110 hg w9 BK110 hb; have GW110 := ge_ HB hg; have GE110 := ge_ HB hg; replace HB := at_ HB hb; clear hb hg) | ((with_reducible refine gate_dst (N := 3) rfl ?_); refine be_ 3 #[.int .i64 a1_0, .int .i64 a1_1] 28 ?_; intro gb111 hg w10 BK111 hb; have GW111 := ge_ HB hg; have GE111 := ge_ HB hg; have NB110_111 := nl_ BK110 hg; have NB111_110 := ng_ BK110 hg; replace HB := at_ HB hb; replace BK110 := ab_ BK110 hb; clear hb hg; have hnb11 := NB110_111.out; have hnc11 := NB111_110.out; have hcz12_0 := cz_ BK110 0 (.int .i64 a0_0); have hcz12_1 := cz_ BK110 1 (.int .i64 a0_1); have hfz12_0 := fz_ BK110 0; have hfz12_1 := fz_ BK110 1; have hcz13_0 := cz_ BK111 0 (.int .i64 a1_0); have hcz13_1 := cz_ BK111 1 (.int .i64 a1_1); have hfz13_0 := fz_ BK111 0; have hfz13_1 := fz_ BK111 1))
  go_ret
  exact ⟨by first | rfl | (simp [errW_none, errW_some] <;> rfl) | (simp [*, errW_none, errW_some] <;> rfl), bw_⟩
 rw [if_pos c3] at H
 have c3b0 : (a0_0 == a1_0) = true := beq_iff_eq.mpr c3
 have c3b1 : (a0_0 != a1_0) = false := bne_eq_false_iff_eq.mpr c3
 clear c3
 obtain rfl := Option.some.inj H
 go_enter Try.func77, Try.ntmps77
 go_wp2_with (first | ((with_reducible refine gate_dst (N := 2) rfl ?_); refine be_ 2 #[.int .i64 a0_0, .int .i64 a0_1] 28 ?_; intro gb110 hg w4 BK110 hb; have GW110 := ge_ HB hg; have GE110 := ge_ HB hg; replace HB := at_ HB hb; clear hb hg) | ((with_reducible refine gate_dst (N := 3) rfl ?_); refine be_ 3 #[.int .i64 a1_0, .int .i64 a1_1] 28 ?_; intro gb111 hg w5 BK111 hb; have GW111 := ge_ HB hg; have GE111 := ge_ HB hg; have NB110_111 := nl_ BK110 hg; have NB111_110 := ng_ BK110 hg; replace HB := at_ HB hb; replace BK110 := ab_ BK110 hb; clear hb hg; have hnb6 := NB110_111.out; have hnc6 := NB111_110.out; have hcz7_0 := cz_ BK110 0 (.int .i64 a0_0); have hcz7_1 := cz_ BK110 1 (.int .i64 a0_1); have hfz7_0 := fz_ BK110 0; have hfz7_1 := fz_ BK110 1; have hcz8_0 := cz_ BK111 0 (.int .i64 a1_0); have hcz8_1 := cz_ BK111 1 (.int .i64 a1_1); have hfz8_0 := fz_ BK111 0; have hfz8_1 := fz_ BK111 1))
 go_ret
 exact ⟨by first | rfl | (simp [errW_none, errW_some] <;> rfl) | (simp [*, errW_none, errW_some] <;> rfl), bw_⟩

end Go.Proofs.Ytjepmdngbafonaa.QFnSqueezed
