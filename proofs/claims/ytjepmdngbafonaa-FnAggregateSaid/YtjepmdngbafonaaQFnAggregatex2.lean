/- Contracts of functions that the law reaches: what each call returns and what it leaves in memory. Made by this session over the print of the kit. -/
import Derived.Test.YtjepmdngbafonaaQFnAggregatex0
namespace Go.Proofs.Ytjepmdngbafonaa.QFnAggregate
open Go.RowKit Go.Proofs.YtjepmdngbafonaaB.PrintWords Go.Proofs.YtjepmdngbafonaaB.PrintLast Go.Proofs.YtjepmdngbafonaaB.PrintMore
attribute [local go_sem] max2_int min2_int max_two min_two max_three min_three max_four min_four   -- for this text's walks alone
set_option linter.unusedVariables false
set_option linter.unusedSimpArgs false
abbrev tb2 : Bool := true
abbrev fb2 : Bool := false
def ba2_0 : Array Bool := #[fb2,fb2,fb2,fb2,fb2,fb2,fb2,fb2,fb2,fb2,fb2,fb2,fb2,fb2,fb2,fb2,fb2]
def ba2_1 : Array Bool := #[tb2,fb2,fb2,fb2,fb2,fb2,fb2,fb2,fb2,fb2,fb2,fb2,fb2,fb2,fb2,fb2,fb2]
def ba2_2 : Array Bool := #[tb2,tb2,fb2,fb2,fb2,fb2,fb2,fb2,fb2,fb2,fb2,fb2,fb2,fb2,fb2,fb2,fb2]
def ba2_3 : Array Bool := #[tb2,tb2,tb2,fb2,fb2,fb2,fb2,fb2,fb2,fb2,fb2,fb2,fb2,fb2,fb2,fb2,fb2]
def ba2_4 : Array Bool := #[tb2,tb2,tb2,tb2,fb2,fb2,fb2,fb2,fb2,fb2,fb2,fb2,fb2,fb2,fb2,fb2,fb2]
def ba2_5 : Array Bool := #[tb2,tb2,tb2,tb2,tb2,fb2,fb2,fb2,fb2,fb2,fb2,fb2,fb2,fb2,fb2,fb2,fb2]
def ba2_6 : Array Bool := #[tb2,tb2,tb2,tb2,tb2,tb2,fb2,fb2,fb2,fb2,fb2,fb2,fb2,fb2,fb2,fb2,fb2]
def ba2_7 : Array Bool := #[tb2,tb2,tb2,tb2,tb2,tb2,tb2,fb2,fb2,fb2,fb2,fb2,fb2,fb2,fb2,fb2,fb2]
def ba2_8 : Array Bool := #[tb2,tb2,tb2,tb2,tb2,tb2,tb2,tb2,fb2,fb2,fb2,fb2,fb2,fb2,fb2,fb2,fb2]
def ba2_9 : Array Bool := #[tb2,tb2,tb2,tb2,tb2,tb2,tb2,tb2,tb2,fb2,fb2,fb2,fb2,fb2,fb2,fb2,fb2]
def ba2_10 : Array Bool := #[tb2,tb2,tb2,tb2,tb2,tb2,tb2,tb2,tb2,tb2,fb2,fb2,fb2,fb2,fb2,fb2,fb2]
def ba2_11 : Array Bool := #[tb2,tb2,tb2,tb2,tb2,tb2,tb2,tb2,tb2,tb2,tb2,fb2,fb2,fb2,fb2,fb2,fb2]
def ba2_12 : Array Bool := #[tb2,tb2,tb2,tb2,tb2,tb2,tb2,tb2,tb2,tb2,tb2,tb2,fb2,fb2,fb2,fb2,fb2]
def ba2_13 : Array Bool := #[tb2,tb2,tb2,tb2,tb2,tb2,tb2,tb2,tb2,tb2,tb2,tb2,tb2,fb2,fb2,fb2,fb2]
def ba2_14 : Array Bool := #[tb2,tb2,tb2,tb2,tb2,tb2,tb2,tb2,tb2,tb2,tb2,tb2,tb2,tb2,fb2,fb2,fb2]
def ba2_15 : Array Bool := #[tb2,tb2,tb2,tb2,tb2,tb2,tb2,tb2,tb2,tb2,tb2,tb2,tb2,tb2,tb2,fb2,fb2]
def ba2_16 : Array Bool := #[tb2,tb2,tb2,tb2,tb2,tb2,tb2,tb2,tb2,tb2,tb2,tb2,tb2,tb2,tb2,tb2,fb2]
def ba2_17 : Array Bool := #[tb2,tb2,tb2,tb2,tb2,tb2,tb2,tb2,tb2,tb2,tb2,tb2,tb2,tb2,tb2,tb2,tb2]

/-! ### laws_big: function 8 -/
def laws_big.f (l0 : List Int) : Option (Bool) := some (decide ((l0.length : Int) > 1048576))
set_option maxHeartbeats 8000000 in
set_option maxRecDepth 100000 in
theorem laws_big.calls (A0 : Option Addr) (c0 : Nat) (l0 : List Int) (r : Bool) (w : World) (hr0 : Kd.C (Kd.int .u8) w A0 l0.length l0) (hc0 : l0.length ≤ c0) (h : laws_big.f l0 = some r) :
  Calls Try.prog 8 #[.slice A0 l0.length c0] w fun e w' => e = .returned (.bool r) ∧ Drawn0 w w' := by
 have HR0 := Aside0.mk hr0
 have HC0 := Aside0.mk hc0
 clear hr0 hc0
 have H : (some (decide ((l0.length : Int) > 1048576))) = some r := h
 clear h
 obtain rfl := Option.some.inj H
 go_enter Try.func8, Try.ntmps8
 go_wp2
 go_ret
 exact ⟨by first | rfl | (simp; done) | (simp [*]; done), by repeat (first | exact Drawn0.refl _ | apply Drawn0.step)⟩

/-! ### impl_Prefix_size: function 69 -/
def impl_Prefix_size.f (a0_0 : Int) (a0_1 : Int) : Option (Int) := if 0 ≤ (wrap64 (16 - a0_1)) then (some (shl .i64 1 (wrap64 (16 - a0_1)))) else (none)
set_option maxHeartbeats 8000000 in
set_option maxRecDepth 100000 in
theorem impl_Prefix_size.calls (a0_0 : Int) (a0_1 : Int) (r : Int) (w : World) (h : impl_Prefix_size.f a0_0 a0_1 = some r) :
  Calls Try.prog 69 #[.agg #[.int .i64 a0_0, .int .i64 a0_1]] w fun e w' => e = .returned (.int .i64 r) ∧ Below w.heap.size w w' := by
 have hu28 := Try.underlying28
 have HB := Aside0.mk (Below.refl w.heap.size w)
 have H : (if 0 ≤ (wrap64 (16 - a0_1)) then (some (shl .i64 1 (wrap64 (16 - a0_1)))) else (none)) = some r := h
 clear h
 obtain ⟨ji2, hji2⟩ : ∃ j_ : Int, (wrap64 (16 - a0_1)) = j_ := ⟨_, rfl⟩
 first | rw [hji2] at H | simp only [hji2] at H
 have hji2w : (IntKind.i64.wrap (16 - a0_1)) = ji2 := (i64_w _).trans hji2
 by_cases c3 : 0 ≤ (ji2)
 rotate_left
 ·rw [if_neg c3] at H
  exact absurd H (by simp)
 rw [if_pos c3] at H
 have c3b0 := eq_true c3
 have c3b1 : decide (0 ≤ (ji2)) = true := decide_eq_true c3
 clear c3
 obtain ⟨ji4, hji4⟩ : ∃ j_ : Int, (shl .i64 1 (ji2)) = j_ := ⟨_, rfl⟩
 first | rw [hji4] at H | simp only [hji4] at H
 have hji4_ : (IntKind.i64.wrap (1 * 2 ^ min (ji2).toNat 64)) = ji4 := hji4
 have hji4z : (ji2) ≤ 64 → (IntKind.i64.wrap (1 * 2 ^ (ji2).toNat)) = ji4 := shl_small hji4
 have hji4u : (IntKind.i64.wrap (2 ^ min (ji2).toNat 64)) = ji4 := by have h_ := hji4_; rw [Int.one_mul] at h_; exact h_
 have hji4v : (ji2) ≤ 64 → (IntKind.i64.wrap (2 ^ (ji2).toNat)) = ji4 := fun hle_ => by have h_ := hji4z hle_; rw [Int.one_mul] at h_; exact h_
 have hji4y : (wrap64 (1 * 2 ^ min (ji2).toNat 64)) = ji4 := (i64_w _).symm.trans hji4_
 have hji4x : (ji2) ≤ 64 → (wrap64 (1 * 2 ^ (ji2).toNat)) = ji4 := fun h_ => (i64_w _).symm.trans (hji4z h_)
 obtain rfl := Option.some.inj H
 go_enter Try.func69, Try.ntmps69
 go_wp2_with (first | ((with_reducible refine gate_dst (N := 1) rfl ?_); refine box_event ?hg (N := 1) ?hd (cs := #[.int .i64 a0_0, .int .i64 a0_1]) (t := 28) ?hr ?_; (case hd => rfl); (case hg => rfl); (case hr => first | (go_simp; done) | (go_simp; rfl)); intro gb101 hg w5 hbox hb; have BK101 := Aside0.mk hbox; have GW101 := ge_ HB hg; have GE101 := ge_ HB hg; replace HB := Aside0.mk (bt_ HB hb); clear hb hbox hg; have hcz6_0 := cz_ BK101 0 (.int .i64 a0_0); have hcz6_1 := cz_ BK101 1 (.int .i64 a0_1); have hfz6_0 := blk_frozen BK101.out 0; have hfz6_1 := blk_frozen BK101.out 1))
 go_ret
 exact ⟨by first | rfl | (simp [errW_none, errW_some] <;> rfl) | (simp only [← hji2, ← hji4]; first | rfl | (simp [errW_none, errW_some] <;> rfl)) | (simp [*, errW_none, errW_some] <;> rfl), by repeat (first | (with_reducible first | exact HB.out | apply below_alloc | apply pw_below_drewN | apply below_drew1 | refine below_set ?_ GE101.out) | exact HB.out)⟩

/-! ### impl_within: function 88 -/
def impl_within.f (a0 : Int) (a1 : Int) (a2 : Int) : Option (Bool) := if a0 ≥ a1 then (some (decide (a0 ≤ a2))) else (some false)
set_option maxHeartbeats 8000000 in
set_option maxRecDepth 100000 in
theorem impl_within.calls (a0 : Int) (a1 : Int) (a2 : Int) (r : Bool) (w : World) (h : impl_within.f a0 a1 a2 = some r) :
  Calls Try.prog 88 #[.int .i64 a0, .int .i64 a1, .int .i64 a2] w fun e w' => e = .returned (.bool r) ∧ Drawn0 w w' := by
 have H : (if a0 ≥ a1 then (some (decide (a0 ≤ a2))) else (some false)) = some r := h
 clear h
 by_cases c4 : a0 ≥ a1
 ·rw [if_pos c4] at H
  have c4b0 : decide (a1 ≤ a0) = true := decide_eq_true c4
  clear c4
  obtain rfl := Option.some.inj H
  go_enter Try.func88, Try.ntmps88
  go_wp2
  go_ret
  exact ⟨by first | rfl | (simp; done) | (simp [*]; done), by repeat (first | exact Drawn0.refl _ | apply Drawn0.step)⟩
 rw [if_neg c4] at H
 have c4b0 : decide (a1 ≤ a0) = false := decide_eq_false c4
 clear c4
 obtain rfl := Option.some.inj H
 go_enter Try.func88, Try.ntmps88
 go_wp2
 go_ret
 exact ⟨by first | rfl | (simp; done) | (simp [*]; done), by repeat (first | exact Drawn0.refl _ | apply Drawn0.step)⟩

/-! ### impl_isAddr: function 84 -/
def impl_isAddr.f (a0 : Int) : Option (Bool) := (impl_within.f a0 0 65535).bind fun t102 => (some t102)
set_option maxHeartbeats 8000000 in
set_option maxRecDepth 100000 in
theorem impl_isAddr.calls (a0 : Int) (r : Bool) (w : World) (h : impl_isAddr.f a0 = some r) :
  Calls Try.prog 84 #[.int .i64 a0] w fun e w' => e = .returned (.bool r) ∧ Drawn0 w w' := by
 have H : ((impl_within.f a0 0 65535).bind fun t102 => (some t102)) = some r := h
 clear h
 replace H := Option.bind_eq_some_iff.mp H
 obtain ⟨t102, A20, H⟩ := H
 have A2 := Aside0.mk A20
 clear A20
 obtain rfl := Option.some.inj H
 go_enter Try.func84, Try.ntmps84
 go_wp2_with (first | ((with_reducible refine gate_callee (f := 88) rfl ?_); refine gl_ (some 4) Try.func88 #[.int .i64 a0, .int .i64 0, .int .i64 65535] ?_; (with_reducible refine (impl_within.calls a0 0 65535 t102 _ A2.out).mono ?_); rintro e w' ⟨rfl, ⟨nd, rfl⟩⟩; refine ⟨_, rfl, ?_⟩))
 go_ret
 exact ⟨by first | rfl | (simp; done) | (simp [*]; done), by repeat (first | exact Drawn0.refl _ | apply Drawn0.step)⟩

/-! ### impl_PrefixOk: function 74 -/
def impl_PrefixOk.f (a0_0 : Int) (a0_1 : Int) : Option (Bool) := (impl_within.f a0_1 0 16).bind fun t104 => (if t104 = true then ((impl_isAddr.f a0_0).bind fun t105 => (if t105 = true then ((impl_Prefix_size.f a0_0 a0_1).bind fun t106 => (if t106 = 0 then (none) else (some ((Int.tmod a0_0 t106) == 0)))) else (some false))) else (some false))
def impl_PrefixOk.T1 : Bool × List (List Nat × List Nat) := (true, [([], []), ([0], [0]), ([1], [1]), ([2, 2], [2]), ([3], [3]), ([4, 3], [3, 4]), ([5, 3, 3], [3, 5]), ([3, 6], [3, 6]), ([7, 6], [7]), ([8], [8]), ([9, 8], [8, 9]), ([8], [8]), ([11, 8, 8], [8, 11]), ([10, 12, 8], [8, 10, 12]), ([13, 8], [8, 13]), ([8, 14], [8, 14]), ([15, 12, 0, 1, 2, 3, 4, 5, 6, 7, 8, 9, 10, 11, 12, 13, 14, 15], [15])])
def impl_PrefixOk.B1 : List Nat := [0, 1, 3, 7, 15, 31, 63, 127, 255, 511, 1023, 511, 2559, 8191, 16383, 32767, 65535]
theorem impl_PrefixOk.tab1 : rtab .any (opsOf Try.f74 1) = impl_PrefixOk.T1 := by kernel_rfl
theorem impl_PrefixOk.bits1 : waitsOk impl_PrefixOk.T1.2 impl_PrefixOk.B1 = true := by kernel_rfl
set_option maxHeartbeats 8000000 in
set_option maxRecDepth 100000 in
theorem impl_PrefixOk.calls (a0_0 : Int) (a0_1 : Int) (r : Bool) (w : World) (h : impl_PrefixOk.f a0_0 a0_1 = some r) :
  Calls Try.prog 74 #[.agg #[.int .i64 a0_0, .int .i64 a0_1]] w fun e w' => e = .returned (.bool r) ∧ Below w.heap.size w w' := by
 have hu28 := Try.underlying28
 have HB := Aside0.mk (Below.refl w.heap.size w)
 have H : ((impl_within.f a0_1 0 16).bind fun t104 => (if t104 = true then ((impl_isAddr.f a0_0).bind fun t105 => (if t105 = true then ((impl_Prefix_size.f a0_0 a0_1).bind fun t106 => (if t106 = 0 then (none) else (some ((Int.tmod a0_0 t106) == 0)))) else (some false))) else (some false))) = some r := h
 clear h
 replace H := Option.bind_eq_some_iff.mp H
 obtain ⟨t104, A20, H⟩ := H
 have A2 := Aside0.mk A20
 clear A20
 by_cases c3 : t104 = true
 rotate_left
 ·replace c3 := Bool.eq_false_iff.mpr c3
  subst c3
  rw [if_neg (show ¬ (false = true) by decide)] at H
  obtain rfl := Option.some.inj H
  go_enter Try.func74, Try.ntmps74
  try go_wp2_with (first | ((with_reducible refine gate_dst (N := 1) rfl ?_); refine box_event ?hg (N := 1) ?hd (cs := #[.int .i64 a0_0, .int .i64 a0_1]) (t := 28) ?hr ?_; (case hd => rfl); (case hg => rfl); (case hr => first | (go_simp; done) | (go_simp; rfl)); intro gb103 hg w13 hbox hb; have BK103 := Aside0.mk hbox; have GW103 := ge_ HB hg; have GE103 := ge_ HB hg; replace HB := Aside0.mk (bt_ HB hb); clear hb hbox hg))
  replace BK103 := Aside0.mk (blk_drew BK103.out)
  replace HB := Aside0.mk (below_drew1 HB.out)
  refine start_ (n := 17) (S := fun w' => w'.cell? ⟨gb103, 0, none⟩ = some (.int .i64 a0_0) ∧ w'.cell? ⟨gb103, 1, none⟩ = some (.int .i64 a0_1)) (ds := []) ba2_0 (by kernel_rfl) rfl rfl ⟨(blk_cell BK103.out 0).trans rfl, (blk_cell BK103.out 1).trans rfl⟩ (fun hHeld => ?_); refine with_tabW impl_PrefixOk.tab1 impl_PrefixOk.bits1 (fun HT_ HW_ => ?_)
  generalize w13.drew = w14 at BK103 HB hHeld ⊢
  refine pz_ 0 3 ba2_1 HT_ ?_
  refine pt_ 1 4 ba2_2 HT_ HW_ hHeld ?_
  refine one_ (i := 2) (N := some 5) ba2_3 rfl rfl (one_of HT_.out (by kernel_rfl)) (by decide) (fun K hK => ?_)
  refine gz_ Try.func88 #[.int .i64 a0_1, .int .i64 0, .int .i64 16] ?_
  with_reducible refine (impl_within.calls a0_1 0 16 false _ A2.out).mono ?_
  rintro e w' ⟨rfl, ⟨nd, rfl⟩⟩
  refine ⟨_, rfl, ?_⟩
  refine hK.out _ _ ⟨(blk_cell BK103.out 0).trans rfl, (blk_cell BK103.out 1).trans rfl⟩ (fun hHeld => ?_)
  clear hK K
  refine nz_ 5 ?_
  refine pz_ 3 6 ba2_4 HT_ ?_
  refine pu_ 4 7 ba2_5 HT_ ?_
  refine pu_ 5 8 ba2_6 HT_ ?_
  refine pu_ 6 9 ba2_7 HT_ ?_
  refine pz_ 7 10 ba2_8 HT_ ?_
  refine pz_ 8 11 ba2_9 HT_ ?_
  refine pu_ 9 12 ba2_10 HT_ ?_
  refine pu_ 10 13 ba2_11 HT_ ?_
  refine pu_ 11 14 ba2_12 HT_ ?_
  refine pu_ 12 15 ba2_13 HT_ ?_
  refine pu_ 13 16 ba2_14 HT_ ?_
  refine pu_ 14 17 ba2_15 HT_ ?_
  refine pz_ 15 18 ba2_16 HT_ ?_
  refine pz_ 16 2 ba2_17 HT_ ?_
  refine done_ (done_of HT_.out (by kernel_rfl)) ?_
  try go_wp2
  go_ret
  exact ⟨by first | rfl | (simp [errW_none, errW_some] <;> rfl) | (simp [*, errW_none, errW_some] <;> rfl), by repeat (first | (with_reducible first | exact HB.out | apply below_alloc | apply pw_below_drewN | apply below_drew1 | refine below_set ?_ GE103.out) | exact HB.out)⟩
 subst c3
 rw [if_pos rfl] at H
 replace H := Option.bind_eq_some_iff.mp H
 obtain ⟨t105, A40, H⟩ := H
 have A4 := Aside0.mk A40
 clear A40
 by_cases c5 : t105 = true
 rotate_left
 ·replace c5 := Bool.eq_false_iff.mpr c5
  subst c5
  rw [if_neg (show ¬ (false = true) by decide)] at H
  obtain rfl := Option.some.inj H
  go_enter Try.func74, Try.ntmps74
  try go_wp2_with (first | ((with_reducible refine gate_dst (N := 1) rfl ?_); refine box_event ?hg (N := 1) ?hd (cs := #[.int .i64 a0_0, .int .i64 a0_1]) (t := 28) ?hr ?_; (case hd => rfl); (case hg => rfl); (case hr => first | (go_simp; done) | (go_simp; rfl)); intro gb103 hg w11 hbox hb; have BK103 := Aside0.mk hbox; have GW103 := ge_ HB hg; have GE103 := ge_ HB hg; replace HB := Aside0.mk (bt_ HB hb); clear hb hbox hg))
  replace BK103 := Aside0.mk (blk_drew BK103.out)
  replace HB := Aside0.mk (below_drew1 HB.out)
  refine start_ (n := 17) (S := fun w' => w'.cell? ⟨gb103, 0, none⟩ = some (.int .i64 a0_0) ∧ w'.cell? ⟨gb103, 1, none⟩ = some (.int .i64 a0_1)) (ds := []) ba2_0 (by kernel_rfl) rfl rfl ⟨(blk_cell BK103.out 0).trans rfl, (blk_cell BK103.out 1).trans rfl⟩ (fun hHeld => ?_); refine with_tabW impl_PrefixOk.tab1 impl_PrefixOk.bits1 (fun HT_ HW_ => ?_)
  generalize w11.drew = w12 at BK103 HB hHeld ⊢
  refine pz_ 0 3 ba2_1 HT_ ?_
  refine pt_ 1 4 ba2_2 HT_ HW_ hHeld ?_
  refine one_ (i := 2) (N := some 5) ba2_3 rfl rfl (one_of HT_.out (by kernel_rfl)) (by decide) (fun K hK => ?_)
  refine gz_ Try.func88 #[.int .i64 a0_1, .int .i64 0, .int .i64 16] ?_
  with_reducible refine (impl_within.calls a0_1 0 16 true _ A2.out).mono ?_
  rintro e w' ⟨rfl, ⟨nd, rfl⟩⟩
  refine ⟨_, rfl, ?_⟩
  refine hK.out _ _ ⟨(blk_cell BK103.out 0).trans rfl, (blk_cell BK103.out 1).trans rfl⟩ (fun hHeld => ?_)
  clear hK K
  refine nz_ 5 ?_
  refine pz_ 3 6 ba2_4 HT_ ?_
  refine pz_ 4 7 ba2_5 HT_ ?_
  refine pt_ 5 8 ba2_6 HT_ HW_ hHeld ?_
  refine one_ (i := 6) (N := some 9) ba2_7 rfl rfl (one_of HT_.out (by kernel_rfl)) (by decide) (fun K hK => ?_)
  refine gz_ Try.func84 #[.int .i64 a0_0] ?_
  with_reducible refine (impl_isAddr.calls a0_0 false _ A4.out).mono ?_
  rintro e w' ⟨rfl, ⟨nd, rfl⟩⟩
  refine ⟨_, rfl, ?_⟩
  refine hK.out _ _ ⟨(blk_cell BK103.out 0).trans rfl, (blk_cell BK103.out 1).trans rfl⟩ (fun hHeld => ?_)
  clear hK K
  refine nz_ 9 ?_
  refine pz_ 7 10 ba2_8 HT_ ?_
  refine pz_ 8 11 ba2_9 HT_ ?_
  refine pu_ 9 12 ba2_10 HT_ ?_
  refine pu_ 10 13 ba2_11 HT_ ?_
  refine pu_ 11 14 ba2_12 HT_ ?_
  refine pu_ 12 15 ba2_13 HT_ ?_
  refine pu_ 13 16 ba2_14 HT_ ?_
  refine pu_ 14 17 ba2_15 HT_ ?_
  refine pz_ 15 18 ba2_16 HT_ ?_
  refine pz_ 16 2 ba2_17 HT_ ?_
  refine done_ (done_of HT_.out (by kernel_rfl)) ?_
  try go_wp2
  go_ret
  exact ⟨by first | rfl | (simp [errW_none, errW_some] <;> rfl) | (simp [*, errW_none, errW_some] <;> rfl), by repeat (first | (with_reducible first | exact HB.out | apply below_alloc | apply pw_below_drewN | apply below_drew1 | refine below_set ?_ GE103.out) | exact HB.out)⟩
 subst c5
 rw [if_pos rfl] at H
 replace H := Option.bind_eq_some_iff.mp H
 obtain ⟨t106, A60, H⟩ := H
 have A6 := Aside0.mk A60
 clear A60
 by_cases c7 : t106 = 0
 ·rw [if_pos c7] at H
  exact absurd H (by simp)
 rw [if_neg c7] at H
 have c7b0 : (t106 == 0) = false := beq_eq_false_iff_ne.mpr c7
 have c7b1 : (t106 != 0) = true := bne_iff_ne.mpr c7
 obtain rfl := Option.some.inj H
 go_enter Try.func74, Try.ntmps74
 try go_wp2_with (first | ((with_reducible refine gate_dst (N := 1) rfl ?_); refine box_event ?hg (N := 1) ?hd (cs := #[.int .i64 a0_0, .int .i64 a0_1]) (t := 28) ?hr ?_; (case hd => rfl); (case hg => rfl); (case hr => first | (go_simp; done) | (go_simp; rfl)); intro gb103 hg w8 hbox hb; have BK103 := Aside0.mk hbox; have GW103 := ge_ HB hg; have GE103 := ge_ HB hg; replace HB := Aside0.mk (bt_ HB hb); clear hb hbox hg))
 replace BK103 := Aside0.mk (blk_drew BK103.out)
 replace HB := Aside0.mk (below_drew1 HB.out)
 refine start_ (n := 17) (S := fun w' => w'.cell? ⟨gb103, 0, none⟩ = some (.int .i64 a0_0) ∧ w'.cell? ⟨gb103, 1, none⟩ = some (.int .i64 a0_1)) (ds := []) ba2_0 (by kernel_rfl) rfl rfl ⟨(blk_cell BK103.out 0).trans rfl, (blk_cell BK103.out 1).trans rfl⟩ (fun hHeld => ?_); refine with_tabW impl_PrefixOk.tab1 impl_PrefixOk.bits1 (fun HT_ HW_ => ?_)
 generalize w8.drew = w9 at BK103 HB hHeld ⊢
 refine pz_ 0 3 ba2_1 HT_ ?_
 refine pt_ 1 4 ba2_2 HT_ HW_ hHeld ?_
 refine one_ (i := 2) (N := some 5) ba2_3 rfl rfl (one_of HT_.out (by kernel_rfl)) (by decide) (fun K hK => ?_)
 refine gz_ Try.func88 #[.int .i64 a0_1, .int .i64 0, .int .i64 16] ?_
 with_reducible refine (impl_within.calls a0_1 0 16 true _ A2.out).mono ?_
 rintro e w' ⟨rfl, ⟨nd, rfl⟩⟩
 refine ⟨_, rfl, ?_⟩
 refine hK.out _ _ ⟨(blk_cell BK103.out 0).trans rfl, (blk_cell BK103.out 1).trans rfl⟩ (fun hHeld => ?_)
 clear hK K
 refine nz_ 5 ?_
 refine pz_ 3 6 ba2_4 HT_ ?_
 refine pz_ 4 7 ba2_5 HT_ ?_
 refine pt_ 5 8 ba2_6 HT_ HW_ hHeld ?_
 refine one_ (i := 6) (N := some 9) ba2_7 rfl rfl (one_of HT_.out (by kernel_rfl)) (by decide) (fun K hK => ?_)
 refine gz_ Try.func84 #[.int .i64 a0_0] ?_
 with_reducible refine (impl_isAddr.calls a0_0 true _ A4.out).mono ?_
 rintro e w' ⟨rfl, ⟨nd, rfl⟩⟩
 refine ⟨_, rfl, ?_⟩
 refine hK.out _ _ ⟨(blk_cell BK103.out 0).trans rfl, (blk_cell BK103.out 1).trans rfl⟩ (fun hHeld => ?_)
 clear hK K
 refine nz_ 9 ?_
 refine pz_ 7 10 ba2_8 HT_ ?_
 refine pz_ 8 11 ba2_9 HT_ ?_
 refine pz_ 9 12 ba2_10 HT_ ?_
 refine pt_ 10 13 ba2_11 HT_ HW_ hHeld ?_
 refine pt_ 11 14 ba2_12 HT_ HW_ hHeld ?_
 refine one_ (i := 12) (N := some 15) ba2_13 rfl rfl (one_of HT_.out (by kernel_rfl)) (by decide) (fun K hK => ?_)
 refine gz_ Try.func69 #[.agg #[.int .i64 a0_0, .int .i64 a0_1]] ?_
 with_reducible refine (impl_Prefix_size.calls a0_0 a0_1 t106 _ A6.out).mono ?_
 rintro e w10 ⟨rfl, hb⟩
 refine ⟨_, rfl, ?_⟩
 replace BK103 := Aside0.mk (bb_ BK103 hb)
 replace HB := Aside0.mk (bt_ HB hb)
 (try clear hb)
 (try clear hb2)
 (try clear hk)
 (try clear hi)
 refine hK.out _ _ ⟨(blk_cell BK103.out 0).trans rfl, (blk_cell BK103.out 1).trans rfl⟩ (fun hHeld => ?_)
 clear hK K
 refine nz_ 15 ?_
 refine pz_ 13 16 ba2_14 HT_ ?_
 refine pz_ 14 17 ba2_15 HT_ ?_
 refine pz_ 15 18 ba2_16 HT_ ?_
 refine pz_ 16 2 ba2_17 HT_ ?_
 refine done_ (done_of HT_.out (by kernel_rfl)) ?_
 try go_wp2
 go_ret
 exact ⟨by first | rfl | (simp [errW_none, errW_some] <;> rfl) | (simp [*, errW_none, errW_some] <;> rfl), by repeat (first | (with_reducible first | exact HB.out | apply below_alloc | apply pw_below_drewN | apply below_drew1 | refine below_set ?_ GE103.out) | exact HB.out)⟩

/-! ### impl_Aggregate_1: function 73 -/
def impl_Aggregate_1.f (a0_0 : Int) (a0_1 : Int) : Option (Bool) := (impl_PrefixOk.f a0_0 a0_1).bind fun t108 => (some (!t108))
set_option maxHeartbeats 8000000 in
set_option maxRecDepth 100000 in
theorem impl_Aggregate_1.calls (a0_0 : Int) (a0_1 : Int) (r : Bool) (w : World) (h : impl_Aggregate_1.f a0_0 a0_1 = some r) :
  Calls Try.prog 73 #[.agg #[.int .i64 a0_0, .int .i64 a0_1]] w fun e w' => e = .returned (.bool r) ∧ Below w.heap.size w w' := by
 have hu28 := Try.underlying28
 have HB := Aside0.mk (Below.refl w.heap.size w)
 have H : ((impl_PrefixOk.f a0_0 a0_1).bind fun t108 => (some (!t108))) = some r := h
 clear h
 replace H := Option.bind_eq_some_iff.mp H
 obtain ⟨t108, A20, H⟩ := H
 have A2 := Aside0.mk A20
 clear A20
 obtain rfl := Option.some.inj H
 go_enter Try.func73, Try.ntmps73
 go_wp2_with (first | ((with_reducible refine gate_dst (N := 1) rfl ?_); refine box_event ?hg (N := 1) ?hd (cs := #[.int .i64 a0_0, .int .i64 a0_1]) (t := 28) ?hr ?_; (case hd => rfl); (case hg => rfl); (case hr => first | (go_simp; done) | (go_simp; rfl)); intro gb107 hg w3 hbox hb; have BK107 := Aside0.mk hbox; have GW107 := ge_ HB hg; have GE107 := ge_ HB hg; replace HB := Aside0.mk (bt_ HB hb); clear hb hbox hg; have hcz4_0 := cz_ BK107 0 (.int .i64 a0_0); have hcz4_1 := cz_ BK107 1 (.int .i64 a0_1); have hfz4_0 := blk_frozen BK107.out 0; have hfz4_1 := blk_frozen BK107.out 1) | ((with_reducible refine gate_callee (f := 74) rfl ?_); refine gl_ (some 4) Try.func74 #[.agg #[.int .i64 a0_0, .int .i64 a0_1]] ?_; (with_reducible refine (impl_PrefixOk.calls a0_0 a0_1 t108 _ A2.out).mono ?_); rintro e w5 ⟨rfl, hb⟩; refine ⟨_, rfl, ?_⟩; replace BK107 := Aside0.mk (bb_ BK107 hb); replace HB := Aside0.mk (bt_ HB hb); (try clear hb); (try clear hb2); (try clear hk); (try clear hi)))
 go_ret
 exact ⟨by first | rfl | (simp [errW_none, errW_some] <;> rfl) | (simp [*, errW_none, errW_some] <;> rfl), by repeat (first | (with_reducible first | exact HB.out | apply below_alloc | apply pw_below_drewN | apply below_drew1 | refine below_set ?_ GE107.out) | exact HB.out)⟩

/-! ### slices_IndexFunc_impl_Prefix_impl_Prefix: function 102 -/
def slices_IndexFunc_impl_Prefix_impl_Prefix.l0 : Nat → List (S28) → Int → Int → Option (Int)
 | 0, _, _, _ => none
 | k + 1, x0, x7, x8 => if x8 < x7 then (if 0 ≤ x8 then (if x8 < (x0.length : Int) then ((impl_Aggregate_1.f ((rd_T28 x0 x8).f0) ((rd_T28 x0 x8).f1)).bind fun t110 => (if t110 = true then (some x8) else (slices_IndexFunc_impl_Prefix_impl_Prefix.l0 k x0 x7 (wrap64 (x8 + 1))))) else (none)) else (none)) else (some (-1))
def slices_IndexFunc_impl_Prefix_impl_Prefix.f (k : Nat) (l0 : List (S28))  : Option (Int) := slices_IndexFunc_impl_Prefix_impl_Prefix.l0 k l0 (l0.length : Int) 0
theorem slices_IndexFunc_impl_Prefix_impl_Prefix.mono_l : ∀ k, (∀ y0 y1 y2, LeO (slices_IndexFunc_impl_Prefix_impl_Prefix.l0 k y0 y1 y2) (slices_IndexFunc_impl_Prefix_impl_Prefix.l0 (k + 1) y0 y1 y2))
 | 0 => fun _ _ _ r h => by simp [slices_IndexFunc_impl_Prefix_impl_Prefix.l0] at h
 | k + 1 => by
  have ih0 := slices_IndexFunc_impl_Prefix_impl_Prefix.mono_l k
  ·intro y0 y1 y2
   unfold slices_IndexFunc_impl_Prefix_impl_Prefix.l0
   repeat' first
   | (with_reducible exact ih0 _ _ _)
   | (with_reducible exact LeO.refl _)
   | (with_reducible exact LeO.none _)
   | (with_reducible refine LeO.ite ?_ ?_)
   | (with_reducible refine LeO.bind ?_ (fun _ => ?_))
   | exact ih0 _ _ _
   | exact LeO.none _
   | refine LeO.ite ?_ ?_
   | refine LeO.bind ?_ (fun _ => ?_)
theorem slices_IndexFunc_impl_Prefix_impl_Prefix.mono : ∀ a0 k, LeO (slices_IndexFunc_impl_Prefix_impl_Prefix.f k a0) (slices_IndexFunc_impl_Prefix_impl_Prefix.f (k + 1) a0) := by
 intro a0 k
 have ih0 := slices_IndexFunc_impl_Prefix_impl_Prefix.mono_l k
 unfold slices_IndexFunc_impl_Prefix_impl_Prefix.f
 repeat' first
   | (with_reducible exact ih0 _ _ _)
   | (with_reducible exact LeO.refl _)
   | (with_reducible exact LeO.none _)
   | (with_reducible refine LeO.ite ?_ ?_)
   | (with_reducible refine LeO.bind ?_ (fun _ => ?_))
   | exact ih0 _ _ _
   | exact LeO.none _
   | refine LeO.ite ?_ ?_
   | refine LeO.bind ?_ (fun _ => ?_)
set_option maxHeartbeats 8000000 in
set_option maxRecDepth 100000 in
theorem slices_IndexFunc_impl_Prefix_impl_Prefix.calls (k : Nat) (A0 : Option Addr) (c0 : Nat) (l0 : List (S28))  (r : Int) (w : World) (hr0 : Kd.C k28 w A0 l0.length l0) (hc0 : l0.length ≤ c0) (h : slices_IndexFunc_impl_Prefix_impl_Prefix.f k l0 = some r) :
  Calls Try.prog 102 #[.slice A0 l0.length c0, .func (.func 73) #[] #[]] w fun e w' => e = .returned (.int .i64 r) ∧ Below w.heap.size w w' := by
 have hu28 := Try.underlying28
 have HR0 := Aside0.mk hr0
 have HC0 := Aside0.mk hc0
 clear hr0 hc0
 have HB := Aside0.mk (Below.refl w.heap.size w)
 have H : (slices_IndexFunc_impl_Prefix_impl_Prefix.l0 k l0 (l0.length : Int) 0) = some r := h
 clear h
 have H' := Aside0.mk H
 clear H
 go_enter Try.func102, Try.ntmps102
 go_wp2
 go_loopg [8] k (fun kq v8 w' => ∃ (x8_1 : Int), v8 = .int .i64 x8_1 ∧ Aside0 (slices_IndexFunc_impl_Prefix_impl_Prefix.l0 kq l0 (l0.length : Int) x8_1 = some r) ∧ Aside0 (kq ≤ k) ∧ Aside0 (Below w.heap.size w w'))
 case atStart => exact ⟨(0), (by first | rfl | (simp; done) | (simp [*]; done)), H', ⟨Nat.le_refl _⟩, ⟨by repeat (first | (with_reducible first | exact HB.out | apply below_alloc | apply pw_below_drewN | apply below_drew1) | exact HB.out)⟩⟩
 case round =>
  clear H'
  try clear c1
  try clear p2
  obtain ⟨x8_1, rfl, HA, HK1, HB⟩ := hrel
  cases gk with
  | zero => exact absurd HA.out (by simp [slices_IndexFunc_impl_Prefix_impl_Prefix.l0])
  | succ k1 =>
   have H := HA.out
   clear HA
   simp only [slices_IndexFunc_impl_Prefix_impl_Prefix.l0] at H
   by_cases c3 : x8_1 < (l0.length : Int)
   rotate_left
   ·rw [if_neg c3] at H
    have c3b0 : decide (x8_1 < (l0.length : Int)) = false := decide_eq_false c3
    clear c3
    obtain rfl := Option.some.inj H
    go_wp2
    go_ret
    exact ⟨by first | rfl | (simp [errW_none, errW_some] <;> rfl) | (simp [*, errW_none, errW_some] <;> rfl), by repeat (first | (with_reducible first | exact HB.out | apply below_alloc | apply pw_below_drewN | apply below_drew1) | exact HB.out)⟩
   rw [if_pos c3] at H
   have c3b0 : decide (x8_1 < (l0.length : Int)) = true := decide_eq_true c3
   clear c3
   by_cases c4 : 0 ≤ x8_1
   rotate_left
   ·rw [if_neg c4] at H
    exact absurd H (by simp)
   rw [if_pos c4] at H
   have c4b0 : decide (0 ≤ x8_1) = true := decide_eq_true c4
   clear c4
   by_cases c5 : x8_1 < (l0.length : Int)
   rotate_left
   ·rw [if_neg c5] at H
    exact absurd H (by simp)
   rw [if_pos c5] at H
   have c5b0 : decide (x8_1 < (l0.length : Int)) = true := decide_eq_true c5
   clear c5
   replace H := Option.bind_eq_some_iff.mp H
   obtain ⟨t110, A60, H⟩ := H
   have A6 := Aside0.mk A60
   clear A60
   by_cases c7 : t110 = true
   ·subst c7
    rw [if_pos rfl] at H
    obtain rfl := Option.some.inj H
    have p109 : 0 ≤ (x8_1 : Int) := of_decide_eq_true (by first | (with_reducible assumption) | assumption)
    have q109 : x8_1 < (l0.length : Int) := of_decide_eq_true (by first | (with_reducible assumption) | assumption)
    obtain ⟨ad109, e109, hx109_0, hx109_1⟩ := at_T28 HR0.out x8_1 p109 q109
    cases e109
    replace hx109_0 := (HB.out.cell (World.block_lt_of_cell? w _ hx109_0)).trans hx109_0
    replace hx109_1 := (HB.out.cell (World.block_lt_of_cell? w _ hx109_1)).trans hx109_1
    replace p109 := eq_true p109
    replace q109 := eq_true q109
    go_wp2_with (first | ((with_reducible refine gate_dst (N := 16) rfl ?_); refine goesT_ (some 16) rfl rfl Try.func73 (by kernel_rfl) rfl #[.agg #[.int .i64 ((rd_T28 l0 x8_1).f0), .int .i64 ((rd_T28 l0 x8_1).f1)]] rfl (by (try simp only [List.map_toArray, List.map_cons, List.map_nil]); first | done | rfl | (simp only [List.length_drop, List.length_take]; rfl)) ?_; (with_reducible refine (impl_Aggregate_1.calls ((rd_T28 l0 x8_1).f0) ((rd_T28 l0 x8_1).f1) true _ A6.out).mono ?_); rintro e w8 ⟨rfl, hb⟩; refine ⟨_, rfl, ?_⟩; replace HB := Aside0.mk (bt_ HB hb); (try clear hb); (try clear hb2); (try clear hk); (try clear hi)))
    go_ret
    exact ⟨by first | rfl | (simp [errW_none, errW_some] <;> rfl) | (simp [*, errW_none, errW_some] <;> rfl), by repeat (first | (with_reducible first | exact HB.out | apply below_alloc | apply pw_below_drewN | apply below_drew1) | exact HB.out)⟩
   replace c7 := Bool.eq_false_iff.mpr c7
   subst c7
   rw [if_neg (show ¬ (false = true) by decide)] at H
   have H' := Aside0.mk H
   clear H
   have p109 : 0 ≤ (x8_1 : Int) := of_decide_eq_true (by first | (with_reducible assumption) | assumption)
   have q109 : x8_1 < (l0.length : Int) := of_decide_eq_true (by first | (with_reducible assumption) | assumption)
   obtain ⟨ad109, e109, hx109_0, hx109_1⟩ := at_T28 HR0.out x8_1 p109 q109
   cases e109
   replace hx109_0 := (HB.out.cell (World.block_lt_of_cell? w _ hx109_0)).trans hx109_0
   replace hx109_1 := (HB.out.cell (World.block_lt_of_cell? w _ hx109_1)).trans hx109_1
   replace p109 := eq_true p109
   replace q109 := eq_true q109
   go_wp2_with (first | ((with_reducible refine gate_dst (N := 16) rfl ?_); refine goesT_ (some 16) rfl rfl Try.func73 (by kernel_rfl) rfl #[.agg #[.int .i64 ((rd_T28 l0 x8_1).f0), .int .i64 ((rd_T28 l0 x8_1).f1)]] rfl (by (try simp only [List.map_toArray, List.map_cons, List.map_nil]); first | done | rfl | (simp only [List.length_drop, List.length_take]; rfl)) ?_; (with_reducible refine (impl_Aggregate_1.calls ((rd_T28 l0 x8_1).f0) ((rd_T28 l0 x8_1).f1) false _ A6.out).mono ?_); rintro e w9 ⟨rfl, hb⟩; refine ⟨_, rfl, ?_⟩; replace HB := Aside0.mk (bt_ HB hb); (try clear hb); (try clear hb2); (try clear hk); (try clear hi)))
   go_roundg k1
   case measure => have := HK1.out; omega
   case rel => exact ⟨(wrap64 (x8_1 + 1)), (by first | rfl | (simp; done) | (simp [*]; done)), H', ⟨by have := HK1.out; omega⟩, ⟨by repeat (first | (with_reducible first | exact HB.out | apply below_alloc | apply pw_below_drewN | apply below_drew1) | exact HB.out)⟩⟩

/-! ### slices_ContainsFunc_impl_Prefix_impl_Prefix: function 72 -/
def slices_ContainsFunc_impl_Prefix_impl_Prefix.f (k : Nat) (l0 : List (S28))  : Option (Bool) := (slices_IndexFunc_impl_Prefix_impl_Prefix.f k l0).bind fun t111 => (some (decide (t111 ≥ 0)))
theorem slices_ContainsFunc_impl_Prefix_impl_Prefix.mono : ∀ a0 k, LeO (slices_ContainsFunc_impl_Prefix_impl_Prefix.f k a0) (slices_ContainsFunc_impl_Prefix_impl_Prefix.f (k + 1) a0) := by
 intro a0 k
 unfold slices_ContainsFunc_impl_Prefix_impl_Prefix.f
 repeat' first
   | (with_reducible exact slices_IndexFunc_impl_Prefix_impl_Prefix.mono _ _)
   | (with_reducible exact LeO.refl _)
   | (with_reducible exact LeO.none _)
   | (with_reducible refine LeO.ite ?_ ?_)
   | (with_reducible refine LeO.bind ?_ (fun _ => ?_))
   | exact slices_IndexFunc_impl_Prefix_impl_Prefix.mono _ _
   | exact LeO.none _
   | refine LeO.ite ?_ ?_
   | refine LeO.bind ?_ (fun _ => ?_)
set_option maxHeartbeats 8000000 in
set_option maxRecDepth 100000 in
theorem slices_ContainsFunc_impl_Prefix_impl_Prefix.calls (k : Nat) (A0 : Option Addr) (c0 : Nat) (l0 : List (S28))  (r : Bool) (w : World) (hr0 : Kd.C k28 w A0 l0.length l0) (hc0 : l0.length ≤ c0) (h : slices_ContainsFunc_impl_Prefix_impl_Prefix.f k l0 = some r) :
  Calls Try.prog 72 #[.slice A0 l0.length c0, .func (.func 73) #[] #[]] w fun e w' => e = .returned (.bool r) ∧ Below w.heap.size w w' := by
 have HR0 := Aside0.mk hr0
 have HC0 := Aside0.mk hc0
 clear hr0 hc0
 have HB := Aside0.mk (Below.refl w.heap.size w)
 have H : ((slices_IndexFunc_impl_Prefix_impl_Prefix.f k l0).bind fun t111 => (some (decide (t111 ≥ 0)))) = some r := h
 clear h
 replace H := Option.bind_eq_some_iff.mp H
 obtain ⟨t111, A30, H⟩ := H
 have A3 := Aside0.mk A30
 clear A30
 obtain rfl := Option.some.inj H
 go_enter Try.func72, Try.ntmps72
 go_wp2_with (first | ((with_reducible refine gate_callee (f := 102) rfl ?_); refine gl_ (some 7) Try.func102 #[.slice A0 l0.length c0, .func (.func 73) #[] #[]] ?_; (with_reducible refine (slices_IndexFunc_impl_Prefix_impl_Prefix.calls k _ _ l0  t111 _ ?side1 ?side2 A3.out).mono ?_); (case side1 => repeat (first | exact HR0.out | (with_reducible refine Kd.C_alloc ?_ _) | (with_reducible refine Kd.C_drewN ?_ _) | (with_reducible refine Kd.C_drew ?_))); (case side2 => exact HC0.out); rintro e w4 ⟨rfl, hb⟩; refine ⟨_, rfl, ?_⟩; replace HB := Aside0.mk (bt_ HB hb); (try clear hb); (try clear hb2); (try clear hk); (try clear hi)))
 go_ret
 exact ⟨by first | rfl | (simp [errW_none, errW_some] <;> rfl) | (simp [*, errW_none, errW_some] <;> rfl), by repeat (first | (with_reducible first | exact HB.out | apply below_alloc | apply pw_below_drewN | apply below_drew1) | exact HB.out)⟩

/-! ### slices_Clone_impl_Prefix_impl_Prefix: function 75 -/
theorem nilq51 (w : World) (a : Option Addr) (n c n' c' : Nat) : (binOp .eql 51 (.slice a n c) (.slice none n' c')).run Try.prog w = .ok (.bool a.isNone) w := Lib.run_eql_slice_nil w _ _ a n c n' c' Try.underlying51
attribute [local go_sem] nilq51
def slices_Clone_impl_Prefix_impl_Prefix.f (l0 : List S28) : Option (List S28) := if l0.length ≤ 1048576 then some l0 else none
set_option maxHeartbeats 1000000 in
set_option maxRecDepth 100000 in
theorem slices_Clone_impl_Prefix_impl_Prefix.calls (A0 : Option Addr) (c0 : Nat) (l0 : List S28) (r : List S28) (w : World) (hr0 : Kd.C k28 w A0 l0.length l0) (hc0 : l0.length ≤ c0) (h : slices_Clone_impl_Prefix_impl_Prefix.f l0 = some r) :
  Calls Try.prog 75 #[.slice A0 l0.length c0] w fun e w' => ∃ v0_ : Value, e = .returned (v0_) ∧ Kd.R k28 28 w' w.heap.size (fun _ => True) v0_ r ∧ Below w.heap.size w w' := by
 unfold slices_Clone_impl_Prefix_impl_Prefix.f at h
 by_cases hl : l0.length ≤ 1048576
 rotate_left
 ·rw [if_neg hl] at h; cases h
 rw [if_pos hl] at h
 obtain rfl := Option.some.inj h
 have HB := Aside0.mk (Below.refl w.heap.size w)
 rcases A0 with _ | ad
 ·have h0 : l0.length = 0 := by
   rcases Nat.eq_zero_or_pos l0.length with h0 | h0
   ·exact h0
   ·obtain ⟨ad, c, e, _⟩ := Kd.C_get hr0 z28 0 (by omega) (by omega)
    cases e
  obtain rfl : l0 = [] := List.eq_nil_of_length_eq_zero h0
  go_enter Try.func75, Try.ntmps75
  go_wp2
  go_ret
  exact ⟨_, rfl, Kd.R_nil _ _ _ _ _, HB.out⟩
 ·have HR0 := Aside0.mk hr0
  go_enter Try.func75, Try.ntmps75
  go_wp2_with (first | ((with_reducible refine gate_dst (N := 5) rfl ?_); refine Kd.R_lit k28 (w0 := w) w.heap.size 28 ?hg (N := 5) ?hd (xs := ([] : List S28)) (inner := []) (ok := fun _ => True) (okp := fun _ => True) ?hr ?hp (fun _ hk => hk) trivial (Below.refl _ _) (Nat.le_refl _) (by simp) ?_; (case hd => rfl); (case hg => rfl); (case hr => first | (go_simp; done) | (go_simp; rfl)); (case hp => exact (Reps.none _ _)); intro v1 w1 ho1 hb1 hg_ hnew_; clear hg_ hnew_; have HO1 := Aside0.mk ho1; have HB1 := Aside0.mk hb1; clear ho1 hb1 HB) | ((with_reducible refine gate_builtin (b := .append) (xs := #[.tmp 5, .tmp 6]) rfl ?_); at_builtin; refine Kd.R_append_rows k28 (w0 := w) w.heap.size rfl (.tmp 5) (.tmp 6) 51 28 (.agg #[(.int .i64 0), (.int .i64 0)]) 16 rfl Try.underlying51 info28 rfl (by decide) (by omega) v1 [] l0 _ _ _ (fun _ => True) (fun _ => False) rfl rfl ?aO ?aR (fun _ _ h => h) (fun _ h => h.elim) ?aF ?aB ?aS ?aL ?_; (case aR => exact Kd.C_below HR0.out HB1.out); (case aB => exact HB1.out); (case aF => exact (fun _ _ => trivial)); (case aO => exact HO1.out); (case aS => exact below_size HB1.out); (case aL => simp; omega); intro v2 w2 ho2 hb2 hg hat; have HO2 := Aside0.mk ho2; have HB2 := Aside0.mk hb2; clear ho2 hb2 hg hat))
  go_ret
  exact ⟨_, rfl, HO2.out, HB2.out⟩

end Go.Proofs.Ytjepmdngbafonaa.QFnAggregate
