/- Contracts of functions that the law reaches: what each call returns and what it leaves in memory. Made by this session over the print of the kit. -/
import Derived.Test.YtjepmdngbafonaaQFnRoutesx0
import Derived.Test.YtjepmdngbafonaaQFnRoutesx2
import Derived.Test.YtjepmdngbafonaaQFnRoutesx10
namespace Go.Proofs.Ytjepmdngbafonaa.QFnRoutes
open Go.RowKit Go.Proofs.YtjepmdngbafonaaR.PrintWords Go.Proofs.YtjepmdngbafonaaR.PrintLast Go.Proofs.YtjepmdngbafonaaR.PrintMore
attribute [local go_sem] max2_int min2_int max_two min_two max_three min_three max_four min_four   -- for this text's walks alone
set_option linter.unusedVariables false
set_option linter.unusedSimpArgs false
def ba11_0 : Array Bool := bs_ 17 0
def ba11_1 : Array Bool := bs_ 17 1
def ba11_2 : Array Bool := bs_ 17 3
def ba11_3 : Array Bool := bs_ 17 7
def ba11_4 : Array Bool := bs_ 17 15
def ba11_5 : Array Bool := bs_ 17 31
def ba11_6 : Array Bool := bs_ 17 63
def ba11_7 : Array Bool := bs_ 17 127
def ba11_8 : Array Bool := bs_ 17 255
def ba11_9 : Array Bool := bs_ 17 511
def ba11_10 : Array Bool := bs_ 17 1023
def ba11_11 : Array Bool := bs_ 17 2047
def ba11_12 : Array Bool := bs_ 17 4095
def ba11_13 : Array Bool := bs_ 17 8191
def ba11_14 : Array Bool := bs_ 17 16383
def ba11_15 : Array Bool := bs_ 17 32767
def ba11_16 : Array Bool := bs_ 17 65535
def ba11_17 : Array Bool := bs_ 17 131071

/-! ### impl_PrefixOk: function 74 -/
def impl_PrefixOk.f (a0_0 : Int) (a0_1 : Int) : Option (Bool) := (impl_within.f a0_1 0 16).bind fun t387 => (if t387 = true then ((impl_isAddr.f a0_0).bind fun t388 => (if t388 = true then ((impl_Prefix_size.f a0_0 a0_1).bind fun t389 => (if t389 = 0 then (none) else (some ((Int.tmod a0_0 t389) == 0)))) else (some false))) else (some false))
def impl_PrefixOk.T1 : Bool × List (List Nat × List Nat) := (true, [([], []), ([0], [0]), ([1], [1]), ([2, 2], [2]), ([3], [3]), ([4, 3], [3, 4]), ([5, 3, 3], [3, 5]), ([3, 6], [3, 6]), ([7, 6], [7]), ([8], [8]), ([9, 8], [8, 9]), ([8], [8]), ([11, 8, 8], [8, 11]), ([10, 12, 8], [8, 10, 12]), ([13, 8], [8, 13]), ([8, 14], [8, 14]), ([15, 12, 0, 1, 2, 3, 4, 5, 6, 7, 8, 9, 10, 11, 12, 13, 14, 15], [15])])
def impl_PrefixOk.B1 : List Nat := [0, 1, 3, 7, 15, 31, 63, 127, 255, 511, 1023, 511, 2559, 8191, 16383, 32767, 65535]
theorem impl_PrefixOk.tab1 : rtab .any (opsOf Try.f74 1) = impl_PrefixOk.T1 := by kernel_rfl
theorem impl_PrefixOk.bits1 : waitsOk impl_PrefixOk.T1.2 impl_PrefixOk.B1 = true := by kernel_rfl
set_option maxHeartbeats 8000000 in
set_option maxRecDepth 100000 in
theorem impl_PrefixOk.calls (a0_0 : Int) (a0_1 : Int) (r : Bool) (w : World) (h : impl_PrefixOk.f a0_0 a0_1 = some r) :
  Calls Try.prog 74 #[.agg #[.int .i64 a0_0, .int .i64 a0_1]] w fun e w' => e = .returned (.bool r) ∧ Below w.heap.size w w' := by
 have hu28 := Try.underlying28
 have HB := Aside0.mk (Below.refl w.heap.size w)
 have H : ((impl_within.f a0_1 0 16).bind fun t387 => (if t387 = true then ((impl_isAddr.f a0_0).bind fun t388 => (if t388 = true then ((impl_Prefix_size.f a0_0 a0_1).bind fun t389 => (if t389 = 0 then (none) else (some ((Int.tmod a0_0 t389) == 0)))) else (some false))) else (some false))) = some r := h
 clear h
 replace H := Option.bind_eq_some_iff.mp H
 obtain ⟨t387, A20, H⟩ := H
 have A2 := Aside0.mk A20
 clear A20
 by_cases c3 : t387 = true
 rotate_left
 ·replace c3 := Bool.eq_false_iff.mpr c3
  subst c3
  rw [if_neg (show ¬ (false = true) by decide)] at H
  obtain rfl := Option.some.inj H
  go_enter Try.func74, Try.ntmps74
  try go_wp2_with ((with_reducible refine gate_dst (N := 1) rfl ?_); refine box_event ?hg (N := 1) ?hd (cs := #[.int .i64 a0_0, .int .i64 a0_1]) (t := 28) ?hr ?_; (case hd => rfl); (case hg => rfl); (case hr => first | (go_simp; done) | (go_simp; rfl)); intro gb386 hg w13 hbox hb; have BK386 := Aside0.mk hbox; have GW386 := ge_ HB hg; have GE386 := ge_ HB hg; replace HB := at_ HB hb; clear hb hbox hg)
  replace BK386 := ad_ BK386
  replace HB := Aside0.mk (below_drew1 HB.out)
  refine start_ (n := 17) (S := fun w' => w'.cell? ⟨gb386, 0, none⟩ = some (.int .i64 a0_0) ∧ w'.cell? ⟨gb386, 1, none⟩ = some (.int .i64 a0_1)) (ds := []) ba11_0 (by kernel_rfl) rfl rfl ⟨(blk_cell BK386.out 0).trans rfl, (blk_cell BK386.out 1).trans rfl⟩ (fun hHeld => ?_); refine with_tabW impl_PrefixOk.tab1 impl_PrefixOk.bits1 (fun HT_ HW_ => ?_)
  generalize w13.drew = w14 at BK386 HB hHeld ⊢
  refine pz_ 0 3 ba11_1 HT_ ?_
  refine pt_ 1 4 ba11_2 HT_ HW_ hHeld ?_
  refine one_ (i := 2) (N := some 5) ba11_3 rfl rfl (one_of HT_.out (by kernel_rfl)) (by decide) (fun K hK => ?_)
  refine gz_ Try.func88 #[.int .i64 a0_1, .int .i64 0, .int .i64 16] ?_
  with_reducible refine (impl_within.calls a0_1 0 16 false _ A2.out).mono ?_
  rintro e w' ⟨rfl, ⟨nd, rfl⟩⟩
  refine ⟨_, rfl, ?_⟩
  refine hK.out _ _ ⟨(blk_cell BK386.out 0).trans rfl, (blk_cell BK386.out 1).trans rfl⟩ (fun hHeld => ?_)
  clear hK K
  refine nz_ 5 ?_
  refine pz_ 3 6 ba11_4 HT_ ?_
  refine pu_ 4 7 ba11_5 HT_ ?_
  refine pu_ 5 8 ba11_6 HT_ ?_
  refine pu_ 6 9 ba11_7 HT_ ?_
  refine pz_ 7 10 ba11_8 HT_ ?_
  refine pz_ 8 11 ba11_9 HT_ ?_
  refine pu_ 9 12 ba11_10 HT_ ?_
  refine pu_ 10 13 ba11_11 HT_ ?_
  refine pu_ 11 14 ba11_12 HT_ ?_
  refine pu_ 12 15 ba11_13 HT_ ?_
  refine pu_ 13 16 ba11_14 HT_ ?_
  refine pu_ 14 17 ba11_15 HT_ ?_
  refine pz_ 15 18 ba11_16 HT_ ?_
  refine pz_ 16 2 ba11_17 HT_ ?_
  refine done_ (done_of HT_.out (by kernel_rfl)) ?_
  try go_wp2
  go_ret
  exact ⟨by first | rfl | (simp [errW_none, errW_some] <;> rfl) | (simp [*, errW_none, errW_some] <;> rfl), bw112_⟩
 subst c3
 rw [if_pos rfl] at H
 replace H := Option.bind_eq_some_iff.mp H
 obtain ⟨t388, A40, H⟩ := H
 have A4 := Aside0.mk A40
 clear A40
 by_cases c5 : t388 = true
 rotate_left
 ·replace c5 := Bool.eq_false_iff.mpr c5
  subst c5
  rw [if_neg (show ¬ (false = true) by decide)] at H
  obtain rfl := Option.some.inj H
  go_enter Try.func74, Try.ntmps74
  try go_wp2_with ((with_reducible refine gate_dst (N := 1) rfl ?_); refine box_event ?hg (N := 1) ?hd (cs := #[.int .i64 a0_0, .int .i64 a0_1]) (t := 28) ?hr ?_; (case hd => rfl); (case hg => rfl); (case hr => first | (go_simp; done) | (go_simp; rfl)); intro gb386 hg w11 hbox hb; have BK386 := Aside0.mk hbox; have GW386 := ge_ HB hg; have GE386 := ge_ HB hg; replace HB := at_ HB hb; clear hb hbox hg)
  replace BK386 := ad_ BK386
  replace HB := Aside0.mk (below_drew1 HB.out)
  refine start_ (n := 17) (S := fun w' => w'.cell? ⟨gb386, 0, none⟩ = some (.int .i64 a0_0) ∧ w'.cell? ⟨gb386, 1, none⟩ = some (.int .i64 a0_1)) (ds := []) ba11_0 (by kernel_rfl) rfl rfl ⟨(blk_cell BK386.out 0).trans rfl, (blk_cell BK386.out 1).trans rfl⟩ (fun hHeld => ?_); refine with_tabW impl_PrefixOk.tab1 impl_PrefixOk.bits1 (fun HT_ HW_ => ?_)
  generalize w11.drew = w12 at BK386 HB hHeld ⊢
  refine pz_ 0 3 ba11_1 HT_ ?_
  refine pt_ 1 4 ba11_2 HT_ HW_ hHeld ?_
  refine one_ (i := 2) (N := some 5) ba11_3 rfl rfl (one_of HT_.out (by kernel_rfl)) (by decide) (fun K hK => ?_)
  refine gz_ Try.func88 #[.int .i64 a0_1, .int .i64 0, .int .i64 16] ?_
  with_reducible refine (impl_within.calls a0_1 0 16 true _ A2.out).mono ?_
  rintro e w' ⟨rfl, ⟨nd, rfl⟩⟩
  refine ⟨_, rfl, ?_⟩
  refine hK.out _ _ ⟨(blk_cell BK386.out 0).trans rfl, (blk_cell BK386.out 1).trans rfl⟩ (fun hHeld => ?_)
  clear hK K
  refine nz_ 5 ?_
  refine pz_ 3 6 ba11_4 HT_ ?_
  refine pz_ 4 7 ba11_5 HT_ ?_
  refine pt_ 5 8 ba11_6 HT_ HW_ hHeld ?_
  refine one_ (i := 6) (N := some 9) ba11_7 rfl rfl (one_of HT_.out (by kernel_rfl)) (by decide) (fun K hK => ?_)
  refine gz_ Try.func84 #[.int .i64 a0_0] ?_
  with_reducible refine (impl_isAddr.calls a0_0 false _ A4.out).mono ?_
  rintro e w' ⟨rfl, ⟨nd, rfl⟩⟩
  refine ⟨_, rfl, ?_⟩
  refine hK.out _ _ ⟨(blk_cell BK386.out 0).trans rfl, (blk_cell BK386.out 1).trans rfl⟩ (fun hHeld => ?_)
  clear hK K
  refine nz_ 9 ?_
  refine pz_ 7 10 ba11_8 HT_ ?_
  refine pz_ 8 11 ba11_9 HT_ ?_
  refine pu_ 9 12 ba11_10 HT_ ?_
  refine pu_ 10 13 ba11_11 HT_ ?_
  refine pu_ 11 14 ba11_12 HT_ ?_
  refine pu_ 12 15 ba11_13 HT_ ?_
  refine pu_ 13 16 ba11_14 HT_ ?_
  refine pu_ 14 17 ba11_15 HT_ ?_
  refine pz_ 15 18 ba11_16 HT_ ?_
  refine pz_ 16 2 ba11_17 HT_ ?_
  refine done_ (done_of HT_.out (by kernel_rfl)) ?_
  try go_wp2
  go_ret
  exact ⟨by first | rfl | (simp [errW_none, errW_some] <;> rfl) | (simp [*, errW_none, errW_some] <;> rfl), bw112_⟩
 subst c5
 rw [if_pos rfl] at H
 replace H := Option.bind_eq_some_iff.mp H
 obtain ⟨t389, A60, H⟩ := H
 have A6 := Aside0.mk A60
 clear A60
 by_cases c7 : t389 = 0
 ·rw [if_pos c7] at H
  exact absurd H (by simp)
 rw [if_neg c7] at H
 have c7b0 : (t389 == 0) = false := beq_eq_false_iff_ne.mpr c7
 have c7b1 : (t389 != 0) = true := bne_iff_ne.mpr c7
 obtain rfl := Option.some.inj H
 go_enter Try.func74, Try.ntmps74
 try go_wp2_with ((with_reducible refine gate_dst (N := 1) rfl ?_); refine box_event ?hg (N := 1) ?hd (cs := #[.int .i64 a0_0, .int .i64 a0_1]) (t := 28) ?hr ?_; (case hd => rfl); (case hg => rfl); (case hr => first | (go_simp; done) | (go_simp; rfl)); intro gb386 hg w8 hbox hb; have BK386 := Aside0.mk hbox; have GW386 := ge_ HB hg; have GE386 := ge_ HB hg; replace HB := at_ HB hb; clear hb hbox hg)
 replace BK386 := ad_ BK386
 replace HB := Aside0.mk (below_drew1 HB.out)
 refine start_ (n := 17) (S := fun w' => w'.cell? ⟨gb386, 0, none⟩ = some (.int .i64 a0_0) ∧ w'.cell? ⟨gb386, 1, none⟩ = some (.int .i64 a0_1)) (ds := []) ba11_0 (by kernel_rfl) rfl rfl ⟨(blk_cell BK386.out 0).trans rfl, (blk_cell BK386.out 1).trans rfl⟩ (fun hHeld => ?_); refine with_tabW impl_PrefixOk.tab1 impl_PrefixOk.bits1 (fun HT_ HW_ => ?_)
 generalize w8.drew = w9 at BK386 HB hHeld ⊢
 refine pz_ 0 3 ba11_1 HT_ ?_
 refine pt_ 1 4 ba11_2 HT_ HW_ hHeld ?_
 refine one_ (i := 2) (N := some 5) ba11_3 rfl rfl (one_of HT_.out (by kernel_rfl)) (by decide) (fun K hK => ?_)
 refine gz_ Try.func88 #[.int .i64 a0_1, .int .i64 0, .int .i64 16] ?_
 with_reducible refine (impl_within.calls a0_1 0 16 true _ A2.out).mono ?_
 rintro e w' ⟨rfl, ⟨nd, rfl⟩⟩
 refine ⟨_, rfl, ?_⟩
 refine hK.out _ _ ⟨(blk_cell BK386.out 0).trans rfl, (blk_cell BK386.out 1).trans rfl⟩ (fun hHeld => ?_)
 clear hK K
 refine nz_ 5 ?_
 refine pz_ 3 6 ba11_4 HT_ ?_
 refine pz_ 4 7 ba11_5 HT_ ?_
 refine pt_ 5 8 ba11_6 HT_ HW_ hHeld ?_
 refine one_ (i := 6) (N := some 9) ba11_7 rfl rfl (one_of HT_.out (by kernel_rfl)) (by decide) (fun K hK => ?_)
 refine gz_ Try.func84 #[.int .i64 a0_0] ?_
 with_reducible refine (impl_isAddr.calls a0_0 true _ A4.out).mono ?_
 rintro e w' ⟨rfl, ⟨nd, rfl⟩⟩
 refine ⟨_, rfl, ?_⟩
 refine hK.out _ _ ⟨(blk_cell BK386.out 0).trans rfl, (blk_cell BK386.out 1).trans rfl⟩ (fun hHeld => ?_)
 clear hK K
 refine nz_ 9 ?_
 refine pz_ 7 10 ba11_8 HT_ ?_
 refine pz_ 8 11 ba11_9 HT_ ?_
 refine pz_ 9 12 ba11_10 HT_ ?_
 refine pt_ 10 13 ba11_11 HT_ HW_ hHeld ?_
 refine pt_ 11 14 ba11_12 HT_ HW_ hHeld ?_
 refine one_ (i := 12) (N := some 15) ba11_13 rfl rfl (one_of HT_.out (by kernel_rfl)) (by decide) (fun K hK => ?_)
 refine gz_ Try.func69 #[.agg #[.int .i64 a0_0, .int .i64 a0_1]] ?_
 with_reducible refine (impl_Prefix_size.calls a0_0 a0_1 t389 _ A6.out).mono ?_
 rintro e w10 ⟨rfl, hb⟩
 refine ⟨_, rfl, ?_⟩
 replace BK386 := ab_ BK386 hb
 replace HB := at_ HB hb
 (try clear hb)
 (try clear hb2)
 (try clear hk)
 (try clear hi)
 refine hK.out _ _ ⟨(blk_cell BK386.out 0).trans rfl, (blk_cell BK386.out 1).trans rfl⟩ (fun hHeld => ?_)
 clear hK K
 refine nz_ 15 ?_
 refine pz_ 13 16 ba11_14 HT_ ?_
 refine pz_ 14 17 ba11_15 HT_ ?_
 refine pz_ 15 18 ba11_16 HT_ ?_
 refine pz_ 16 2 ba11_17 HT_ ?_
 refine done_ (done_of HT_.out (by kernel_rfl)) ?_
 try go_wp2
 go_ret
 exact ⟨by first | rfl | (simp [errW_none, errW_some] <;> rfl) | (simp [*, errW_none, errW_some] <;> rfl), bw112_⟩

/-! ### impl_isRoute: function 49 -/
def impl_isRoute.f (a0_0 : Int) (a0_1 : Int) (a0_2 : Int) : Option (Bool) := (impl_PrefixOk.f a0_0 a0_1).bind fun t391 => (if t391 = true then ((impl_within.f a0_2 0 999).bind fun t392 => (some t392)) else (some false))
set_option maxHeartbeats 8000000 in
set_option maxRecDepth 100000 in
theorem impl_isRoute.calls (a0_0 : Int) (a0_1 : Int) (a0_2 : Int) (r : Bool) (w : World) (h : impl_isRoute.f a0_0 a0_1 a0_2 = some r) :
  Calls Try.prog 49 #[.agg #[.int .i64 a0_0, .int .i64 a0_1, .int .i64 a0_2]] w fun e w' => e = .returned (.bool r) ∧ Below w.heap.size w w' := by
 have hu30 := Try.underlying30
 have hu28 := Try.underlying28
 have HB := Aside0.mk (Below.refl w.heap.size w)
 have H : ((impl_PrefixOk.f a0_0 a0_1).bind fun t391 => (if t391 = true then ((impl_within.f a0_2 0 999).bind fun t392 => (some t392)) else (some false))) = some r := h
 clear h
 replace H := Option.bind_eq_some_iff.mp H
 obtain ⟨t391, A20, H⟩ := H
 have A2 := Aside0.mk A20
 clear A20
 by_cases c3 : t391 = true
 rotate_left
 ·replace c3 := Bool.eq_false_iff.mpr c3
  subst c3
  rw [if_neg (show ¬ (false = true) by decide)] at H
  obtain rfl := Option.some.inj H
  go_enter Try.func49, Try.ntmps49
  go_wp2_with (first | ((with_reducible refine gate_dst (N := 1) rfl ?_); refine box_event ?hg (N := 1) ?hd (cs := #[.int .i64 a0_0, .int .i64 a0_1, .int .i64 a0_2]) (t := 30) ?hr ?_; (case hd => rfl); (case hg => rfl); (case hr => first | (go_simp; done) | (go_simp; rfl)); intro gb390 hg w9 hbox hb; have BK390 := Aside0.mk hbox; have GW390 := ge_ HB hg; have GE390 := ge_ HB hg; replace HB := at_ HB hb; clear hb hbox hg; have hcz10_0 := cz_ BK390 0 (.int .i64 a0_0); have hcz10_1 := cz_ BK390 1 (.int .i64 a0_1); have hcz10_2 := cz_ BK390 2 (.int .i64 a0_2); have hfz10_0 := fz_ BK390 0; have hfz10_1 := fz_ BK390 1; have hfz10_2 := fz_ BK390 2) | ((with_reducible refine gate_callee (f := 74) rfl ?_); refine gl_ (some 5) Try.func74 #[.agg #[.int .i64 a0_0, .int .i64 a0_1]] ?_; (with_reducible refine (impl_PrefixOk.calls a0_0 a0_1 false _ A2.out).mono ?_); rintro e w11 ⟨rfl, hb⟩; refine ⟨_, rfl, ?_⟩; replace BK390 := ab_ BK390 hb; replace HB := at_ HB hb; (try clear hb); (try clear hb2); (try clear hk); (try clear hi)))
  go_ret
  exact ⟨by first | rfl | (simp [errW_none, errW_some] <;> rfl) | (simp [*, errW_none, errW_some] <;> rfl), bw112_⟩
 subst c3
 rw [if_pos rfl] at H
 replace H := Option.bind_eq_some_iff.mp H
 obtain ⟨t392, A40, H⟩ := H
 have A4 := Aside0.mk A40
 clear A40
 obtain rfl := Option.some.inj H
 go_enter Try.func49, Try.ntmps49
 go_wp2_with (first | ((with_reducible refine gate_dst (N := 1) rfl ?_); refine box_event ?hg (N := 1) ?hd (cs := #[.int .i64 a0_0, .int .i64 a0_1, .int .i64 a0_2]) (t := 30) ?hr ?_; (case hd => rfl); (case hg => rfl); (case hr => first | (go_simp; done) | (go_simp; rfl)); intro gb390 hg w5 hbox hb; have BK390 := Aside0.mk hbox; have GW390 := ge_ HB hg; have GE390 := ge_ HB hg; replace HB := at_ HB hb; clear hb hbox hg; have hcz6_0 := cz_ BK390 0 (.int .i64 a0_0); have hcz6_1 := cz_ BK390 1 (.int .i64 a0_1); have hcz6_2 := cz_ BK390 2 (.int .i64 a0_2); have hfz6_0 := fz_ BK390 0; have hfz6_1 := fz_ BK390 1; have hfz6_2 := fz_ BK390 2) | ((with_reducible refine gate_callee (f := 74) rfl ?_); refine gl_ (some 5) Try.func74 #[.agg #[.int .i64 a0_0, .int .i64 a0_1]] ?_; (with_reducible refine (impl_PrefixOk.calls a0_0 a0_1 true _ A2.out).mono ?_); rintro e w7 ⟨rfl, hb⟩; refine ⟨_, rfl, ?_⟩; replace BK390 := ab_ BK390 hb; replace HB := at_ HB hb; (try clear hb); (try clear hb2); (try clear hk); (try clear hi); have hcz8_0 := cz_ BK390 0 (.int .i64 a0_0); have hcz8_1 := cz_ BK390 1 (.int .i64 a0_1); have hcz8_2 := cz_ BK390 2 (.int .i64 a0_2); have hfz8_0 := fz_ BK390 0; have hfz8_1 := fz_ BK390 1; have hfz8_2 := fz_ BK390 2) | (go_at_call 88; (with_reducible refine (impl_within.calls a0_2 0 999 t392 _ A4.out).mono ?_); rintro e w' ⟨rfl, ⟨nd, rfl⟩⟩))
 go_ret
 exact ⟨by first | rfl | (simp [errW_none, errW_some] <;> rfl) | (simp [*, errW_none, errW_some] <;> rfl), bw112_⟩

/-! ### impl_comparePrefixes: function 77 -/
def impl_comparePrefixes.f (a0_0 : Int) (a0_1 : Int) (a1_0 : Int) (a1_1 : Int) : Option (Int) := if a0_0 = a1_0 then (some (wrap64 (a0_1 - a1_1))) else (some (wrap64 (a0_0 - a1_0)))
set_option maxHeartbeats 8000000 in
set_option maxRecDepth 100000 in
theorem impl_comparePrefixes.calls (a0_0 : Int) (a0_1 : Int) (a1_0 : Int) (a1_1 : Int) (r : Int) (w : World) (h : impl_comparePrefixes.f a0_0 a0_1 a1_0 a1_1 = some r) :
  Calls Try.prog 77 #[.agg #[.int .i64 a0_0, .int .i64 a0_1], .agg #[.int .i64 a1_0, .int .i64 a1_1]] w fun e w' => e = .returned (.int .i64 r) ∧ Below w.heap.size w w' := by
 have hu28 := Try.underlying28
 have HB := Aside0.mk (Below.refl w.heap.size w)
 have H : (if a0_0 = a1_0 then (some (wrap64 (a0_1 - a1_1))) else (some (wrap64 (a0_0 - a1_0)))) = some r := h
 clear h
 by_cases c3 : a0_0 = a1_0
 rotate_left
 ·rw [if_neg c3] at H
  have c3b0 : (a0_0 == a1_0) = false := beq_eq_false_iff_ne.mpr c3
  have c3b1 : (a0_0 != a1_0) = true := bne_iff_ne.mpr c3
  obtain rfl := Option.some.inj H
  go_enter Try.func77, Try.ntmps77
  go_wp2_with (first | ((with_reducible refine gate_dst (N := 2) rfl ?_); refine box_event ?hg (N := 2) ?hd (cs := #[.int .i64 a0_0, .int .i64 a0_1]) (t := 28) ?hr ?_; (case hd => rfl); (case hg => rfl); (case hr => first | (go_simp; done) | (go_simp; rfl)); intro gb393 hg w9 hbox hb; have BK393 := Aside0.mk hbox; have GW393 := ge_ HB hg; have GE393 := ge_ HB hg; replace HB := at_ HB hb; clear hb hbox hg) | ((with_reducible refine gate_dst (N := 3) rfl ?_); refine box_event ?hg (N := 3) ?hd (cs := #[.int .i64 a1_0, .int .i64 a1_1]) (t := 28) ?hr ?_; (case hd => rfl); (case hg => rfl); (case hr => first | (go_simp; done) | (go_simp; rfl)); intro gb394 hg w10 hbox hb; have BK394 := Aside0.mk hbox; have GW394 := ge_ HB hg; have GE394 := ge_ HB hg; have NB393_394 := nl_ BK393 hg; have NB394_393 := ng_ BK393 hg; replace HB := at_ HB hb; replace BK393 := ab_ BK393 hb; clear hb hbox hg; have hnb11 := NB393_394.out; have hnc11 := NB394_393.out; have hcz12_0 := cz_ BK393 0 (.int .i64 a0_0); have hcz12_1 := cz_ BK393 1 (.int .i64 a0_1); have hfz12_0 := fz_ BK393 0; have hfz12_1 := fz_ BK393 1; have hcz13_0 := cz_ BK394 0 (.int .i64 a1_0); have hcz13_1 := cz_ BK394 1 (.int .i64 a1_1); have hfz13_0 := fz_ BK394 0; have hfz13_1 := fz_ BK394 1))
  go_ret
  exact ⟨by first | rfl | (simp [errW_none, errW_some] <;> rfl) | (simp [*, errW_none, errW_some] <;> rfl), bw112_⟩
 rw [if_pos c3] at H
 have c3b0 : (a0_0 == a1_0) = true := beq_iff_eq.mpr c3
 have c3b1 : (a0_0 != a1_0) = false := bne_eq_false_iff_eq.mpr c3
 clear c3
 obtain rfl := Option.some.inj H
 go_enter Try.func77, Try.ntmps77
 go_wp2_with (first | ((with_reducible refine gate_dst (N := 2) rfl ?_); refine box_event ?hg (N := 2) ?hd (cs := #[.int .i64 a0_0, .int .i64 a0_1]) (t := 28) ?hr ?_; (case hd => rfl); (case hg => rfl); (case hr => first | (go_simp; done) | (go_simp; rfl)); intro gb393 hg w4 hbox hb; have BK393 := Aside0.mk hbox; have GW393 := ge_ HB hg; have GE393 := ge_ HB hg; replace HB := at_ HB hb; clear hb hbox hg) | ((with_reducible refine gate_dst (N := 3) rfl ?_); refine box_event ?hg (N := 3) ?hd (cs := #[.int .i64 a1_0, .int .i64 a1_1]) (t := 28) ?hr ?_; (case hd => rfl); (case hg => rfl); (case hr => first | (go_simp; done) | (go_simp; rfl)); intro gb394 hg w5 hbox hb; have BK394 := Aside0.mk hbox; have GW394 := ge_ HB hg; have GE394 := ge_ HB hg; have NB393_394 := nl_ BK393 hg; have NB394_393 := ng_ BK393 hg; replace HB := at_ HB hb; replace BK393 := ab_ BK393 hb; clear hb hbox hg; have hnb6 := NB393_394.out; have hnc6 := NB394_393.out; have hcz7_0 := cz_ BK393 0 (.int .i64 a0_0); have hcz7_1 := cz_ BK393 1 (.int .i64 a0_1); have hfz7_0 := fz_ BK393 0; have hfz7_1 := fz_ BK393 1; have hcz8_0 := cz_ BK394 0 (.int .i64 a1_0); have hcz8_1 := cz_ BK394 1 (.int .i64 a1_1); have hfz8_0 := fz_ BK394 0; have hfz8_1 := fz_ BK394 1))
 go_ret
 exact ⟨by first | rfl | (simp [errW_none, errW_some] <;> rfl) | (simp [*, errW_none, errW_some] <;> rfl), bw112_⟩

end Go.Proofs.Ytjepmdngbafonaa.QFnRoutes
