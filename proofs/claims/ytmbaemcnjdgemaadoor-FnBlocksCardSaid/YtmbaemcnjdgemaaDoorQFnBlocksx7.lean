/- Contracts of functions that the law reaches: what each call returns and what it leaves in memory. Made by this session over the print of the kit. -/
import Derived.Test.YtmbaemcnjdgemaaDoorQFnBlocksx0
import Derived.Test.YtmbaemcnjdgemaaDoorQFnBlocksx6
namespace Go.Proofs.YtmbaemcnjdgemaaDoor.QFnBlocks
open Go.RowKit Go.Proofs.YtmbaemcnjdgemaaDoorF.PrintWords Go.Proofs.YtmbaemcnjdgemaaDoorF.PrintLast Go.Proofs.YtmbaemcnjdgemaaDoorF.PrintMore
attribute [local go_sem] max2_int min2_int max_two min_two max_three min_three max_four min_four   -- for this text's walks alone
set_option linter.unusedVariables false
set_option linter.unusedSimpArgs false
def ba7_0 : Array Bool := #[false, false, false, false, false, false, false, false, false, false, false, false, false, false, false, false, false]
def ba7_1 : Array Bool := #[true, false, false, false, false, false, false, false, false, false, false, false, false, false, false, false, false]
def ba7_2 : Array Bool := #[true, true, false, false, false, false, false, false, false, false, false, false, false, false, false, false, false]
def ba7_3 : Array Bool := #[true, true, true, false, false, false, false, false, false, false, false, false, false, false, false, false, false]
def ba7_4 : Array Bool := #[true, true, true, true, false, false, false, false, false, false, false, false, false, false, false, false, false]
def ba7_5 : Array Bool := #[true, true, true, true, true, false, false, false, false, false, false, false, false, false, false, false, false]
def ba7_6 : Array Bool := #[true, true, true, true, true, true, false, false, false, false, false, false, false, false, false, false, false]
def ba7_7 : Array Bool := #[true, true, true, true, true, true, true, false, false, false, false, false, false, false, false, false, false]
def ba7_8 : Array Bool := #[true, true, true, true, true, true, true, true, false, false, false, false, false, false, false, false, false]
def ba7_9 : Array Bool := #[true, true, true, true, true, true, true, true, true, false, false, false, false, false, false, false, false]
def ba7_10 : Array Bool := #[true, true, true, true, true, true, true, true, true, true, false, false, false, false, false, false, false]
def ba7_11 : Array Bool := #[true, true, true, true, true, true, true, true, true, true, true, false, false, false, false, false, false]
def ba7_12 : Array Bool := #[true, true, true, true, true, true, true, true, true, true, true, true, false, false, false, false, false]
def ba7_13 : Array Bool := #[true, true, true, true, true, true, true, true, true, true, true, true, true, false, false, false, false]
def ba7_14 : Array Bool := #[true, true, true, true, true, true, true, true, true, true, true, true, true, true, false, false, false]
def ba7_15 : Array Bool := #[true, true, true, true, true, true, true, true, true, true, true, true, true, true, true, false, false]
def ba7_16 : Array Bool := #[true, true, true, true, true, true, true, true, true, true, true, true, true, true, true, true, false]
def ba7_17 : Array Bool := #[true, true, true, true, true, true, true, true, true, true, true, true, true, true, true, true, true]
def ba7_18 : Array Bool := #[false, false, false, false, false, false, false, false, false, false, false, false, false, false, false, false]
def ba7_19 : Array Bool := #[true, false, false, false, false, false, false, false, false, false, false, false, false, false, false, false]
def ba7_20 : Array Bool := #[true, false, false, false, false, true, false, false, false, false, false, false, false, false, false, false]
def ba7_21 : Array Bool := #[true, false, false, false, false, true, false, false, false, false, false, true, false, false, false, false]
def ba7_22 : Array Bool := #[true, true, false, false, false, true, false, false, false, false, false, true, false, false, false, false]
def ba7_23 : Array Bool := #[true, true, true, false, false, true, false, false, false, false, false, true, false, false, false, false]
def ba7_24 : Array Bool := #[true, true, true, false, false, true, true, false, false, false, false, true, false, false, false, false]
def ba7_25 : Array Bool := #[true, true, true, false, false, true, true, true, false, false, false, true, false, false, false, false]
def ba7_26 : Array Bool := #[true, true, true, false, false, true, true, true, false, false, false, true, true, false, false, false]
def ba7_27 : Array Bool := #[true, true, true, true, false, true, true, true, false, false, false, true, true, false, false, false]
def ba7_28 : Array Bool := #[true, true, true, true, true, true, true, true, false, false, false, true, true, false, false, false]
def ba7_29 : Array Bool := #[true, true, true, true, true, true, true, true, true, false, false, true, true, false, false, false]
def ba7_30 : Array Bool := #[true, true, true, true, true, true, true, true, true, true, false, true, true, false, false, false]
def ba7_31 : Array Bool := #[true, true, true, true, true, true, true, true, true, true, true, true, true, false, false, false]
def ba7_32 : Array Bool := #[true, true, true, true, true, true, true, true, true, true, true, true, true, true, false, false]
def ba7_33 : Array Bool := #[true, true, true, true, true, true, true, true, true, true, true, true, true, true, true, false]
def ba7_34 : Array Bool := #[true, true, true, true, true, true, true, true, true, true, true, true, true, true, true, true]

/-! ### impl_PrefixOk: function 32 -/
def impl_PrefixOk.f (a0_0 : Int) (a0_1 : Int) : Option (Bool) := (impl_within.f a0_1 0 16).bind fun t228 => (if t228 = true then ((impl_isAddr.f a0_0).bind fun t229 => (if t229 = true then ((impl_Prefix_size.f a0_0 a0_1).bind fun t230 => (if t230 = 0 then (none) else (some ((Int.tmod a0_0 t230) == 0)))) else (some false))) else (some false))
def impl_PrefixOk.T1 : Bool × List (List Nat × List Nat) := (true, [([], []), ([0], [0]), ([1], [1]), ([2, 2], [2]), ([3], [3]), ([4, 3], [3, 4]), ([5, 3, 3], [3, 5]), ([3, 6], [3, 6]), ([7, 6], [7]), ([8], [8]), ([9, 8], [8, 9]), ([8], [8]), ([11, 8, 8], [8, 11]), ([10, 12, 8], [8, 10, 12]), ([13, 8], [8, 13]), ([8, 14], [8, 14]), ([15, 12, 0, 1, 2, 3, 4, 5, 6, 7, 8, 9, 10, 11, 12, 13, 14, 15], [15])])
def impl_PrefixOk.B1 : List Nat := [0, 1, 3, 7, 15, 31, 63, 127, 255, 511, 1023, 511, 2559, 8191, 16383, 32767, 65535]
theorem impl_PrefixOk.tab1 : rtab .any (opsOf Tryd.f32 1) = impl_PrefixOk.T1 := by kernel_rfl
theorem impl_PrefixOk.bits1 : waitsOk impl_PrefixOk.T1.2 impl_PrefixOk.B1 = true := by kernel_rfl
set_option maxHeartbeats 8000000 in
set_option maxRecDepth 100000 in
theorem impl_PrefixOk.calls (a0_0 : Int) (a0_1 : Int) (r : Bool) (w : World) (h : impl_PrefixOk.f a0_0 a0_1 = some r) :
  Calls Tryd.prog 32 #[.agg #[.int .i64 a0_0, .int .i64 a0_1]] w fun e w' => e = .returned (.bool r) ∧ Below w.heap.size w w' := by
 have hu25 := Tryd.underlying25
 have HB := Aside0.mk (Below.refl w.heap.size w)
 have H : ((impl_within.f a0_1 0 16).bind fun t228 => (if t228 = true then ((impl_isAddr.f a0_0).bind fun t229 => (if t229 = true then ((impl_Prefix_size.f a0_0 a0_1).bind fun t230 => (if t230 = 0 then (none) else (some ((Int.tmod a0_0 t230) == 0)))) else (some false))) else (some false))) = some r := h
 clear h
 replace H := Option.bind_eq_some_iff.mp H
 obtain ⟨t228, A20, H⟩ := H
 have A2 := Aside0.mk A20
 clear A20
 by_cases c3 : t228 = true
 ·subst c3
  rw [if_pos rfl] at H
  replace H := Option.bind_eq_some_iff.mp H
  obtain ⟨t229, A40, H⟩ := H
  have A4 := Aside0.mk A40
  clear A40
  by_cases c5 : t229 = true
  ·subst c5
   rw [if_pos rfl] at H
   replace H := Option.bind_eq_some_iff.mp H
   obtain ⟨t230, A60, H⟩ := H
   have A6 := Aside0.mk A60
   clear A60
   by_cases c7 : t230 = 0
   ·rw [if_pos c7] at H
    exact absurd H (by simp)
   ·rw [if_neg c7] at H
    have c7b0 : (t230 == 0) = false := beq_eq_false_iff_ne.mpr c7
    have c7b1 : (t230 != 0) = true := bne_iff_ne.mpr c7
    obtain rfl := Option.some.inj H
    go_enter Tryd.func32, Tryd.ntmps32
    try go_wp2_with (first | ((with_reducible refine gate_dst (N := 1) rfl ?_); refine box_event ?hg (N := 1) ?hd (cs := #[.int .i64 a0_0, .int .i64 a0_1]) (t := 25) ?hr ?_; (case hd => rfl); (case hg => rfl); (case hr => first | (go_simp; done) | (go_simp; rfl)); intro gb227 hg w8 hbox hb; have BK227 := Aside0.mk hbox; have GW227 := ge_ HB hg; have GE227 := ge_ HB hg; replace HB := Aside0.mk (bt_ HB hb); clear hb hbox hg))
    replace BK227 := Aside0.mk (blk_drew BK227.out)
    replace HB := Aside0.mk (below_drew1 HB.out)
    refine start_ (n := 17) (S := fun w' => w'.cell? ⟨gb227, 0, none⟩ = some (.int .i64 a0_0) ∧ w'.cell? ⟨gb227, 1, none⟩ = some (.int .i64 a0_1)) (ds := []) ba7_0 (by kernel_rfl) rfl rfl ⟨(blk_cell BK227.out 0).trans rfl, (blk_cell BK227.out 1).trans rfl⟩ (fun hHeld => ?_); refine with_tabW impl_PrefixOk.tab1 impl_PrefixOk.bits1 (fun HT_ HW_ => ?_)
    generalize w8.drew = w9 at BK227 HB hHeld ⊢
    refine pz_ 0 3 ba7_1 HT_ ?_
    refine pt_ 1 4 ba7_2 HT_ HW_ hHeld ?_
    refine one_ (i := 2) (N := some 5) ba7_3 rfl rfl (one_of HT_.out (by kernel_rfl)) (by decide) (fun K hK => ?_)
    refine gz_ Tryd.func54 #[.int .i64 a0_1, .int .i64 0, .int .i64 16] ?_
    with_reducible refine (impl_within.calls a0_1 0 16 true _ A2.out).mono ?_
    rintro e w' ⟨rfl, ⟨nd, rfl⟩⟩
    refine ⟨_, rfl, ?_⟩
    refine hK.out _ _ ⟨(blk_cell BK227.out 0).trans rfl, (blk_cell BK227.out 1).trans rfl⟩ (fun hHeld => ?_)
    clear hK K
    refine nz_ 5 ?_
    refine pz_ 3 6 ba7_4 HT_ ?_
    refine pz_ 4 7 ba7_5 HT_ ?_
    refine pt_ 5 8 ba7_6 HT_ HW_ hHeld ?_
    refine one_ (i := 6) (N := some 9) ba7_7 rfl rfl (one_of HT_.out (by kernel_rfl)) (by decide) (fun K hK => ?_)
    refine gz_ Tryd.func55 #[.int .i64 a0_0] ?_
    with_reducible refine (impl_isAddr.calls a0_0 true _ A4.out).mono ?_
    rintro e w' ⟨rfl, ⟨nd, rfl⟩⟩
    refine ⟨_, rfl, ?_⟩
    refine hK.out _ _ ⟨(blk_cell BK227.out 0).trans rfl, (blk_cell BK227.out 1).trans rfl⟩ (fun hHeld => ?_)
    clear hK K
    refine nz_ 9 ?_
    refine pz_ 7 10 ba7_8 HT_ ?_
    refine pz_ 8 11 ba7_9 HT_ ?_
    refine pz_ 9 12 ba7_10 HT_ ?_
    refine pt_ 10 13 ba7_11 HT_ HW_ hHeld ?_
    refine pt_ 11 14 ba7_12 HT_ HW_ hHeld ?_
    refine one_ (i := 12) (N := some 15) ba7_13 rfl rfl (one_of HT_.out (by kernel_rfl)) (by decide) (fun K hK => ?_)
    refine gz_ Tryd.func35 #[.agg #[.int .i64 a0_0, .int .i64 a0_1]] ?_
    with_reducible refine (impl_Prefix_size.calls a0_0 a0_1 t230 _ A6.out).mono ?_
    rintro e w10 ⟨rfl, hb⟩
    refine ⟨_, rfl, ?_⟩
    replace BK227 := Aside0.mk (bb_ BK227 hb)
    replace HB := Aside0.mk (bt_ HB hb)
    (try clear hb)
    (try clear hb2)
    (try clear hk)
    (try clear hi)
    refine hK.out _ _ ⟨(blk_cell BK227.out 0).trans rfl, (blk_cell BK227.out 1).trans rfl⟩ (fun hHeld => ?_)
    clear hK K
    refine nz_ 15 ?_
    refine pz_ 13 16 ba7_14 HT_ ?_
    refine pz_ 14 17 ba7_15 HT_ ?_
    refine pz_ 15 18 ba7_16 HT_ ?_
    refine pz_ 16 2 ba7_17 HT_ ?_
    refine done_ (done_of HT_.out (by kernel_rfl)) ?_
    try go_wp2
    go_ret
    exact ⟨by first | rfl | (simp [errW_none, errW_some] <;> rfl) | (simp [*, errW_none, errW_some] <;> rfl), by repeat (first | (with_reducible first | exact HB.out | apply below_alloc | apply pw_below_drewN | apply below_drew1 | refine below_set ?_ GE227.out) | exact HB.out)⟩
  ·replace c5 := Bool.eq_false_iff.mpr c5
   subst c5
   rw [if_neg (show ¬ (false = true) by decide)] at H
   obtain rfl := Option.some.inj H
   go_enter Tryd.func32, Tryd.ntmps32
   try go_wp2_with (first | ((with_reducible refine gate_dst (N := 1) rfl ?_); refine box_event ?hg (N := 1) ?hd (cs := #[.int .i64 a0_0, .int .i64 a0_1]) (t := 25) ?hr ?_; (case hd => rfl); (case hg => rfl); (case hr => first | (go_simp; done) | (go_simp; rfl)); intro gb227 hg w11 hbox hb; have BK227 := Aside0.mk hbox; have GW227 := ge_ HB hg; have GE227 := ge_ HB hg; replace HB := Aside0.mk (bt_ HB hb); clear hb hbox hg))
   replace BK227 := Aside0.mk (blk_drew BK227.out)
   replace HB := Aside0.mk (below_drew1 HB.out)
   refine start_ (n := 17) (S := fun w' => w'.cell? ⟨gb227, 0, none⟩ = some (.int .i64 a0_0) ∧ w'.cell? ⟨gb227, 1, none⟩ = some (.int .i64 a0_1)) (ds := []) ba7_0 (by kernel_rfl) rfl rfl ⟨(blk_cell BK227.out 0).trans rfl, (blk_cell BK227.out 1).trans rfl⟩ (fun hHeld => ?_); refine with_tabW impl_PrefixOk.tab1 impl_PrefixOk.bits1 (fun HT_ HW_ => ?_)
   generalize w11.drew = w12 at BK227 HB hHeld ⊢
   refine pz_ 0 3 ba7_1 HT_ ?_
   refine pt_ 1 4 ba7_2 HT_ HW_ hHeld ?_
   refine one_ (i := 2) (N := some 5) ba7_3 rfl rfl (one_of HT_.out (by kernel_rfl)) (by decide) (fun K hK => ?_)
   refine gz_ Tryd.func54 #[.int .i64 a0_1, .int .i64 0, .int .i64 16] ?_
   with_reducible refine (impl_within.calls a0_1 0 16 true _ A2.out).mono ?_
   rintro e w' ⟨rfl, ⟨nd, rfl⟩⟩
   refine ⟨_, rfl, ?_⟩
   refine hK.out _ _ ⟨(blk_cell BK227.out 0).trans rfl, (blk_cell BK227.out 1).trans rfl⟩ (fun hHeld => ?_)
   clear hK K
   refine nz_ 5 ?_
   refine pz_ 3 6 ba7_4 HT_ ?_
   refine pz_ 4 7 ba7_5 HT_ ?_
   refine pt_ 5 8 ba7_6 HT_ HW_ hHeld ?_
   refine one_ (i := 6) (N := some 9) ba7_7 rfl rfl (one_of HT_.out (by kernel_rfl)) (by decide) (fun K hK => ?_)
   refine gz_ Tryd.func55 #[.int .i64 a0_0] ?_
   with_reducible refine (impl_isAddr.calls a0_0 false _ A4.out).mono ?_
   rintro e w' ⟨rfl, ⟨nd, rfl⟩⟩
   refine ⟨_, rfl, ?_⟩
   refine hK.out _ _ ⟨(blk_cell BK227.out 0).trans rfl, (blk_cell BK227.out 1).trans rfl⟩ (fun hHeld => ?_)
   clear hK K
   refine nz_ 9 ?_
   refine pz_ 7 10 ba7_8 HT_ ?_
   refine pz_ 8 11 ba7_9 HT_ ?_
   refine pu_ 9 12 ba7_10 HT_ ?_
   refine pu_ 10 13 ba7_11 HT_ ?_
   refine pu_ 11 14 ba7_12 HT_ ?_
   refine pu_ 12 15 ba7_13 HT_ ?_
   refine pu_ 13 16 ba7_14 HT_ ?_
   refine pu_ 14 17 ba7_15 HT_ ?_
   refine pz_ 15 18 ba7_16 HT_ ?_
   refine pz_ 16 2 ba7_17 HT_ ?_
   refine done_ (done_of HT_.out (by kernel_rfl)) ?_
   try go_wp2
   go_ret
   exact ⟨by first | rfl | (simp [errW_none, errW_some] <;> rfl) | (simp [*, errW_none, errW_some] <;> rfl), by repeat (first | (with_reducible first | exact HB.out | apply below_alloc | apply pw_below_drewN | apply below_drew1 | refine below_set ?_ GE227.out) | exact HB.out)⟩
 ·replace c3 := Bool.eq_false_iff.mpr c3
  subst c3
  rw [if_neg (show ¬ (false = true) by decide)] at H
  obtain rfl := Option.some.inj H
  go_enter Tryd.func32, Tryd.ntmps32
  try go_wp2_with (first | ((with_reducible refine gate_dst (N := 1) rfl ?_); refine box_event ?hg (N := 1) ?hd (cs := #[.int .i64 a0_0, .int .i64 a0_1]) (t := 25) ?hr ?_; (case hd => rfl); (case hg => rfl); (case hr => first | (go_simp; done) | (go_simp; rfl)); intro gb227 hg w13 hbox hb; have BK227 := Aside0.mk hbox; have GW227 := ge_ HB hg; have GE227 := ge_ HB hg; replace HB := Aside0.mk (bt_ HB hb); clear hb hbox hg))
  replace BK227 := Aside0.mk (blk_drew BK227.out)
  replace HB := Aside0.mk (below_drew1 HB.out)
  refine start_ (n := 17) (S := fun w' => w'.cell? ⟨gb227, 0, none⟩ = some (.int .i64 a0_0) ∧ w'.cell? ⟨gb227, 1, none⟩ = some (.int .i64 a0_1)) (ds := []) ba7_0 (by kernel_rfl) rfl rfl ⟨(blk_cell BK227.out 0).trans rfl, (blk_cell BK227.out 1).trans rfl⟩ (fun hHeld => ?_); refine with_tabW impl_PrefixOk.tab1 impl_PrefixOk.bits1 (fun HT_ HW_ => ?_)
  generalize w13.drew = w14 at BK227 HB hHeld ⊢
  refine pz_ 0 3 ba7_1 HT_ ?_
  refine pt_ 1 4 ba7_2 HT_ HW_ hHeld ?_
  refine one_ (i := 2) (N := some 5) ba7_3 rfl rfl (one_of HT_.out (by kernel_rfl)) (by decide) (fun K hK => ?_)
  refine gz_ Tryd.func54 #[.int .i64 a0_1, .int .i64 0, .int .i64 16] ?_
  with_reducible refine (impl_within.calls a0_1 0 16 false _ A2.out).mono ?_
  rintro e w' ⟨rfl, ⟨nd, rfl⟩⟩
  refine ⟨_, rfl, ?_⟩
  refine hK.out _ _ ⟨(blk_cell BK227.out 0).trans rfl, (blk_cell BK227.out 1).trans rfl⟩ (fun hHeld => ?_)
  clear hK K
  refine nz_ 5 ?_
  refine pz_ 3 6 ba7_4 HT_ ?_
  refine pu_ 4 7 ba7_5 HT_ ?_
  refine pu_ 5 8 ba7_6 HT_ ?_
  refine pu_ 6 9 ba7_7 HT_ ?_
  refine pz_ 7 10 ba7_8 HT_ ?_
  refine pz_ 8 11 ba7_9 HT_ ?_
  refine pu_ 9 12 ba7_10 HT_ ?_
  refine pu_ 10 13 ba7_11 HT_ ?_
  refine pu_ 11 14 ba7_12 HT_ ?_
  refine pu_ 12 15 ba7_13 HT_ ?_
  refine pu_ 13 16 ba7_14 HT_ ?_
  refine pu_ 14 17 ba7_15 HT_ ?_
  refine pz_ 15 18 ba7_16 HT_ ?_
  refine pz_ 16 2 ba7_17 HT_ ?_
  refine done_ (done_of HT_.out (by kernel_rfl)) ?_
  try go_wp2
  go_ret
  exact ⟨by first | rfl | (simp [errW_none, errW_some] <;> rfl) | (simp [*, errW_none, errW_some] <;> rfl), by repeat (first | (with_reducible first | exact HB.out | apply below_alloc | apply pw_below_drewN | apply below_drew1 | refine below_set ?_ GE227.out) | exact HB.out)⟩

/-! ### impl_Prefix_text: function 33 -/
def impl_Prefix_text.f (a0_0 : Int) (a0_1 : Int) : Option (ByteArray) := (strconv_Itoa_46.f (wrap64 (Int.tdiv a0_0 256))).bind fun t232 => (if t232.size + 1 ≤ 9223372036854775807 then ((strconv_Itoa_46.f (Int.tmod a0_0 256)).bind fun t233 => (if (t232 ++ (⟨#[46]⟩ : ByteArray)).size + t233.size ≤ 9223372036854775807 then (if ((t232 ++ (⟨#[46]⟩ : ByteArray)) ++ t233).size + 1 ≤ 9223372036854775807 then ((strconv_Itoa_46.f a0_1).bind fun t234 => (if (((t232 ++ (⟨#[46]⟩ : ByteArray)) ++ t233) ++ (⟨#[47]⟩ : ByteArray)).size + t234.size ≤ 9223372036854775807 then (some ((((t232 ++ (⟨#[46]⟩ : ByteArray)) ++ t233) ++ (⟨#[47]⟩ : ByteArray)) ++ t234)) else (none))) else (none)) else (none))) else (none))
def impl_Prefix_text.T1 : Bool × List (List Nat × List Nat) := (true, [([], []), ([0], [0]), ([1], [1]), ([2], [2]), ([3], [3]), ([], []), ([5], [5]), ([6], [6]), ([7, 3], [7]), ([4, 8], [4, 8]), ([9], [9]), ([], []), ([11], [11]), ([12, 8], [12]), ([10, 13], [10, 13]), ([14, 13, 0, 1, 2, 3, 4, 5, 6, 7, 8, 9, 10, 11, 12, 13, 14], [14])])
def impl_Prefix_text.B1 : List Nat := [0, 1, 3, 7, 15, 0, 32, 96, 239, 511, 1023, 0, 2048, 6639, 16383, 32767]
theorem impl_Prefix_text.tab1 : rtab .any (opsOf Tryd.f33 1) = impl_Prefix_text.T1 := by kernel_rfl
theorem impl_Prefix_text.bits1 : waitsOk impl_Prefix_text.T1.2 impl_Prefix_text.B1 = true := by kernel_rfl
set_option maxHeartbeats 8000000 in
set_option maxRecDepth 100000 in
theorem impl_Prefix_text.calls (a0_0 : Int) (a0_1 : Int) (r : ByteArray) (w : World) (hT : TabOk w) (h : impl_Prefix_text.f a0_0 a0_1 = some r) :
  Calls Tryd.prog 33 #[.agg #[.int .i64 a0_0, .int .i64 a0_1]] w fun e w' => e = .returned (.string r) ∧ Below w.heap.size w w' := by
 have hu25 := Tryd.underlying25
 have HB := Aside0.mk (Below.refl w.heap.size w)
 have H : ((strconv_Itoa_46.f (wrap64 (Int.tdiv a0_0 256))).bind fun t232 => (if t232.size + 1 ≤ 9223372036854775807 then ((strconv_Itoa_46.f (Int.tmod a0_0 256)).bind fun t233 => (if (t232 ++ (⟨#[46]⟩ : ByteArray)).size + t233.size ≤ 9223372036854775807 then (if ((t232 ++ (⟨#[46]⟩ : ByteArray)) ++ t233).size + 1 ≤ 9223372036854775807 then ((strconv_Itoa_46.f a0_1).bind fun t234 => (if (((t232 ++ (⟨#[46]⟩ : ByteArray)) ++ t233) ++ (⟨#[47]⟩ : ByteArray)).size + t234.size ≤ 9223372036854775807 then (some ((((t232 ++ (⟨#[46]⟩ : ByteArray)) ++ t233) ++ (⟨#[47]⟩ : ByteArray)) ++ t234)) else (none))) else (none)) else (none))) else (none))) = some r := h
 clear h
 replace H := Option.bind_eq_some_iff.mp H
 obtain ⟨t232, A20, H⟩ := H
 have A2 := Aside0.mk A20
 clear A20
 by_cases c3 : t232.size + 1 ≤ 9223372036854775807
 ·rw [if_pos c3] at H
  have c3b0 := eq_true c3
  have c3b1 : decide (t232.size + 1 ≤ 9223372036854775807) = true := decide_eq_true c3
  try have c3b2 : (9223372036854775807 < t232.size + 1) = False := eq_false (Nat.not_lt.2 c3)
  replace H := Option.bind_eq_some_iff.mp H
  obtain ⟨t233, A40, H⟩ := H
  have A4 := Aside0.mk A40
  clear A40
  by_cases c5 : (t232 ++ (⟨#[46]⟩ : ByteArray)).size + t233.size ≤ 9223372036854775807
  ·rw [if_pos c5] at H
   have c5b0 := eq_true c5
   have c5b1 : decide ((t232 ++ (⟨#[46]⟩ : ByteArray)).size + t233.size ≤ 9223372036854775807) = true := decide_eq_true c5
   try have c5b2 : (9223372036854775807 < (t232 ++ (⟨#[46]⟩ : ByteArray)).size + t233.size) = False := eq_false (Nat.not_lt.2 c5)
   have c5b3 : (9223372036854775807 < t232.size + 1 + t233.size) = False := eq_false (Nat.not_lt.2 (by have e := c5; rw [ByteArray.size_append] at e; exact e))
   by_cases c6 : ((t232 ++ (⟨#[46]⟩ : ByteArray)) ++ t233).size + 1 ≤ 9223372036854775807
   ·rw [if_pos c6] at H
    have c6b0 := eq_true c6
    have c6b1 : decide (((t232 ++ (⟨#[46]⟩ : ByteArray)) ++ t233).size + 1 ≤ 9223372036854775807) = true := decide_eq_true c6
    try have c6b2 : (9223372036854775807 < ((t232 ++ (⟨#[46]⟩ : ByteArray)) ++ t233).size + 1) = False := eq_false (Nat.not_lt.2 c6)
    have c6b3 : (9223372036854775807 < t232.size + 1 + t233.size + 1) = False := eq_false (Nat.not_lt.2 (by have e := c6; rw [ByteArray.size_append, ByteArray.size_append] at e; exact e))
    replace H := Option.bind_eq_some_iff.mp H
    obtain ⟨t234, A70, H⟩ := H
    have A7 := Aside0.mk A70
    clear A70
    by_cases c8 : (((t232 ++ (⟨#[46]⟩ : ByteArray)) ++ t233) ++ (⟨#[47]⟩ : ByteArray)).size + t234.size ≤ 9223372036854775807
    ·rw [if_pos c8] at H
     have c8b0 := eq_true c8
     have c8b1 : decide ((((t232 ++ (⟨#[46]⟩ : ByteArray)) ++ t233) ++ (⟨#[47]⟩ : ByteArray)).size + t234.size ≤ 9223372036854775807) = true := decide_eq_true c8
     try have c8b2 : (9223372036854775807 < (((t232 ++ (⟨#[46]⟩ : ByteArray)) ++ t233) ++ (⟨#[47]⟩ : ByteArray)).size + t234.size) = False := eq_false (Nat.not_lt.2 c8)
     have c8b3 : (9223372036854775807 < t232.size + 1 + t233.size + 1 + t234.size) = False := eq_false (Nat.not_lt.2 (by have e := c8; rw [ByteArray.size_append, ByteArray.size_append, ByteArray.size_append] at e; exact e))
     obtain rfl := Option.some.inj H
     go_enter Tryd.func33, Tryd.ntmps33
     try go_wp2_with (first | ((with_reducible refine gate_dst (N := 1) rfl ?_); refine box_event ?hg (N := 1) ?hd (cs := #[.int .i64 a0_0, .int .i64 a0_1]) (t := 25) ?hr ?_; (case hd => rfl); (case hg => rfl); (case hr => first | (go_simp; done) | (go_simp; rfl)); intro gb231 hg w9 hbox hb; have BK231 := Aside0.mk hbox; have GW231 := ge_ HB hg; have GE231 := ge_ HB hg; replace HB := Aside0.mk (bt_ HB hb); clear hb hbox hg))
     replace BK231 := Aside0.mk (blk_drew BK231.out)
     replace HB := Aside0.mk (below_drew1 HB.out)
     refine start_ (n := 16) (S := fun w' => w'.cell? ⟨gb231, 0, none⟩ = some (.int .i64 a0_0) ∧ w'.cell? ⟨gb231, 1, none⟩ = some (.int .i64 a0_1)) (ds := []) ba7_18 (by kernel_rfl) rfl rfl ⟨(blk_cell BK231.out 0).trans rfl, (blk_cell BK231.out 1).trans rfl⟩ (fun hHeld => ?_); refine with_tabW impl_Prefix_text.tab1 impl_Prefix_text.bits1 (fun HT_ HW_ => ?_)
     generalize w9.drew = w10 at BK231 HB hHeld ⊢
     refine pz_ 0 3 ba7_19 HT_ ?_
     refine pz_ 5 8 ba7_20 HT_ ?_
     refine pz_ 11 14 ba7_21 HT_ ?_
     refine pt_ 1 4 ba7_22 HT_ HW_ hHeld ?_
     refine pz_ 2 5 ba7_23 HT_ ?_
     refine pt_ 6 9 ba7_24 HT_ HW_ hHeld ?_
     refine pz_ 7 10 ba7_25 HT_ ?_
     refine pt_ 12 15 ba7_26 HT_ HW_ hHeld ?_
     refine one_ (i := 3) (N := some 6) ba7_27 rfl rfl (one_of HT_.out (by kernel_rfl)) (by decide) (fun K hK => ?_)
     refine gz_ Tryd.func46 #[.int .i64 (wrap64 (Int.tdiv a0_0 256))] ?_
     with_reducible refine (strconv_Itoa_46.calls (wrap64 (Int.tdiv a0_0 256)) t232 _ (tb_ hT HB) A2.out).mono ?_
     rintro e w11 ⟨rfl, hb⟩
     refine ⟨_, rfl, ?_⟩
     replace BK231 := Aside0.mk (bb_ BK231 hb)
     replace HB := Aside0.mk (bt_ HB hb)
     (try clear hb)
     (try clear hb2)
     (try clear hk)
     (try clear hi)
     refine hK.out _ _ ⟨(blk_cell BK231.out 0).trans rfl, (blk_cell BK231.out 1).trans rfl⟩ (fun hHeld => ?_)
     clear hK K
     refine nz_ 6 ?_
     refine pz_ 4 7 ba7_28 HT_ ?_
     refine one_ (i := 8) (N := some 11) ba7_29 rfl rfl (one_of HT_.out (by kernel_rfl)) (by decide) (fun K hK => ?_)
     refine gz_ Tryd.func46 #[.int .i64 (Int.tmod a0_0 256)] ?_
     with_reducible refine (strconv_Itoa_46.calls (Int.tmod a0_0 256) t233 _ (tb_ hT HB) A4.out).mono ?_
     rintro e w12 ⟨rfl, hb⟩
     refine ⟨_, rfl, ?_⟩
     replace BK231 := Aside0.mk (bb_ BK231 hb)
     replace HB := Aside0.mk (bt_ HB hb)
     (try clear hb)
     (try clear hb2)
     (try clear hk)
     (try clear hi)
     refine hK.out _ _ ⟨(blk_cell BK231.out 0).trans rfl, (blk_cell BK231.out 1).trans rfl⟩ (fun hHeld => ?_)
     clear hK K
     refine nz_ 11 ?_
     refine pz_ 9 12 ba7_30 HT_ ?_
     refine pz_ 10 13 ba7_31 HT_ ?_
     refine one_ (i := 13) (N := some 16) ba7_32 rfl rfl (one_of HT_.out (by kernel_rfl)) (by decide) (fun K hK => ?_)
     refine gz_ Tryd.func46 #[.int .i64 a0_1] ?_
     with_reducible refine (strconv_Itoa_46.calls a0_1 t234 _ (tb_ hT HB) A7.out).mono ?_
     rintro e w13 ⟨rfl, hb⟩
     refine ⟨_, rfl, ?_⟩
     replace BK231 := Aside0.mk (bb_ BK231 hb)
     replace HB := Aside0.mk (bt_ HB hb)
     (try clear hb)
     (try clear hb2)
     (try clear hk)
     (try clear hi)
     refine hK.out _ _ ⟨(blk_cell BK231.out 0).trans rfl, (blk_cell BK231.out 1).trans rfl⟩ (fun hHeld => ?_)
     clear hK K
     refine nz_ 16 ?_
     refine pz_ 14 17 ba7_33 HT_ ?_
     refine pz_ 15 2 ba7_34 HT_ ?_
     refine done_ (done_of HT_.out (by kernel_rfl)) ?_
     try go_wp2
     go_ret
     exact ⟨by first | rfl | (simp [errW_none, errW_some] <;> rfl) | (simp [*, errW_none, errW_some] <;> rfl), by repeat (first | (with_reducible first | exact HB.out | apply below_alloc | apply pw_below_drewN | apply below_drew1 | refine below_set ?_ GE231.out) | exact HB.out)⟩
    ·rw [if_neg c8] at H
     exact absurd H (by simp)
   ·rw [if_neg c6] at H
    exact absurd H (by simp)
  ·rw [if_neg c5] at H
   exact absurd H (by simp)
 ·rw [if_neg c3] at H
  exact absurd H (by simp)

end Go.Proofs.YtmbaemcnjdgemaaDoor.QFnBlocks
