/- Contracts of functions that the law reaches: what each call returns and what it leaves in memory. Made by this session over the print of the kit. -/
import Derived.Test.YtjepmdngbafonaaQFnAggregatex0
import Derived.Test.YtjepmdngbafonaaQFnAggregatex2
import Derived.Test.YtjepmdngbafonaaQFnAggregatex10
import Derived.Test.YtjepmdngbafonaaQFnAggregatex15
namespace Go.Proofs.Ytjepmdngbafonaa.QFnAggregate
open Go.RowKit Go.Proofs.YtjepmdngbafonaaB.PrintWords Go.Proofs.YtjepmdngbafonaaB.PrintLast Go.Proofs.YtjepmdngbafonaaB.PrintMore
attribute [local go_sem] max2_int min2_int max_two min_two max_three min_three max_four min_four   -- for this text's walks alone
set_option linter.unusedVariables false
set_option linter.unusedSimpArgs false
abbrev tb18 : Bool := true
abbrev fb18 : Bool := false
def ba18_0 : Array Bool := #[fb18,fb18,fb18,fb18,fb18,fb18,fb18,fb18,fb18,fb18]
def ba18_1 : Array Bool := #[tb18,fb18,fb18,fb18,fb18,fb18,fb18,fb18,fb18,fb18]
def ba18_2 : Array Bool := #[tb18,fb18,fb18,fb18,fb18,tb18,fb18,fb18,fb18,fb18]
def ba18_3 : Array Bool := #[tb18,tb18,fb18,fb18,fb18,tb18,fb18,fb18,fb18,fb18]
def ba18_4 : Array Bool := #[tb18,tb18,tb18,fb18,fb18,tb18,fb18,fb18,fb18,fb18]
def ba18_5 : Array Bool := #[tb18,tb18,tb18,fb18,fb18,tb18,tb18,fb18,fb18,fb18]
def ba18_6 : Array Bool := #[tb18,tb18,tb18,tb18,fb18,tb18,tb18,fb18,fb18,fb18]
def ba18_7 : Array Bool := #[tb18,tb18,tb18,tb18,tb18,tb18,tb18,fb18,fb18,fb18]
def ba18_8 : Array Bool := #[tb18,tb18,tb18,tb18,tb18,tb18,tb18,tb18,fb18,fb18]
def ba18_9 : Array Bool := #[tb18,tb18,tb18,tb18,tb18,tb18,tb18,tb18,tb18,fb18]
def ba18_10 : Array Bool := #[tb18,tb18,tb18,tb18,tb18,tb18,tb18,tb18,tb18,tb18]
def ba18_11 : Array Bool := #[fb18,fb18,fb18,fb18,fb18,fb18,fb18,fb18,fb18,fb18,fb18,fb18,fb18,fb18,fb18,fb18]
def ba18_12 : Array Bool := #[fb18,tb18,fb18,fb18,fb18,fb18,fb18,fb18,fb18,fb18,fb18,fb18,fb18,fb18,fb18,fb18]
def ba18_13 : Array Bool := #[fb18,tb18,fb18,fb18,fb18,fb18,fb18,fb18,fb18,tb18,fb18,fb18,fb18,fb18,fb18,fb18]
def ba18_14 : Array Bool := #[tb18,tb18,fb18,fb18,fb18,fb18,fb18,fb18,fb18,tb18,fb18,fb18,fb18,fb18,fb18,fb18]
def ba18_15 : Array Bool := #[tb18,tb18,tb18,fb18,fb18,fb18,fb18,fb18,fb18,tb18,fb18,fb18,fb18,fb18,fb18,fb18]
def ba18_16 : Array Bool := #[tb18,tb18,tb18,tb18,fb18,fb18,fb18,fb18,fb18,tb18,fb18,fb18,fb18,fb18,fb18,fb18]
def ba18_17 : Array Bool := #[tb18,tb18,tb18,tb18,fb18,fb18,fb18,fb18,tb18,tb18,fb18,fb18,fb18,fb18,fb18,fb18]
def ba18_18 : Array Bool := #[tb18,tb18,tb18,tb18,fb18,fb18,fb18,fb18,tb18,tb18,tb18,fb18,fb18,fb18,fb18,fb18]
def ba18_19 : Array Bool := #[tb18,tb18,tb18,tb18,fb18,fb18,fb18,fb18,tb18,tb18,tb18,tb18,fb18,fb18,fb18,fb18]
def ba18_20 : Array Bool := #[tb18,tb18,tb18,tb18,tb18,fb18,fb18,fb18,tb18,tb18,tb18,tb18,fb18,fb18,fb18,fb18]
def ba18_21 : Array Bool := #[tb18,tb18,tb18,tb18,tb18,tb18,fb18,fb18,tb18,tb18,tb18,tb18,fb18,fb18,fb18,fb18]
def ba18_22 : Array Bool := #[tb18,tb18,tb18,tb18,tb18,tb18,tb18,fb18,tb18,tb18,tb18,tb18,fb18,fb18,fb18,fb18]
def ba18_23 : Array Bool := #[tb18,tb18,tb18,tb18,tb18,tb18,tb18,tb18,tb18,tb18,tb18,tb18,fb18,fb18,fb18,fb18]
def ba18_24 : Array Bool := #[tb18,tb18,tb18,tb18,tb18,tb18,tb18,tb18,tb18,tb18,tb18,tb18,tb18,fb18,fb18,fb18]
def ba18_25 : Array Bool := #[tb18,tb18,tb18,tb18,tb18,tb18,tb18,tb18,tb18,tb18,tb18,tb18,tb18,tb18,fb18,fb18]
def ba18_26 : Array Bool := #[tb18,tb18,tb18,tb18,tb18,tb18,tb18,tb18,tb18,tb18,tb18,tb18,tb18,tb18,tb18,fb18]
def ba18_27 : Array Bool := #[tb18,tb18,tb18,tb18,tb18,tb18,tb18,tb18,tb18,tb18,tb18,tb18,tb18,tb18,tb18,tb18]

/-! ### impl_Sibling: function 36 -/
def impl_Sibling.f (a0_0 : Int) (a0_1 : Int) : Option (Int × Int × Bool) := (impl_PrefixOk.f a0_0 a0_1).bind fun t473 => (if t473 = true then (if a0_1 = 0 then (some (0, 0, false)) else ((impl_Prefix_size.f a0_0 a0_1).bind fun t474 => (some (Go.bits .xor .i64 a0_0 t474, a0_1, true)))) else (some (0, 0, false)))
def impl_Sibling.T3 : Bool × List (List Nat × List Nat) := (true, [([], []), ([0], [0]), ([], []), ([2], [2]), ([1, 3], [1, 3]), ([], []), ([5], [5]), ([4, 6], [4, 6]), ([7, 3, 0, 1, 2, 3, 4, 5, 6, 7], [7]), ([8, 0, 1, 2, 3, 4, 5, 6, 7, 8], [])])
def impl_Sibling.B3 : List Nat := [0, 1, 0, 4, 15, 0, 32, 127, 255, 511]
theorem impl_Sibling.tab3 : rtab .any (opsOf Try.f36 3) = impl_Sibling.T3 := by kernel_rfl
theorem impl_Sibling.bits3 : waitsOk impl_Sibling.T3.2 impl_Sibling.B3 = true := by kernel_rfl
set_option maxHeartbeats 8000000 in
set_option maxRecDepth 100000 in
theorem impl_Sibling.calls (a0_0 : Int) (a0_1 : Int) (r1 : Int) (r2 : Int) (r3 : Bool) (w : World) (h : impl_Sibling.f a0_0 a0_1 = some (r1, r2, r3)) :
  Calls Try.prog 36 #[.agg #[.int .i64 a0_0, .int .i64 a0_1]] w fun e w' => e = .returned (.tuple #[.agg #[.int .i64 r1, .int .i64 r2], .bool r3]) ∧ Below w.heap.size w w' := by
 have hu28 := Try.underlying28
 have HB := Aside0.mk (Below.refl w.heap.size w)
 have H : ((impl_PrefixOk.f a0_0 a0_1).bind fun t473 => (if t473 = true then (if a0_1 = 0 then (some (0, 0, false)) else ((impl_Prefix_size.f a0_0 a0_1).bind fun t474 => (some (Go.bits .xor .i64 a0_0 t474, a0_1, true)))) else (some (0, 0, false)))) = some (r1, r2, r3) := h
 clear h
 replace H := Option.bind_eq_some_iff.mp H
 obtain ⟨t473, A20, H⟩ := H
 have A2 := Aside0.mk A20
 clear A20
 by_cases c3 : t473 = true
 rotate_left
 ·replace c3 := Bool.eq_false_iff.mpr c3
  subst c3
  rw [if_neg (show ¬ (false = true) by decide)] at H
  simp only [Option.some.injEq, Prod.mk.injEq] at H
  obtain ⟨rfl, rfl, rfl⟩ := H
  go_enter Try.func36, Try.ntmps36
  go_wp2_with (first | ((with_reducible refine gate_dst (N := 1) rfl ?_); refine box_event ?hg (N := 1) ?hd (cs := #[.int .i64 a0_0, .int .i64 a0_1]) (t := 28) ?hr ?_; (case hd => rfl); (case hg => rfl); (case hr => first | (go_simp; done) | (go_simp; rfl)); intro gb471 hg w23 hbox hb; have BK471 := Aside0.mk hbox; have GW471 := ge_ HB hg; have GE471 := ge_ HB hg; replace HB := Aside0.mk (bt_ HB hb); clear hb hbox hg) | ((with_reducible refine gate_dst (N := 2) rfl ?_); refine box_event ?hg (N := 2) ?hd (cs := #[.int .i64 0, .int .i64 0]) (t := 28) ?hr ?_; (case hd => rfl); (case hg => rfl); (case hr => first | (go_simp; done) | (go_simp; rfl)); intro gb472 hg w24 hbox hb; have BK472 := Aside0.mk hbox; have GW472 := ge_ HB hg; have GE472 := ge_ HB hg; have NB471_472 := nl_ BK471 hg; have NB472_471 := ng_ BK471 hg; replace HB := Aside0.mk (bt_ HB hb); replace BK471 := Aside0.mk (bb_ BK471 hb); clear hb hbox hg; have hnb25 := NB471_472.out; have hnc25 := NB472_471.out; have hcz26_0 := cz_ BK471 0 (.int .i64 a0_0); have hcz26_1 := cz_ BK471 1 (.int .i64 a0_1); have hfz26_0 := blk_frozen BK471.out 0; have hfz26_1 := blk_frozen BK471.out 1) | ((with_reducible refine gate_callee (f := 74) rfl ?_); refine gl_ (some 5) Try.func74 #[.agg #[.int .i64 a0_0, .int .i64 a0_1]] ?_; (with_reducible refine (impl_PrefixOk.calls a0_0 a0_1 false _ A2.out).mono ?_); rintro e w27 ⟨rfl, hb⟩; refine ⟨_, rfl, ?_⟩; replace BK471 := Aside0.mk (bb_ BK471 hb); replace BK472 := Aside0.mk (bb_ BK472 hb); replace HB := Aside0.mk (bt_ HB hb); (try clear hb); (try clear hb2); (try clear hk); (try clear hi); have hcz28_0 := cz_ BK472 0 (.int .i64 0); have hcz28_1 := cz_ BK472 1 (.int .i64 0); have hfz28_0 := blk_frozen BK472.out 0; have hfz28_1 := blk_frozen BK472.out 1))
  refine bodyPost_ret (results_ct rfl _ _ gb472 28 #[.int .i64 0, .int .i64 0] (0, 0) _ rfl (by (with_reducible repeat (first | refine blk_drewN ?_ _ | refine blk_drew ?_ | refine blk_alloc ?_ _)); refine blk_put (cs := #[.int .i64 0, .int .i64 0]) ?_ 1 _ rfl; (with_reducible repeat (first | refine blk_drewN ?_ _ | refine blk_drew ?_ | refine blk_alloc ?_ _)); refine blk_put (cs := #[.int .i64 0, .int .i64 0]) ?_ 0 _ rfl; (with_reducible repeat (first | refine blk_drewN ?_ _ | refine blk_drew ?_ | refine blk_alloc ?_ _)); exact BK472.out) Try.underlying28 rfl (by kernel_rfl)) rfl ?_
  exact ⟨by first | rfl | (simp [errW_none, errW_some] <;> rfl) | (simp [*, errW_none, errW_some] <;> rfl), by repeat (first | (with_reducible first | exact HB.out | apply below_alloc | apply pw_below_drewN | apply below_drew1 | refine below_set ?_ GE471.out | refine below_set ?_ GE472.out) | exact HB.out)⟩
 subst c3
 rw [if_pos rfl] at H
 by_cases c4 : a0_1 = 0
 ·rw [if_pos c4] at H
  have c4b0 : (a0_1 == 0) = true := beq_iff_eq.mpr c4
  have c4b1 : (a0_1 != 0) = false := bne_eq_false_iff_eq.mpr c4
  clear c4
  simp only [Option.some.injEq, Prod.mk.injEq] at H
  obtain ⟨rfl, rfl, rfl⟩ := H
  go_enter Try.func36, Try.ntmps36
  go_wp2_with (first | ((with_reducible refine gate_dst (N := 1) rfl ?_); refine box_event ?hg (N := 1) ?hd (cs := #[.int .i64 a0_0, .int .i64 a0_1]) (t := 28) ?hr ?_; (case hd => rfl); (case hg => rfl); (case hr => first | (go_simp; done) | (go_simp; rfl)); intro gb471 hg w5 hbox hb; have BK471 := Aside0.mk hbox; have GW471 := ge_ HB hg; have GE471 := ge_ HB hg; replace HB := Aside0.mk (bt_ HB hb); clear hb hbox hg) | ((with_reducible refine gate_dst (N := 2) rfl ?_); refine box_event ?hg (N := 2) ?hd (cs := #[.int .i64 0, .int .i64 0]) (t := 28) ?hr ?_; (case hd => rfl); (case hg => rfl); (case hr => first | (go_simp; done) | (go_simp; rfl)); intro gb472 hg w6 hbox hb; have BK472 := Aside0.mk hbox; have GW472 := ge_ HB hg; have GE472 := ge_ HB hg; have NB471_472 := nl_ BK471 hg; have NB472_471 := ng_ BK471 hg; replace HB := Aside0.mk (bt_ HB hb); replace BK471 := Aside0.mk (bb_ BK471 hb); clear hb hbox hg; have hnb7 := NB471_472.out; have hnc7 := NB472_471.out; have hcz8_0 := cz_ BK471 0 (.int .i64 a0_0); have hcz8_1 := cz_ BK471 1 (.int .i64 a0_1); have hfz8_0 := blk_frozen BK471.out 0; have hfz8_1 := blk_frozen BK471.out 1) | ((with_reducible refine gate_callee (f := 74) rfl ?_); refine gl_ (some 5) Try.func74 #[.agg #[.int .i64 a0_0, .int .i64 a0_1]] ?_; (with_reducible refine (impl_PrefixOk.calls a0_0 a0_1 true _ A2.out).mono ?_); rintro e w9 ⟨rfl, hb⟩; refine ⟨_, rfl, ?_⟩; replace BK471 := Aside0.mk (bb_ BK471 hb); replace BK472 := Aside0.mk (bb_ BK472 hb); replace HB := Aside0.mk (bt_ HB hb); (try clear hb); (try clear hb2); (try clear hk); (try clear hi); have hcz10_0 := cz_ BK471 0 (.int .i64 a0_0); have hcz10_1 := cz_ BK471 1 (.int .i64 a0_1); have hfz10_0 := blk_frozen BK471.out 0; have hfz10_1 := blk_frozen BK471.out 1; have hcz11_0 := cz_ BK472 0 (.int .i64 0); have hcz11_1 := cz_ BK472 1 (.int .i64 0); have hfz11_0 := blk_frozen BK472.out 0; have hfz11_1 := blk_frozen BK472.out 1))
  refine bodyPost_ret (results_ct rfl _ _ gb472 28 #[.int .i64 0, .int .i64 0] (0, 0) _ rfl (by (with_reducible repeat (first | refine blk_drewN ?_ _ | refine blk_drew ?_ | refine blk_alloc ?_ _)); refine blk_put (cs := #[.int .i64 0, .int .i64 0]) ?_ 1 _ rfl; (with_reducible repeat (first | refine blk_drewN ?_ _ | refine blk_drew ?_ | refine blk_alloc ?_ _)); refine blk_put (cs := #[.int .i64 0, .int .i64 0]) ?_ 0 _ rfl; (with_reducible repeat (first | refine blk_drewN ?_ _ | refine blk_drew ?_ | refine blk_alloc ?_ _)); exact BK472.out) Try.underlying28 rfl (by kernel_rfl)) rfl ?_
  exact ⟨by first | rfl | (simp [errW_none, errW_some] <;> rfl) | (simp [*, errW_none, errW_some] <;> rfl), by repeat (first | (with_reducible first | exact HB.out | apply below_alloc | apply pw_below_drewN | apply below_drew1 | refine below_set ?_ GE471.out | refine below_set ?_ GE472.out) | exact HB.out)⟩
 rw [if_neg c4] at H
 have c4b0 : (a0_1 == 0) = false := beq_eq_false_iff_ne.mpr c4
 have c4b1 : (a0_1 != 0) = true := bne_iff_ne.mpr c4
 replace H := Option.bind_eq_some_iff.mp H
 obtain ⟨t474, A120, H⟩ := H
 have A12 := Aside0.mk A120
 clear A120
 simp only [Option.some.injEq, Prod.mk.injEq] at H
 obtain ⟨rfl, rfl, rfl⟩ := H
 go_enter Try.func36, Try.ntmps36
 try go_wp2_with (first | ((with_reducible refine gate_dst (N := 1) rfl ?_); refine box_event ?hg (N := 1) ?hd (cs := #[.int .i64 a0_0, .int .i64 a0_1]) (t := 28) ?hr ?_; (case hd => rfl); (case hg => rfl); (case hr => first | (go_simp; done) | (go_simp; rfl)); intro gb471 hg w13 hbox hb; have BK471 := Aside0.mk hbox; have GW471 := ge_ HB hg; have GE471 := ge_ HB hg; replace HB := Aside0.mk (bt_ HB hb); clear hb hbox hg) | ((with_reducible refine gate_dst (N := 2) rfl ?_); refine box_event ?hg (N := 2) ?hd (cs := #[.int .i64 0, .int .i64 0]) (t := 28) ?hr ?_; (case hd => rfl); (case hg => rfl); (case hr => first | (go_simp; done) | (go_simp; rfl)); intro gb472 hg w14 hbox hb; have BK472 := Aside0.mk hbox; have GW472 := ge_ HB hg; have GE472 := ge_ HB hg; have NB471_472 := nl_ BK471 hg; have NB472_471 := ng_ BK471 hg; replace HB := Aside0.mk (bt_ HB hb); replace BK471 := Aside0.mk (bb_ BK471 hb); clear hb hbox hg; have hnb15 := NB471_472.out; have hnc15 := NB472_471.out; have hcz16_0 := cz_ BK471 0 (.int .i64 a0_0); have hcz16_1 := cz_ BK471 1 (.int .i64 a0_1); have hfz16_0 := blk_frozen BK471.out 0; have hfz16_1 := blk_frozen BK471.out 1) | ((with_reducible refine gate_callee (f := 74) rfl ?_); refine gl_ (some 5) Try.func74 #[.agg #[.int .i64 a0_0, .int .i64 a0_1]] ?_; (with_reducible refine (impl_PrefixOk.calls a0_0 a0_1 true _ A2.out).mono ?_); rintro e w17 ⟨rfl, hb⟩; refine ⟨_, rfl, ?_⟩; replace BK471 := Aside0.mk (bb_ BK471 hb); replace BK472 := Aside0.mk (bb_ BK472 hb); replace HB := Aside0.mk (bt_ HB hb); (try clear hb); (try clear hb2); (try clear hk); (try clear hi); have hcz18_0 := cz_ BK471 0 (.int .i64 a0_0); have hcz18_1 := cz_ BK471 1 (.int .i64 a0_1); have hfz18_0 := blk_frozen BK471.out 0; have hfz18_1 := blk_frozen BK471.out 1))
 replace BK471 := Aside0.mk (blk_drew BK471.out)
 replace BK472 := Aside0.mk (blk_drew BK472.out)
 replace HB := Aside0.mk (below_drew1 HB.out)
 refine start_ (n := 10) (S := fun w' => w'.cell? ⟨gb471, 0, none⟩ = some (.int .i64 a0_0) ∧ w'.cell? ⟨gb471, 1, none⟩ = some (.int .i64 a0_1)) (ds := []) ba18_0 (by kernel_rfl) rfl rfl ⟨(blk_cell BK471.out 0).trans rfl, (blk_cell BK471.out 1).trans rfl⟩ (fun hHeld => ?_); refine with_tabW impl_Sibling.tab3 impl_Sibling.bits3 (fun HT_ HW_ => ?_)
 generalize w17.drew = w19 at BK471 BK472 HB hHeld ⊢
 refine pz_ 0 13 ba18_1 HT_ ?_
 refine pz_ 5 18 ba18_2 HT_ ?_
 refine pt_ 1 14 ba18_3 HT_ HW_ hHeld ?_
 refine pt_ 2 15 ba18_4 HT_ HW_ hHeld ?_
 refine pt_ 6 19 ba18_5 HT_ HW_ hHeld ?_
 refine one_ (i := 3) (N := some 16) ba18_6 rfl rfl (one_of HT_.out (by kernel_rfl)) (by decide) (fun K hK => ?_)
 refine gz_ Try.func69 #[.agg #[.int .i64 a0_0, .int .i64 a0_1]] ?_
 with_reducible refine (impl_Prefix_size.calls a0_0 a0_1 t474 _ A12.out).mono ?_
 rintro e w20 ⟨rfl, hb⟩
 refine ⟨_, rfl, ?_⟩
 replace BK471 := Aside0.mk (bb_ BK471 hb)
 replace BK472 := Aside0.mk (bb_ BK472 hb)
 replace HB := Aside0.mk (bt_ HB hb)
 (try clear hb)
 (try clear hb2)
 (try clear hk)
 (try clear hi)
 refine hK.out _ _ ⟨(blk_cell BK471.out 0).trans rfl, (blk_cell BK471.out 1).trans rfl⟩ (fun hHeld => ?_)
 clear hK K
 refine nz_ 16 ?_
 refine pz_ 4 17 ba18_7 HT_ ?_
 refine pz_ 7 20 ba18_8 HT_ ?_
 refine one_ (i := 8) (N := none) ba18_9 rfl rfl (one_of HT_.out (by kernel_rfl)) (by decide) (fun K hK => ?_)
 have hs21 : w20.cell? ⟨gb472, 0, none⟩ = some (.int .i64 0) := (blk_cell BK472.out 0).trans rfl
 have hfs21 := blk_frozen BK472.out 0
 have hns21_0 := NB471_472.out
 have hms21_0 := NB472_471.out
 have hs22 : w20.cell? ⟨gb472, 1, none⟩ = some (.int .i64 0) := (blk_cell BK472.out 1).trans rfl
 have hfs22 := blk_frozen BK472.out 1
 have hns22_0 := NB471_472.out
 have hms22_0 := NB472_471.out
 refine skip_ (w1 := ?_) (by rfl) rfl ?_ ?_
 rotate_left; · go_simp; rfl
 refine hK.out _ _ ⟨((cell_far (p := ⟨gb472, _, none⟩) NB471_472.out _).trans (((cell_far (p := ⟨gb472, _, none⟩) NB471_472.out _).trans (hHeld.1)))), ((cell_far (p := ⟨gb472, _, none⟩) NB471_472.out _).trans (((cell_far (p := ⟨gb472, _, none⟩) NB471_472.out _).trans (hHeld.2))))⟩ (fun hHeld => ?_)
 clear hK K
 refine pz_ 9 3 ba18_10 HT_ ?_
 refine done_ (done_of HT_.out (by kernel_rfl)) ?_
 try go_wp2
 refine bodyPost_ret (results_ct rfl _ _ gb472 28 #[.int .i64 (Go.bits .xor .i64 a0_0 t474), .int .i64 a0_1] (0, 0) _ rfl (by (with_reducible repeat (first | refine blk_drewN ?_ _ | refine blk_drew ?_ | refine blk_alloc ?_ _)); refine blk_put (cs := #[.int .i64 (Go.bits .xor .i64 a0_0 t474), .int .i64 0]) ?_ 1 _ rfl; (with_reducible repeat (first | refine blk_drewN ?_ _ | refine blk_drew ?_ | refine blk_alloc ?_ _)); refine blk_put (cs := #[.int .i64 0, .int .i64 0]) ?_ 0 _ rfl; (with_reducible repeat (first | refine blk_drewN ?_ _ | refine blk_drew ?_ | refine blk_alloc ?_ _)); exact BK472.out) Try.underlying28 rfl (by kernel_rfl)) rfl ?_
 exact ⟨by first | rfl | (simp [errW_none, errW_some] <;> rfl) | (simp [*, errW_none, errW_some] <;> rfl), by repeat (first | (with_reducible first | exact HB.out | apply below_alloc | apply pw_below_drewN | apply below_drew1 | refine below_set ?_ GE471.out | refine below_set ?_ GE472.out) | exact HB.out)⟩

/-! ### impl_CoversPrefix: function 37 -/
def impl_CoversPrefix.f (a0_0 : Int) (a0_1 : Int) (a1_0 : Int) (a1_1 : Int) : Option (Bool) := (impl_PrefixOk.f a0_0 a0_1).bind fun t477 => (if t477 = true then ((impl_PrefixOk.f a1_0 a1_1).bind fun t478 => (if t478 = true then ((impl_Prefix_covers.f a0_0 a0_1 a1_0 a1_1).bind fun t479 => (some t479)) else (some false))) else (some false))
set_option maxHeartbeats 8000000 in
set_option maxRecDepth 100000 in
theorem impl_CoversPrefix.calls (a0_0 : Int) (a0_1 : Int) (a1_0 : Int) (a1_1 : Int) (r : Bool) (w : World) (h : impl_CoversPrefix.f a0_0 a0_1 a1_0 a1_1 = some r) :
  Calls Try.prog 37 #[.agg #[.int .i64 a0_0, .int .i64 a0_1], .agg #[.int .i64 a1_0, .int .i64 a1_1]] w fun e w' => e = .returned (.bool r) ∧ Below w.heap.size w w' := by
 have hu28 := Try.underlying28
 have HB := Aside0.mk (Below.refl w.heap.size w)
 have H : ((impl_PrefixOk.f a0_0 a0_1).bind fun t477 => (if t477 = true then ((impl_PrefixOk.f a1_0 a1_1).bind fun t478 => (if t478 = true then ((impl_Prefix_covers.f a0_0 a0_1 a1_0 a1_1).bind fun t479 => (some t479)) else (some false))) else (some false))) = some r := h
 clear h
 replace H := Option.bind_eq_some_iff.mp H
 obtain ⟨t477, A30, H⟩ := H
 have A3 := Aside0.mk A30
 clear A30
 by_cases c4 : t477 = true
 rotate_left
 ·replace c4 := Bool.eq_false_iff.mpr c4
  subst c4
  rw [if_neg (show ¬ (false = true) by decide)] at H
  obtain rfl := Option.some.inj H
  go_enter Try.func37, Try.ntmps37
  go_wp2_with (first | ((with_reducible refine gate_dst (N := 2) rfl ?_); refine box_event ?hg (N := 2) ?hd (cs := #[.int .i64 a0_0, .int .i64 a0_1]) (t := 28) ?hr ?_; (case hd => rfl); (case hg => rfl); (case hr => first | (go_simp; done) | (go_simp; rfl)); intro gb475 hg w25 hbox hb; have BK475 := Aside0.mk hbox; have GW475 := ge_ HB hg; have GE475 := ge_ HB hg; replace HB := Aside0.mk (bt_ HB hb); clear hb hbox hg) | ((with_reducible refine gate_dst (N := 3) rfl ?_); refine box_event ?hg (N := 3) ?hd (cs := #[.int .i64 a1_0, .int .i64 a1_1]) (t := 28) ?hr ?_; (case hd => rfl); (case hg => rfl); (case hr => first | (go_simp; done) | (go_simp; rfl)); intro gb476 hg w26 hbox hb; have BK476 := Aside0.mk hbox; have GW476 := ge_ HB hg; have GE476 := ge_ HB hg; have NB475_476 := nl_ BK475 hg; have NB476_475 := ng_ BK475 hg; replace HB := Aside0.mk (bt_ HB hb); replace BK475 := Aside0.mk (bb_ BK475 hb); clear hb hbox hg; have hnb27 := NB475_476.out; have hnc27 := NB476_475.out; have hcz28_0 := cz_ BK475 0 (.int .i64 a0_0); have hcz28_1 := cz_ BK475 1 (.int .i64 a0_1); have hfz28_0 := blk_frozen BK475.out 0; have hfz28_1 := blk_frozen BK475.out 1) | ((with_reducible refine gate_callee (f := 74) rfl ?_); refine gl_ (some 6) Try.func74 #[.agg #[.int .i64 a0_0, .int .i64 a0_1]] ?_; (with_reducible refine (impl_PrefixOk.calls a0_0 a0_1 false _ A3.out).mono ?_); rintro e w29 ⟨rfl, hb⟩; refine ⟨_, rfl, ?_⟩; replace BK475 := Aside0.mk (bb_ BK475 hb); replace BK476 := Aside0.mk (bb_ BK476 hb); replace HB := Aside0.mk (bt_ HB hb); (try clear hb); (try clear hb2); (try clear hk); (try clear hi)))
  go_ret
  exact ⟨by first | rfl | (simp [errW_none, errW_some] <;> rfl) | (simp [*, errW_none, errW_some] <;> rfl), by repeat (first | (with_reducible first | exact HB.out | apply below_alloc | apply pw_below_drewN | apply below_drew1 | refine below_set ?_ GE475.out | refine below_set ?_ GE476.out) | exact HB.out)⟩
 subst c4
 rw [if_pos rfl] at H
 replace H := Option.bind_eq_some_iff.mp H
 obtain ⟨t478, A50, H⟩ := H
 have A5 := Aside0.mk A50
 clear A50
 by_cases c6 : t478 = true
 rotate_left
 ·replace c6 := Bool.eq_false_iff.mpr c6
  subst c6
  rw [if_neg (show ¬ (false = true) by decide)] at H
  obtain rfl := Option.some.inj H
  go_enter Try.func37, Try.ntmps37
  go_wp2_with (first | ((with_reducible refine gate_dst (N := 2) rfl ?_); refine box_event ?hg (N := 2) ?hd (cs := #[.int .i64 a0_0, .int .i64 a0_1]) (t := 28) ?hr ?_; (case hd => rfl); (case hg => rfl); (case hr => first | (go_simp; done) | (go_simp; rfl)); intro gb475 hg w18 hbox hb; have BK475 := Aside0.mk hbox; have GW475 := ge_ HB hg; have GE475 := ge_ HB hg; replace HB := Aside0.mk (bt_ HB hb); clear hb hbox hg) | ((with_reducible refine gate_dst (N := 3) rfl ?_); refine box_event ?hg (N := 3) ?hd (cs := #[.int .i64 a1_0, .int .i64 a1_1]) (t := 28) ?hr ?_; (case hd => rfl); (case hg => rfl); (case hr => first | (go_simp; done) | (go_simp; rfl)); intro gb476 hg w19 hbox hb; have BK476 := Aside0.mk hbox; have GW476 := ge_ HB hg; have GE476 := ge_ HB hg; have NB475_476 := nl_ BK475 hg; have NB476_475 := ng_ BK475 hg; replace HB := Aside0.mk (bt_ HB hb); replace BK475 := Aside0.mk (bb_ BK475 hb); clear hb hbox hg; have hnb20 := NB475_476.out; have hnc20 := NB476_475.out; have hcz21_0 := cz_ BK475 0 (.int .i64 a0_0); have hcz21_1 := cz_ BK475 1 (.int .i64 a0_1); have hfz21_0 := blk_frozen BK475.out 0; have hfz21_1 := blk_frozen BK475.out 1) | ((with_reducible refine gate_callee (f := 74) rfl ?_); refine gl_ (some 6) Try.func74 #[.agg #[.int .i64 a0_0, .int .i64 a0_1]] ?_; (with_reducible refine (impl_PrefixOk.calls a0_0 a0_1 true _ A3.out).mono ?_); rintro e w22 ⟨rfl, hb⟩; refine ⟨_, rfl, ?_⟩; replace BK475 := Aside0.mk (bb_ BK475 hb); replace BK476 := Aside0.mk (bb_ BK476 hb); replace HB := Aside0.mk (bt_ HB hb); (try clear hb); (try clear hb2); (try clear hk); (try clear hi); have hcz23_0 := cz_ BK476 0 (.int .i64 a1_0); have hcz23_1 := cz_ BK476 1 (.int .i64 a1_1); have hfz23_0 := blk_frozen BK476.out 0; have hfz23_1 := blk_frozen BK476.out 1) | (go_at_call 74; (with_reducible refine (impl_PrefixOk.calls a1_0 a1_1 false _ A5.out).mono ?_); rintro e w24 ⟨rfl, hb⟩; replace BK475 := Aside0.mk (bb_ BK475 hb); replace BK476 := Aside0.mk (bb_ BK476 hb); replace HB := Aside0.mk (bt_ HB hb); (try clear hb); (try clear hb2); (try clear hk); (try clear hi)))
  go_ret
  exact ⟨by first | rfl | (simp [errW_none, errW_some] <;> rfl) | (simp [*, errW_none, errW_some] <;> rfl), by repeat (first | (with_reducible first | exact HB.out | apply below_alloc | apply pw_below_drewN | apply below_drew1 | refine below_set ?_ GE475.out | refine below_set ?_ GE476.out) | exact HB.out)⟩
 subst c6
 rw [if_pos rfl] at H
 replace H := Option.bind_eq_some_iff.mp H
 obtain ⟨t479, A70, H⟩ := H
 have A7 := Aside0.mk A70
 clear A70
 obtain rfl := Option.some.inj H
 go_enter Try.func37, Try.ntmps37
 go_wp2_with (first | ((with_reducible refine gate_dst (N := 2) rfl ?_); refine box_event ?hg (N := 2) ?hd (cs := #[.int .i64 a0_0, .int .i64 a0_1]) (t := 28) ?hr ?_; (case hd => rfl); (case hg => rfl); (case hr => first | (go_simp; done) | (go_simp; rfl)); intro gb475 hg w8 hbox hb; have BK475 := Aside0.mk hbox; have GW475 := ge_ HB hg; have GE475 := ge_ HB hg; replace HB := Aside0.mk (bt_ HB hb); clear hb hbox hg) | ((with_reducible refine gate_dst (N := 3) rfl ?_); refine box_event ?hg (N := 3) ?hd (cs := #[.int .i64 a1_0, .int .i64 a1_1]) (t := 28) ?hr ?_; (case hd => rfl); (case hg => rfl); (case hr => first | (go_simp; done) | (go_simp; rfl)); intro gb476 hg w9 hbox hb; have BK476 := Aside0.mk hbox; have GW476 := ge_ HB hg; have GE476 := ge_ HB hg; have NB475_476 := nl_ BK475 hg; have NB476_475 := ng_ BK475 hg; replace HB := Aside0.mk (bt_ HB hb); replace BK475 := Aside0.mk (bb_ BK475 hb); clear hb hbox hg; have hnb10 := NB475_476.out; have hnc10 := NB476_475.out; have hcz11_0 := cz_ BK475 0 (.int .i64 a0_0); have hcz11_1 := cz_ BK475 1 (.int .i64 a0_1); have hfz11_0 := blk_frozen BK475.out 0; have hfz11_1 := blk_frozen BK475.out 1) | ((with_reducible refine gate_callee (f := 74) rfl ?_); refine gl_ (some 6) Try.func74 #[.agg #[.int .i64 a0_0, .int .i64 a0_1]] ?_; (with_reducible refine (impl_PrefixOk.calls a0_0 a0_1 true _ A3.out).mono ?_); rintro e w12 ⟨rfl, hb⟩; refine ⟨_, rfl, ?_⟩; replace BK475 := Aside0.mk (bb_ BK475 hb); replace BK476 := Aside0.mk (bb_ BK476 hb); replace HB := Aside0.mk (bt_ HB hb); (try clear hb); (try clear hb2); (try clear hk); (try clear hi); have hcz13_0 := cz_ BK476 0 (.int .i64 a1_0); have hcz13_1 := cz_ BK476 1 (.int .i64 a1_1); have hfz13_0 := blk_frozen BK476.out 0; have hfz13_1 := blk_frozen BK476.out 1) | (go_at_call 74; (with_reducible refine (impl_PrefixOk.calls a1_0 a1_1 true _ A5.out).mono ?_); rintro e w14 ⟨rfl, hb⟩; replace BK475 := Aside0.mk (bb_ BK475 hb); replace BK476 := Aside0.mk (bb_ BK476 hb); replace HB := Aside0.mk (bt_ HB hb); (try clear hb); (try clear hb2); (try clear hk); (try clear hi); have hcz15_0 := cz_ BK475 0 (.int .i64 a0_0); have hcz15_1 := cz_ BK475 1 (.int .i64 a0_1); have hfz15_0 := blk_frozen BK475.out 0; have hfz15_1 := blk_frozen BK475.out 1; have hcz16_0 := cz_ BK476 0 (.int .i64 a1_0); have hcz16_1 := cz_ BK476 1 (.int .i64 a1_1); have hfz16_0 := blk_frozen BK476.out 0; have hfz16_1 := blk_frozen BK476.out 1) | (go_at_call 78; (with_reducible refine (impl_Prefix_covers.calls a0_0 a0_1 a1_0 a1_1 t479 _ A7.out).mono ?_); rintro e w17 ⟨rfl, hb⟩; replace BK475 := Aside0.mk (bb_ BK475 hb); replace BK476 := Aside0.mk (bb_ BK476 hb); replace HB := Aside0.mk (bt_ HB hb); (try clear hb); (try clear hb2); (try clear hk); (try clear hi)))
 go_ret
 exact ⟨by first | rfl | (simp [errW_none, errW_some] <;> rfl) | (simp [*, errW_none, errW_some] <;> rfl), by repeat (first | (with_reducible first | exact HB.out | apply below_alloc | apply pw_below_drewN | apply below_drew1 | refine below_set ?_ GE475.out | refine below_set ?_ GE476.out) | exact HB.out)⟩

/-! ### spec_l01DrawAddr: function 83 -/
def spec_l01DrawAddr.f (s0_0 : List Int) (s0_1 : Int) (s0_2 : Int) : Option (Int × Int × Int) := (spec_l01Below.f s0_0 s0_1 s0_2 65536).bind fun bt480 => ((spec_l01Below.f s0_0 bt480.2.1 bt480.2.2 2048).bind fun bt483 => ((spec_l01Below.f s0_0 bt483.2.1 bt483.2.2 20).bind fun bt486 => ((spec_l01PickInt.f s0_0 bt486.2.1 bt486.2.2 (([0, 65535, bt480.1, bt483.1, wrap64 (2560 + bt486.1), 65536, (-1)] : List Int))).bind fun bt492 => (some (bt492.1, bt492.2.1, bt492.2.2)))))
set_option maxHeartbeats 8000000 in
set_option maxRecDepth 100000 in
theorem spec_l01DrawAddr.calls (g : Nat) (s0_0 : List Int) (s0_1 : Int) (s0_2 : Int) (r1 : Int) (r2 : Int) (r3 : Int) (w0 w : World) (hI : IsS112 w0 w g s0_0 s0_1 s0_2) (hB : Below w0.heap.size w0 w) (h : spec_l01DrawAddr.f s0_0 s0_1 s0_2 = some (r1, r2, r3)) :
  Calls Try.prog 83 #[.pointer (some ⟨g, 0, none⟩)] w fun e w' => e = .returned (.int .i64 r1) ∧ IsS112 w0 w' g s0_0 r2 r3 ∧ Below w0.heap.size w0 w' ∧ KeepBut w w' g none := by
 have HI0 := Aside0.mk hI
 have HK := Aside0.mk (KeepBut.refl w g none)
 have HL := Aside0.mk hB.size
 clear hI
 have HW0 := Aside0.mk hB.size
 have HB := Aside0.mk hB
 clear hB
 have H : ((spec_l01Below.f s0_0 s0_1 s0_2 65536).bind fun bt480 => ((spec_l01Below.f s0_0 bt480.2.1 bt480.2.2 2048).bind fun bt483 => ((spec_l01Below.f s0_0 bt483.2.1 bt483.2.2 20).bind fun bt486 => ((spec_l01PickInt.f s0_0 bt486.2.1 bt486.2.2 (([0, 65535, bt480.1, bt483.1, wrap64 (2560 + bt486.1), 65536, (-1)] : List Int))).bind fun bt492 => (some (bt492.1, bt492.2.1, bt492.2.2)))))) = some (r1, r2, r3) := h
 clear h
 replace H := Option.bind_eq_some_iff.mp H
 obtain ⟨⟨t480, t481, t482⟩, A20, H⟩ := H
 have A2 := Aside0.mk A20
 clear A20
 replace H := Option.bind_eq_some_iff.mp H
 obtain ⟨⟨t483, t484, t485⟩, A30, H⟩ := H
 have A3 := Aside0.mk A30
 clear A30
 replace H := Option.bind_eq_some_iff.mp H
 obtain ⟨⟨t486, t487, t488⟩, A40, H⟩ := H
 have A4 := Aside0.mk A40
 clear A40
 obtain ⟨y489, hy489⟩ : ∃ y_ : List Int, y_ = (([0, 65535, t480, t483, wrap64 (2560 + t486), 65536, (-1)] : List Int)) := ⟨_, rfl⟩
 replace H : ((spec_l01PickInt.f s0_0 t487 t488 y489).bind fun bt492 => (some (bt492.1, bt492.2.1, bt492.2.2))) = some (r1, r2, r3) := by first | (rw [hy489]; with_reducible exact H) | (have H2_ := (Option.bind_some _ _).symm.trans H; rw [hy489]; with_reducible exact H2_) | (have H2_ := (Option.bind_some _ _).symm.trans H; with_reducible exact H2_) | with_reducible exact H | (rw [hy489]; exact H) | exact H
 have Ny489 := Aside0.mk hy489
 clear hy489
 replace H := Option.bind_eq_some_iff.mp H
 obtain ⟨⟨t492, t493, t494⟩, A50, H⟩ := H
 have A5 := Aside0.mk A50
 clear A50
 simp only [Option.some.injEq, Prod.mk.injEq] at H
 obtain ⟨rfl, rfl, rfl⟩ := H
 go_enter Try.func83, Try.ntmps83
 go_wp2_with (first | ((with_reducible refine gate_callee (f := 44) rfl ?_); refine gl_ (some 5) Try.func44 #[.pointer (some ⟨g, 0, none⟩), .int .i64 65536] ?_; (with_reducible refine (spec_l01Below.calls g s0_0 s0_1 s0_2 65536 t480 t481 t482 w0 _ ?side1 ?side2 A2.out).mono ?_); (case side1 => repeat (first | (with_reducible first | exact HI0.out | apply IsS112.alloc | apply IsS112.drewN | apply IsS112.drew | apply IsS112.set_1 | apply IsS112.set_2) | exact HI0.out)); (case side2 => repeat (first | (with_reducible first | exact HB.out | apply below_alloc | apply pw_below_drewN | apply below_drew1 | refine below_set ?_ (IsS112.ge HI0.out)) | exact HB.out)); rintro e w6 ⟨rfl, hi, hb, hk⟩; refine ⟨_, rfl, ?_⟩; replace HK := Aside0.mk (KeepBut.trans (by repeat (first | (with_reducible first | exact HK.out | apply KeepBut.set_ | apply keep_drewN | apply keep_drew | apply keep_alloc) | exact HK.out)) hk (.inl rfl)); replace HB := Aside0.mk (hb); replace HI0 := Aside0.mk (hi); (try clear hb); (try clear hb2); (try clear hk); (try clear hi)) | ((with_reducible refine gate_callee (f := 44) rfl ?_); refine gl_ (some 7) Try.func44 #[.pointer (some ⟨g, 0, none⟩), .int .i64 2048] ?_; (with_reducible refine (spec_l01Below.calls g s0_0 t481 t482 2048 t483 t484 t485 w0 _ ?side1 ?side2 A3.out).mono ?_); (case side1 => repeat (first | (with_reducible first | exact HI0.out | apply IsS112.alloc | apply IsS112.drewN | apply IsS112.drew | apply IsS112.set_1 | apply IsS112.set_2) | exact HI0.out)); (case side2 => repeat (first | (with_reducible first | exact HB.out | apply below_alloc | apply pw_below_drewN | apply below_drew1 | refine below_set ?_ (IsS112.ge HI0.out)) | exact HB.out)); rintro e w7 ⟨rfl, hi, hb, hk⟩; refine ⟨_, rfl, ?_⟩; replace HK := Aside0.mk (KeepBut.trans (by repeat (first | (with_reducible first | exact HK.out | apply KeepBut.set_ | apply keep_drewN | apply keep_drew | apply keep_alloc) | exact HK.out)) hk (.inl rfl)); replace HB := Aside0.mk (hb); replace HI0 := Aside0.mk (hi); (try clear hb); (try clear hb2); (try clear hk); (try clear hi)) | ((with_reducible refine gate_callee (f := 44) rfl ?_); refine gl_ (some 9) Try.func44 #[.pointer (some ⟨g, 0, none⟩), .int .i64 20] ?_; (with_reducible refine (spec_l01Below.calls g s0_0 t484 t485 20 t486 t487 t488 w0 _ ?side1 ?side2 A4.out).mono ?_); (case side1 => repeat (first | (with_reducible first | exact HI0.out | apply IsS112.alloc | apply IsS112.drewN | apply IsS112.drew | apply IsS112.set_1 | apply IsS112.set_2) | exact HI0.out)); (case side2 => repeat (first | (with_reducible first | exact HB.out | apply below_alloc | apply pw_below_drewN | apply below_drew1 | refine below_set ?_ (IsS112.ge HI0.out)) | exact HB.out)); rintro e w8 ⟨rfl, hi, hb, hk⟩; refine ⟨_, rfl, ?_⟩; replace HK := Aside0.mk (KeepBut.trans (by repeat (first | (with_reducible first | exact HK.out | apply KeepBut.set_ | apply keep_drewN | apply keep_drew | apply keep_alloc) | exact HK.out)) hk (.inl rfl)); replace HB := Aside0.mk (hb); replace HI0 := Aside0.mk (hi); (try clear hb); (try clear hb2); (try clear hk); (try clear hi)) | ((with_reducible refine gate_dst (N := 11) rfl ?_); refine Kd.R_lit (Kd.int .i64) _ 3 ?hg (N := 11) ?hd (xs := ([0, 65535, t480, t483, wrap64 (2560 + t486), 65536, (-1)] : List Int)) (inner := [.int .i64 0, .int .i64 65535, .int .i64 t480, .int .i64 t483, .int .i64 (wrap64 (2560 + t486)), .int .i64 65536, .int .i64 (-1)]) (ok := fun _ => True) (okp := fun _ => True) ?hr ?hp (fun _ hk => hk) trivial (Below.refl _ _) (Nat.le_refl _) (by simp) ?_; (case hd => rfl); (case hg => rfl); (case hr => first | (go_simp; done) | (go_simp; rfl)); (case hp => exact (Reps.one (show Kd.M (Kd.int .i64) _ _ _ 0 [.int .i64 0] from rfl) (Reps.one (show Kd.M (Kd.int .i64) _ _ _ 65535 [.int .i64 65535] from rfl) (Reps.one (show Kd.M (Kd.int .i64) _ _ _ t480 [.int .i64 t480] from rfl) (Reps.one (show Kd.M (Kd.int .i64) _ _ _ t483 [.int .i64 t483] from rfl) (Reps.one (show Kd.M (Kd.int .i64) _ _ _ (wrap64 (2560 + t486)) [.int .i64 (wrap64 (2560 + t486))] from rfl) (Reps.one (show Kd.M (Kd.int .i64) _ _ _ 65536 [.int .i64 65536] from rfl) (Reps.one (show Kd.M (Kd.int .i64) _ _ _ (-1) [.int .i64 (-1)] from rfl) (Reps.none _ _))))))))); intro v490 w9 ho10 hb hg_ hnew_; clear hg_ hnew_; (first | rw [← Ny489.out] at ho10 | (simp only [Int.reduceToNat] at ho10; rw [← Ny489.out] at ho10)); have HO491 := Aside0.mk (Kd.R_lower ho10 (keep_size (w := w) (g := g) (row := none) (by repeat (first | (with_reducible first | exact HK.out | apply KeepBut.set_ | apply keep_drewN | apply keep_drew | apply keep_alloc) | exact HK.out)))); replace HK := Aside0.mk (KeepBut.trans (by repeat (first | (with_reducible first | exact HK.out | apply KeepBut.set_ | apply keep_drewN | apply keep_drew | apply keep_alloc) | exact HK.out)) (KeepBut.of_below hb g none) (.inl rfl)); replace HB := Aside0.mk (below_step (by repeat (first | (with_reducible first | exact HB.out | apply below_alloc | apply pw_below_drewN | apply below_drew1 | refine below_set ?_ (IsS112.ge HI0.out)) | exact HB.out)) hb); replace HI0 := Aside0.mk (IsS112.below (by repeat (first | (with_reducible first | exact HI0.out | apply IsS112.alloc | apply IsS112.drewN | apply IsS112.drew | apply IsS112.set_1 | apply IsS112.set_2) | exact HI0.out)) hb); clear hb ho10; obtain ⟨Ao11, co11, eo11⟩ := Kd.R_slice HO491.out; subst eo11) | ((with_reducible refine gate_callee (f := 43) rfl ?_); refine gl_ (some 12) Try.func43 #[.pointer (some ⟨g, 0, none⟩), .slice Ao11 y489.length co11] ?_; (with_reducible refine (spec_l01PickInt.calls g s0_0 t487 t488 _ _ y489 t492 t493 t494 w0 _ ?side1 ?side2 ?side3 ?side4 ?side5 A5.out).mono ?_); (case side1 => repeat (first | (with_reducible first | exact HI0.out | apply IsS112.alloc | apply IsS112.drewN | apply IsS112.drew | apply IsS112.set_1 | apply IsS112.set_2) | exact HI0.out)); (case side2 => repeat (first | (with_reducible first | exact HB.out | apply below_alloc | apply pw_below_drewN | apply below_drew1 | refine below_set ?_ (IsS112.ge HI0.out)) | exact HB.out)); (case side3 => exact rc_ HO491); (case side4 => exact (Kd.R_reads' HO491.out).2.1); (case side5 => exact far_slice (IsS112.own_ne HI0.out HO491.out (by decide))); rintro e w12 ⟨rfl, hi, hb, hk⟩; refine ⟨_, rfl, ?_⟩; replace HO491 := Aside0.mk (Kd.R_mono (Kd.R_keep (IsS112.apart (show IsS112 w0 _ g s0_0 t487 t488 from by repeat (first | (with_reducible first | exact HI0.out | apply IsS112.alloc | apply IsS112.drewN | apply IsS112.drew | apply IsS112.set_1 | apply IsS112.set_2) | exact HI0.out)) (hd_ HO491) (by decide)) hk (fun _ h => h.2)) (fun _ h => h.1)); replace HK := Aside0.mk (KeepBut.trans (by repeat (first | (with_reducible first | exact HK.out | apply KeepBut.set_ | apply keep_drewN | apply keep_drew | apply keep_alloc) | exact HK.out)) hk (.inl rfl)); replace HB := Aside0.mk (hb); replace HI0 := Aside0.mk (hi); (try clear hb); (try clear hb2); (try clear hk); (try clear hi)))
 go_ret
 exact ⟨by first | rfl | (simp [errW_none, errW_some] <;> rfl) | (simp [*, errW_none, errW_some] <;> rfl), by repeat (first | (with_reducible first | exact HI0.out | apply IsS112.alloc | apply IsS112.drewN | apply IsS112.drew | apply IsS112.set_1 | apply IsS112.set_2) | exact HI0.out), by repeat (first | (with_reducible first | exact HB.out | apply below_alloc | apply pw_below_drewN | apply below_drew1 | refine below_set ?_ (IsS112.ge HI0.out)) | exact HB.out), by repeat (first | (with_reducible first | exact HK.out | apply KeepBut.set_ | apply keep_drewN | apply keep_drew | apply keep_alloc) | exact HK.out)⟩

/-! ### spec_DrawCover: function 38 -/
def spec_DrawCover.f (k : Nat) (l0 : List Int) : Option (Int × Int) := (spec_l01New.f k l0).bind fun bt495 => ((spec_l01DrawAddr.f bt495.1 bt495.2.1 bt495.2.2).bind fun bt499 => ((spec_l01Below.f bt495.1 bt499.2.1 bt499.2.2 300).bind fun bt502 => ((spec_l01Below.f bt495.1 bt502.2.1 bt502.2.2 300).bind fun bt505 => ((spec_l01DrawAddr.f bt495.1 bt505.2.1 bt505.2.2).bind fun bt508 => ((spec_l01PickInt.f bt495.1 bt508.2.1 bt508.2.2 (([bt499.1, wrap64 (bt499.1 + bt502.1), wrap64 (bt499.1 + bt505.1), bt508.1, wrap64 (bt499.1 - 1)] : List Int))).bind fun bt514 => (some (bt499.1, bt514.1)))))))
theorem spec_DrawCover.mono : ∀ a0 k, LeO (spec_DrawCover.f k a0) (spec_DrawCover.f (k + 1) a0) := by
 intro a0 k
 unfold spec_DrawCover.f
 repeat' first
   | (with_reducible exact spec_l01New.mono _ _)
   | (with_reducible exact LeO.refl _)
   | (with_reducible exact LeO.none _)
   | (with_reducible refine LeO.ite ?_ ?_)
   | (with_reducible refine LeO.bind ?_ (fun _ => ?_))
   | exact spec_l01New.mono _ _
   | exact LeO.none _
   | refine LeO.ite ?_ ?_
   | refine LeO.bind ?_ (fun _ => ?_)
set_option maxHeartbeats 8000000 in
set_option maxRecDepth 100000 in
theorem spec_DrawCover.calls (k : Nat) (A0 : Option Addr) (c0 : Nat) (l0 : List Int) (r1 : Int) (r2 : Int) (w : World) (hr0 : Kd.C (Kd.int .u8) w A0 l0.length l0) (hc0 : l0.length ≤ c0) (h : spec_DrawCover.f k l0 = some (r1, r2)) :
  Calls Try.prog 38 #[.slice A0 l0.length c0] w fun e w' => e = .returned (.tuple #[.int .i64 r1, .int .i64 r2]) ∧ Below w.heap.size w w' := by
 have HR0 := Aside0.mk hr0
 have HC0 := Aside0.mk hc0
 clear hr0 hc0
 have HB := Aside0.mk (Below.refl w.heap.size w)
 have H : ((spec_l01New.f k l0).bind fun bt495 => ((spec_l01DrawAddr.f bt495.1 bt495.2.1 bt495.2.2).bind fun bt499 => ((spec_l01Below.f bt495.1 bt499.2.1 bt499.2.2 300).bind fun bt502 => ((spec_l01Below.f bt495.1 bt502.2.1 bt502.2.2 300).bind fun bt505 => ((spec_l01DrawAddr.f bt495.1 bt505.2.1 bt505.2.2).bind fun bt508 => ((spec_l01PickInt.f bt495.1 bt508.2.1 bt508.2.2 (([bt499.1, wrap64 (bt499.1 + bt502.1), wrap64 (bt499.1 + bt505.1), bt508.1, wrap64 (bt499.1 - 1)] : List Int))).bind fun bt514 => (some (bt499.1, bt514.1)))))))) = some (r1, r2) := h
 clear h
 replace H := Option.bind_eq_some_iff.mp H
 obtain ⟨⟨t495, t496, t497⟩, A20, H⟩ := H
 have A2 := Aside0.mk A20
 clear A20
 replace H := Option.bind_eq_some_iff.mp H
 obtain ⟨⟨t499, t500, t501⟩, A30, H⟩ := H
 have A3 := Aside0.mk A30
 clear A30
 replace H := Option.bind_eq_some_iff.mp H
 obtain ⟨⟨t502, t503, t504⟩, A40, H⟩ := H
 have A4 := Aside0.mk A40
 clear A40
 replace H := Option.bind_eq_some_iff.mp H
 obtain ⟨⟨t505, t506, t507⟩, A50, H⟩ := H
 have A5 := Aside0.mk A50
 clear A50
 replace H := Option.bind_eq_some_iff.mp H
 obtain ⟨⟨t508, t509, t510⟩, A60, H⟩ := H
 have A6 := Aside0.mk A60
 clear A60
 obtain ⟨y511, hy511⟩ : ∃ y_ : List Int, y_ = (([t499, wrap64 (t499 + t502), wrap64 (t499 + t505), t508, wrap64 (t499 - 1)] : List Int)) := ⟨_, rfl⟩
 replace H : ((spec_l01PickInt.f t495 t509 t510 y511).bind fun bt514 => (some (t499, bt514.1))) = some (r1, r2) := by first | (rw [hy511]; with_reducible exact H) | (have H2_ := (Option.bind_some _ _).symm.trans H; rw [hy511]; with_reducible exact H2_) | (have H2_ := (Option.bind_some _ _).symm.trans H; with_reducible exact H2_) | with_reducible exact H | (rw [hy511]; exact H) | exact H
 have Ny511 := Aside0.mk hy511
 clear hy511
 replace H := Option.bind_eq_some_iff.mp H
 obtain ⟨⟨t514, t515, t516⟩, A70, H⟩ := H
 have A7 := Aside0.mk A70
 clear A70
 simp only [Option.some.injEq, Prod.mk.injEq] at H
 obtain ⟨rfl, rfl⟩ := H
 go_enter Try.func38, Try.ntmps38
 go_wp2_with (first | ((with_reducible refine gate_callee (f := 59) rfl ?_); refine gl_ (some 7) Try.func59 #[.slice A0 l0.length c0] ?_; (with_reducible refine (spec_l01New.calls k _ _ l0 t495 t496 t497 w _ ?side1 ?side2 ?side3 A2.out).mono ?_); (case side1 => exact by_ HB); (case side2 => exact HR0.out); (case side3 => exact HC0.out); rintro e w8 ⟨g498, rfl, hi, hb, hb2⟩; refine ⟨_, rfl, ?_⟩; have HI498 := Aside0.mk hi; replace HB := Aside0.mk (hb); (try clear hb); (try clear hb2); (try clear hk); (try clear hi)) | ((with_reducible refine gate_callee (f := 83) rfl ?_); refine gl_ (some 9) Try.func83 #[.pointer (some ⟨g498, 0, none⟩)] ?_; (with_reducible refine (spec_l01DrawAddr.calls g498 t495 t496 t497 t499 t500 t501 w _ ?side1 ?side2 A3.out).mono ?_); (case side1 => repeat (first | (with_reducible first | exact HI498.out | apply IsS112.alloc | apply IsS112.drewN | apply IsS112.drew | apply IsS112.set_1 | apply IsS112.set_2) | exact HI498.out)); (case side2 => repeat (first | (with_reducible first | exact HB.out | apply below_alloc | apply pw_below_drewN | apply below_drew1 | refine below_set ?_ (IsS112.ge HI498.out)) | exact HB.out)); rintro e w9 ⟨rfl, hi, hb, hk⟩; refine ⟨_, rfl, ?_⟩; replace HB := Aside0.mk (hb); replace HI498 := Aside0.mk (hi); (try clear hb); (try clear hb2); (try clear hk); (try clear hi)) | ((with_reducible refine gate_callee (f := 44) rfl ?_); refine gl_ (some 15) Try.func44 #[.pointer (some ⟨g498, 0, none⟩), .int .i64 300] ?_; (with_reducible refine (spec_l01Below.calls g498 t495 t500 t501 300 t502 t503 t504 w _ ?side1 ?side2 A4.out).mono ?_); (case side1 => repeat (first | (with_reducible first | exact HI498.out | apply IsS112.alloc | apply IsS112.drewN | apply IsS112.drew | apply IsS112.set_1 | apply IsS112.set_2) | exact HI498.out)); (case side2 => repeat (first | (with_reducible first | exact HB.out | apply below_alloc | apply pw_below_drewN | apply below_drew1 | refine below_set ?_ (IsS112.ge HI498.out)) | exact HB.out)); rintro e w10 ⟨rfl, hi, hb, hk⟩; refine ⟨_, rfl, ?_⟩; replace HB := Aside0.mk (hb); replace HI498 := Aside0.mk (hi); (try clear hb); (try clear hb2); (try clear hk); (try clear hi)) | ((with_reducible refine gate_callee (f := 44) rfl ?_); refine gl_ (some 19) Try.func44 #[.pointer (some ⟨g498, 0, none⟩), .int .i64 300] ?_; (with_reducible refine (spec_l01Below.calls g498 t495 t503 t504 300 t505 t506 t507 w _ ?side1 ?side2 A5.out).mono ?_); (case side1 => repeat (first | (with_reducible first | exact HI498.out | apply IsS112.alloc | apply IsS112.drewN | apply IsS112.drew | apply IsS112.set_1 | apply IsS112.set_2) | exact HI498.out)); (case side2 => repeat (first | (with_reducible first | exact HB.out | apply below_alloc | apply pw_below_drewN | apply below_drew1 | refine below_set ?_ (IsS112.ge HI498.out)) | exact HB.out)); rintro e w11 ⟨rfl, hi, hb, hk⟩; refine ⟨_, rfl, ?_⟩; replace HB := Aside0.mk (hb); replace HI498 := Aside0.mk (hi); (try clear hb); (try clear hb2); (try clear hk); (try clear hi)) | ((with_reducible refine gate_callee (f := 83) rfl ?_); refine gl_ (some 22) Try.func83 #[.pointer (some ⟨g498, 0, none⟩)] ?_; (with_reducible refine (spec_l01DrawAddr.calls g498 t495 t506 t507 t508 t509 t510 w _ ?side1 ?side2 A6.out).mono ?_); (case side1 => repeat (first | (with_reducible first | exact HI498.out | apply IsS112.alloc | apply IsS112.drewN | apply IsS112.drew | apply IsS112.set_1 | apply IsS112.set_2) | exact HI498.out)); (case side2 => repeat (first | (with_reducible first | exact HB.out | apply below_alloc | apply pw_below_drewN | apply below_drew1 | refine below_set ?_ (IsS112.ge HI498.out)) | exact HB.out)); rintro e w12 ⟨rfl, hi, hb, hk⟩; refine ⟨_, rfl, ?_⟩; replace HB := Aside0.mk (hb); replace HI498 := Aside0.mk (hi); (try clear hb); (try clear hb2); (try clear hk); (try clear hi)) | ((with_reducible refine gate_dst (N := 25) rfl ?_); refine Kd.R_lit (Kd.int .i64) _ 3 ?hg (N := 25) ?hd (xs := ([t499, wrap64 (t499 + t502), wrap64 (t499 + t505), t508, wrap64 (t499 - 1)] : List Int)) (inner := [.int .i64 t499, .int .i64 (wrap64 (t499 + t502)), .int .i64 (wrap64 (t499 + t505)), .int .i64 t508, .int .i64 (wrap64 (t499 - 1))]) (ok := fun _ => True) (okp := fun _ => True) ?hr ?hp (fun _ hk => hk) trivial (Below.refl _ _) (Nat.le_refl _) (by simp) ?_; (case hd => rfl); (case hg => rfl); (case hr => first | (go_simp; done) | (go_simp; rfl)); (case hp => exact (Reps.one (show Kd.M (Kd.int .i64) _ _ _ t499 [.int .i64 t499] from rfl) (Reps.one (show Kd.M (Kd.int .i64) _ _ _ (wrap64 (t499 + t502)) [.int .i64 (wrap64 (t499 + t502))] from rfl) (Reps.one (show Kd.M (Kd.int .i64) _ _ _ (wrap64 (t499 + t505)) [.int .i64 (wrap64 (t499 + t505))] from rfl) (Reps.one (show Kd.M (Kd.int .i64) _ _ _ t508 [.int .i64 t508] from rfl) (Reps.one (show Kd.M (Kd.int .i64) _ _ _ (wrap64 (t499 - 1)) [.int .i64 (wrap64 (t499 - 1))] from rfl) (Reps.none _ _))))))); intro v512 w13 ho14 hb hg_ hnew_; clear hg_ hnew_; (first | rw [← Ny511.out] at ho14 | (simp only [Int.reduceToNat] at ho14; rw [← Ny511.out] at ho14)); have HO513 := Aside0.mk (Kd.R_lower ho14 (below_size (by repeat (first | (with_reducible first | exact HB.out | apply below_alloc | apply pw_below_drewN | apply below_drew1 | refine below_set ?_ (IsS112.ge HI498.out)) | exact HB.out)))); replace HB := Aside0.mk (below_step (by repeat (first | (with_reducible first | exact HB.out | apply below_alloc | apply pw_below_drewN | apply below_drew1 | refine below_set ?_ (IsS112.ge HI498.out)) | exact HB.out)) hb); replace HI498 := Aside0.mk (IsS112.below (by repeat (first | (with_reducible first | exact HI498.out | apply IsS112.alloc | apply IsS112.drewN | apply IsS112.drew | apply IsS112.set_1 | apply IsS112.set_2) | exact HI498.out)) hb); clear hb ho14; obtain ⟨Ao15, co15, eo15⟩ := Kd.R_slice HO513.out; subst eo15) | ((with_reducible refine gate_callee (f := 43) rfl ?_); refine gl_ (some 26) Try.func43 #[.pointer (some ⟨g498, 0, none⟩), .slice Ao15 y511.length co15] ?_; (with_reducible refine (spec_l01PickInt.calls g498 t495 t509 t510 _ _ y511 t514 t515 t516 w _ ?side1 ?side2 ?side3 ?side4 ?side5 A7.out).mono ?_); (case side1 => repeat (first | (with_reducible first | exact HI498.out | apply IsS112.alloc | apply IsS112.drewN | apply IsS112.drew | apply IsS112.set_1 | apply IsS112.set_2) | exact HI498.out)); (case side2 => repeat (first | (with_reducible first | exact HB.out | apply below_alloc | apply pw_below_drewN | apply below_drew1 | refine below_set ?_ (IsS112.ge HI498.out)) | exact HB.out)); (case side3 => exact rc_ HO513); (case side4 => exact (Kd.R_reads' HO513.out).2.1); (case side5 => exact far_slice (IsS112.own_ne HI498.out HO513.out (by decide))); rintro e w16 ⟨rfl, hi, hb, hk⟩; refine ⟨_, rfl, ?_⟩; replace HO513 := Aside0.mk (Kd.R_mono (Kd.R_keep (IsS112.apart (show IsS112 w _ g498 t495 t509 t510 from by repeat (first | (with_reducible first | exact HI498.out | apply IsS112.alloc | apply IsS112.drewN | apply IsS112.drew | apply IsS112.set_1 | apply IsS112.set_2) | exact HI498.out)) (hd_ HO513) (by decide)) hk (fun _ h => h.2)) (fun _ h => h.1)); replace HB := Aside0.mk (hb); replace HI498 := Aside0.mk (hi); (try clear hb); (try clear hb2); (try clear hk); (try clear hi)))
 go_ret2
 exact ⟨by first | rfl | (simp [errW_none, errW_some] <;> rfl) | (simp [*, errW_none, errW_some] <;> rfl), by repeat (first | (with_reducible first | exact HB.out | apply below_alloc | apply pw_below_drewN | apply below_drew1 | refine below_set ?_ (IsS112.ge HI498.out)) | exact HB.out)⟩

/-! ### laws_alt: function 39 -/
def laws_alt.l0 : Nat → List Int → List Int → Int → Option (List Int)
 | 0, _, _, _ => none
 | k + 1, x0, x5, x6 => if x6 < (x0.length : Int) then (if x6 < 3000 then (if 0 ≤ x6 then (if x5.length < 140737488355328 then (laws_alt.l0 k x0 (x5 ++ [rd x0 x6]) (wrap64 (x6 + 1))) else (none)) else (none)) else (some x5)) else (some x5)
def laws_alt.f (k : Nat) (l0 : List Int) (a1 : Int) : Option (List Int) := laws_alt.l0 k l0 (([(a1) % 256] : List Int)) 0
theorem laws_alt.mono_l : ∀ k, (∀ y0 y1 y2, LeO (laws_alt.l0 k y0 y1 y2) (laws_alt.l0 (k + 1) y0 y1 y2))
 | 0 => fun _ _ _ r h => by simp [laws_alt.l0] at h
 | k + 1 => by
  have ih0 := laws_alt.mono_l k
  ·intro y0 y1 y2
   unfold laws_alt.l0
   repeat' first
   | (with_reducible exact ih0 _ _ _)
   | (with_reducible exact LeO.refl _)
   | (with_reducible exact LeO.none _)
   | (with_reducible refine LeO.ite ?_ ?_)
   | (with_reducible refine LeO.bind ?_ (fun _ => ?_))
   | exact ih0 _ _ _
   | exact LeO.none _
   | refine LeO.ite ?_ ?_
   | refine LeO.bind ?_ (fun _ => ?_)
theorem laws_alt.mono : ∀ a0 a1 k, LeO (laws_alt.f k a0 a1) (laws_alt.f (k + 1) a0 a1) := by
 intro a0 a1 k
 have ih0 := laws_alt.mono_l k
 unfold laws_alt.f
 repeat' first
   | (with_reducible exact ih0 _ _ _)
   | (with_reducible exact LeO.refl _)
   | (with_reducible exact LeO.none _)
   | (with_reducible refine LeO.ite ?_ ?_)
   | (with_reducible refine LeO.bind ?_ (fun _ => ?_))
   | exact ih0 _ _ _
   | exact LeO.none _
   | refine LeO.ite ?_ ?_
   | refine LeO.bind ?_ (fun _ => ?_)
set_option maxHeartbeats 8000000 in
set_option maxRecDepth 100000 in
theorem laws_alt.calls (k : Nat) (A0 : Option Addr) (c0 : Nat) (l0 : List Int) (a1 : Int) (r : List Int) (w : World) (hr0 : Kd.C (Kd.int .u8) w A0 l0.length l0) (hc0 : l0.length ≤ c0) (h : laws_alt.f k l0 a1 = some r) :
  Calls Try.prog 39 #[.slice A0 l0.length c0, .int .i64 a1] w fun e w' => ∃ v0_ : Value, e = .returned (v0_) ∧ Kd.R (Kd.int .u8) 5 w' w.heap.size (fun _ => True) v0_ r ∧ Below w.heap.size w w' := by
 have HR0 := Aside0.mk hr0
 have HC0 := Aside0.mk hc0
 clear hr0 hc0
 have HB := Aside0.mk (Below.refl w.heap.size w)
 have H : (laws_alt.l0 k l0 (([(a1) % 256] : List Int)) 0) = some r := h
 clear h
 obtain ⟨y517, hy517⟩ : ∃ y_ : List Int, y_ = (([(a1) % 256] : List Int)) := ⟨_, rfl⟩
 replace H : (laws_alt.l0 k l0 y517 0) = some r := by first | (rw [hy517]; with_reducible exact H) | (have H2_ := (Option.bind_some _ _).symm.trans H; rw [hy517]; with_reducible exact H2_) | (have H2_ := (Option.bind_some _ _).symm.trans H; with_reducible exact H2_) | with_reducible exact H | (rw [hy517]; exact H) | exact H
 have Ny517 := Aside0.mk hy517
 clear hy517
 have H' := Aside0.mk H
 clear H
 go_enter Try.func39, Try.ntmps39
 go_wp2_with (first | ((with_reducible refine gate_dst (N := 9) rfl ?_); refine Kd.R_lit (Kd.int .u8) _ 5 ?hg (N := 9) ?hd (xs := ([(a1) % 256] : List Int)) (inner := [.int .u8 ((a1) % 256)]) (ok := fun _ => True) (okp := fun _ => True) ?hr ?hp (fun _ hk => hk) trivial (Below.refl _ _) (Nat.le_refl _) (by simp) ?_; (case hd => rfl); (case hg => rfl); (case hr => first | (go_simp; done) | (go_simp; rfl)); (case hp => exact (Reps.one (show Kd.M (Kd.int .u8) _ _ _ ((a1) % 256) [.int .u8 ((a1) % 256)] from rfl) (Reps.none _ _))); intro v518 w3 ho4 hb hg_ hnew_; clear hg_ hnew_; (first | rw [← Ny517.out] at ho4 | (simp only [Int.reduceToNat] at ho4; rw [← Ny517.out] at ho4)); have HO519 := Aside0.mk (Kd.R_lower ho4 (bz_ HB)); replace HB := Aside0.mk (bt_ HB hb); clear hb ho4))
 go_loopg [5, 6] k (fun kq v5 v6 w' => ∃ (x5_1 : List Int) (x6_1 : Int), v6 = .int .i64 x6_1 ∧ Aside0 (laws_alt.l0 kq l0 x5_1 x6_1 = some r) ∧ Aside0 (kq ≤ k) ∧ Aside0 (Kd.R (Kd.int .u8) 5 w' w.heap.size (fun _ => True) v5 x5_1) ∧ Aside0 (Below w.heap.size w w'))
 case atStart => exact ⟨(y517), (0), (by first | rfl | (simp; done) | (simp [*]; done)), H', ⟨Nat.le_refl _⟩, ⟨by (with_reducible repeat (first | apply Kd.R_alloc | apply Kd.R_drewN | apply Kd.R_drew)); exact HO519.out⟩, ⟨by repeat (first | (with_reducible first | exact HB.out | apply below_alloc | apply pw_below_drewN | apply below_drew1) | exact HB.out)⟩⟩
 case round =>
  clear H'
  try clear p2
  try clear c3
  obtain ⟨x5_1, x6_1, rfl, HA, HK1, HO_5, HB⟩ := hrel
  cases gk with
  | zero => exact absurd HA.out (by simp [laws_alt.l0])
  | succ k1 =>
   have H := HA.out
   clear HA
   simp only [laws_alt.l0] at H
   by_cases c5 : x6_1 < (l0.length : Int)
   rotate_left
   ·rw [if_neg c5] at H
    have c5b0 : decide (x6_1 < (l0.length : Int)) = false := decide_eq_false c5
    clear c5
    obtain rfl := Option.some.inj H
    go_wp2
    go_ret
    exact ⟨_, by first | rfl | (simp [errW_none, errW_some] <;> rfl) | (simp [*, errW_none, errW_some] <;> rfl), by (with_reducible repeat (first | apply Kd.R_alloc | apply Kd.R_drewN | apply Kd.R_drew)); exact HO_5.out, by repeat (first | (with_reducible first | exact HB.out | apply below_alloc | apply pw_below_drewN | apply below_drew1) | exact HB.out)⟩
   rw [if_pos c5] at H
   have c5b0 : decide (x6_1 < (l0.length : Int)) = true := decide_eq_true c5
   clear c5
   by_cases c6 : x6_1 < 3000
   rotate_left
   ·rw [if_neg c6] at H
    have c6b0 : decide (x6_1 < 3000) = false := decide_eq_false c6
    clear c6
    obtain rfl := Option.some.inj H
    go_wp2
    go_ret
    exact ⟨_, by first | rfl | (simp [errW_none, errW_some] <;> rfl) | (simp [*, errW_none, errW_some] <;> rfl), by (with_reducible repeat (first | apply Kd.R_alloc | apply Kd.R_drewN | apply Kd.R_drew)); exact HO_5.out, by repeat (first | (with_reducible first | exact HB.out | apply below_alloc | apply pw_below_drewN | apply below_drew1) | exact HB.out)⟩
   rw [if_pos c6] at H
   have c6b0 : decide (x6_1 < 3000) = true := decide_eq_true c6
   clear c6
   by_cases c7 : 0 ≤ x6_1
   rotate_left
   ·rw [if_neg c7] at H
    exact absurd H (by simp)
   rw [if_pos c7] at H
   have c7b0 : decide (0 ≤ x6_1) = true := decide_eq_true c7
   clear c7
   by_cases c8 : x5_1.length < 140737488355328
   rotate_left
   ·rw [if_neg c8] at H
    exact absurd H (by simp)
   rw [if_pos c8] at H
   have LMc8 := Aside0.mk c8
   clear c8
   obtain ⟨y521, hy521⟩ : ∃ y_ : List Int, y_ = (x5_1 ++ [rd l0 x6_1]) := ⟨_, rfl⟩
   replace H : (laws_alt.l0 k1 l0 y521 (wrap64 (x6_1 + 1))) = some r := by first | (rw [hy521]; with_reducible exact H) | (have H2_ := (Option.bind_some _ _).symm.trans H; rw [hy521]; with_reducible exact H2_) | (have H2_ := (Option.bind_some _ _).symm.trans H; with_reducible exact H2_) | with_reducible exact H | (rw [hy521]; exact H) | exact H
   have Ny521 := Aside0.mk hy521
   clear hy521
   have H' := Aside0.mk H
   clear H
   have p520 : 0 ≤ (x6_1 : Int) := of_decide_eq_true (by first | (with_reducible assumption) | assumption)
   have q520 : x6_1 < (l0.length : Int) := of_decide_eq_true (by first | (with_reducible assumption) | assumption)
   obtain ⟨ad520, e520, hx520_0⟩ := Kd.at_int HR0.out x6_1 p520 q520
   cases e520
   replace hx520_0 := (HB.out.cell (World.block_lt_of_cell? w _ hx520_0)).trans hx520_0
   replace p520 := eq_true p520
   replace q520 := eq_true q520
   go_wp2_with (first | ((with_reducible refine gate_builtin (b := .append) (xs := #[.tmp 20, .tmp 25]) rfl ?_); at_builtin; refine Kd.R_append (Kd.int .u8) (w0 := w) w.heap.size rfl (.tmp 20) (.tmp 25) 22 5 (.int .u8 0) 1 rfl Try.underlying22 info5 rfl (by decide) (by omega) u5 x5_1 (rd l0 x6_1) [.int .u8 (rd l0 x6_1)] (fun _ => True) (fun _ => False) rfl rfl ?aP (fun _ hk => hk.elim) ?aF ?aO ?aB ?aS ?aL ?_; (case aP => exact rfl); (case aB => exact (by repeat (first | (with_reducible first | exact HB.out | apply below_alloc | apply pw_below_drewN | apply below_drew1) | exact HB.out))); (case aF => exact (fun _ _ => trivial)); (case aO => exact (hd_ HO_5)); (case aS => exact (bz_ HB)); (case aL => have := LMc8.out; omega); intro v522 w9 ho hb hg hat; rw [← Ny521.out] at ho; have HO523 := Aside0.mk ho; replace HB := Aside0.mk (hb); clear HO_5; clear ho hb hg hat))
   go_roundg k1
   case measure => have := HK1.out; omega
   case rel => exact ⟨(y521), (wrap64 (x6_1 + 1)), (by first | rfl | (simp; done) | (simp [*]; done)), H', ⟨by have := HK1.out; omega⟩, ⟨by (with_reducible repeat (first | apply Kd.R_alloc | apply Kd.R_drewN | apply Kd.R_drew)); exact HO523.out⟩, ⟨by repeat (first | (with_reducible first | exact HB.out | apply below_alloc | apply pw_below_drewN | apply below_drew1) | exact HB.out)⟩⟩

/-! ### impl_Cover_1: function 85 -/
def impl_Cover_1.f (a0_0 : Int) (a0_1 : Int) (l1 : List Int) (l2 : List Int) : Option (Int) := if 0 < (l1.length : Int) then ((impl_Prefix_size.f a0_0 a0_1).bind fun t526 => (if 0 < (l2.length : Int) then (some (mx 0 (wrap64 ((wrap64 ((mn (rd l1 0) (wrap64 ((wrap64 (a0_0 + t526)) - 1))) - (mx (rd l2 0) a0_0))) + 1)))) else (none))) else (none)
def impl_Cover_1.T1 : Bool × List (List Nat × List Nat) := (true, [([], []), ([], []), ([1], [1]), ([], []), ([3], [3]), ([2, 4], [2, 4]), ([5], [5]), ([0, 6], [0, 6]), ([], []), ([], []), ([9], [9]), ([8, 10], [8, 10]), ([7, 11], [7, 11]), ([12], [12]), ([13], [13]), ([14, 4, 0, 1, 2, 3, 4, 5, 6, 7, 8, 9, 10, 11, 12, 13, 14], [14])])
def impl_Cover_1.B1 : List Nat := [0, 0, 2, 0, 8, 30, 62, 127, 0, 0, 512, 1792, 4095, 8191, 16383, 32767]
theorem impl_Cover_1.tab1 : rtab .any (opsOf Try.f85 1) = impl_Cover_1.T1 := by kernel_rfl
theorem impl_Cover_1.bits1 : waitsOk impl_Cover_1.T1.2 impl_Cover_1.B1 = true := by kernel_rfl
set_option maxHeartbeats 8000000 in
set_option maxRecDepth 100000 in
theorem impl_Cover_1.calls (a0_0 : Int) (a0_1 : Int) (A1 : Option Addr) (l1 : List Int) (A2 : Option Addr) (l2 : List Int) (r : Int) (w : World) (hr1 : Kd.C (Kd.int .i64) w A1 l1.length l1) (hr2 : Kd.C (Kd.int .i64) w A2 l2.length l2) (h : impl_Cover_1.f a0_0 a0_1 l1 l2 = some r) :
  Calls Try.prog 85 #[.agg #[.int .i64 a0_0, .int .i64 a0_1], .pointer A1, .pointer A2] w fun e w' => e = .returned (.int .i64 r) ∧ Below w.heap.size w w' := by
 have hu28 := Try.underlying28
 have HR1 := Aside0.mk hr1
 clear hr1
 have HR2 := Aside0.mk hr2
 clear hr2
 have HB := Aside0.mk (Below.refl w.heap.size w)
 have H : (if 0 < (l1.length : Int) then ((impl_Prefix_size.f a0_0 a0_1).bind fun t526 => (if 0 < (l2.length : Int) then (some (mx 0 (wrap64 ((wrap64 ((mn (rd l1 0) (wrap64 ((wrap64 (a0_0 + t526)) - 1))) - (mx (rd l2 0) a0_0))) + 1)))) else (none))) else (none)) = some r := h
 clear h
 by_cases c4 : 0 < (l1.length : Int)
 rotate_left
 ·rw [if_neg c4] at H
  exact absurd H (by simp)
 rw [if_pos c4] at H
 have c4b0 : decide (0 < (l1.length : Int)) = true := decide_eq_true c4
 have c4b1 : decide (0 < l1.length) = true := decide_eq_true (by omega)
 clear c4
 replace H := Option.bind_eq_some_iff.mp H
 obtain ⟨t526, A50, H⟩ := H
 have A5 := Aside0.mk A50
 clear A50
 obtain ⟨ji6, hji6⟩ : ∃ j_ : Int, (mn (rd l1 0) (wrap64 ((wrap64 (a0_0 + t526)) - 1))) = j_ := ⟨_, rfl⟩
 first | rw [hji6] at H | simp only [hji6] at H
 (try rw [hji6] at A5)
 have hji6_ : (if (wrap64 ((wrap64 (a0_0 + t526)) - 1)) < (rd l1 0) then (wrap64 ((wrap64 (a0_0 + t526)) - 1)) else (rd l1 0)) = ji6 := hji6
 by_cases c7 : 0 < (l2.length : Int)
 rotate_left
 ·rw [if_neg c7] at H
  exact absurd H (by simp)
 rw [if_pos c7] at H
 have c7b0 : decide (0 < (l2.length : Int)) = true := decide_eq_true c7
 have c7b1 : decide (0 < l2.length) = true := decide_eq_true (by omega)
 clear c7
 obtain ⟨ji8, hji8⟩ : ∃ j_ : Int, (mx (rd l2 0) a0_0) = j_ := ⟨_, rfl⟩
 first | rw [hji8] at H | simp only [hji8] at H
 (try rw [hji8] at A5)
 have hji8_ : (if (rd l2 0) < a0_0 then a0_0 else (rd l2 0)) = ji8 := hji8
 obtain ⟨ji9, hji9⟩ : ∃ j_ : Int, (mx 0 (wrap64 ((wrap64 ((ji6) - (ji8))) + 1))) = j_ := ⟨_, rfl⟩
 first | rw [hji9] at H | simp only [hji9] at H
 (try rw [hji9] at A5)
 have hji9_ : (if 0 < (wrap64 ((wrap64 ((ji6) - (ji8))) + 1)) then (wrap64 ((wrap64 ((ji6) - (ji8))) + 1)) else 0) = ji9 := hji9
 obtain rfl := Option.some.inj H
 go_enter Try.func85, Try.ntmps85
 try go_wp2_with (first | ((with_reducible refine gate_dst (N := 3) rfl ?_); refine box_event ?hg (N := 3) ?hd (cs := #[.int .i64 a0_0, .int .i64 a0_1]) (t := 28) ?hr ?_; (case hd => rfl); (case hg => rfl); (case hr => first | (go_simp; done) | (go_simp; rfl)); intro gb524 hg w10 hbox hb; have BK524 := Aside0.mk hbox; have GW524 := ge_ HB hg; have GE524 := ge_ HB hg; replace HB := Aside0.mk (bt_ HB hb); clear hb hbox hg))
 replace BK524 := Aside0.mk (blk_drew BK524.out)
 replace HB := Aside0.mk (below_drew1 HB.out)
 have p525 : 0 ≤ (0 : Int) := (by omega)
 have q525 : 0 < (l1.length : Int) := of_decide_eq_true (by first | (with_reducible assumption) | assumption)
 obtain ⟨ad525, e525, hx525_0⟩ := Kd.at_int HR1.out 0 p525 q525
 have hw525_0 := hx525_0
 (try rw [show ((0 : Int)).toNat = 0 from rfl] at hw525_0)
 (try rw [show 0 * 1 = 0 from rfl] at hw525_0)
 (try rw [Addr.add_zero'] at hw525_0)
 cases e525
 have qi525 : (0 < l1.length) = True := eq_true (by omega)
 (try rw [show ((0 : Int)).toNat = 0 from rfl] at hx525_0)
 (try rw [Addr.add_zero'] at hx525_0)
 replace hx525_0 := (HB.out.cell (World.block_lt_of_cell? w _ hx525_0)).trans hx525_0
 replace p525 := eq_true p525
 replace q525 := eq_true q525
 have p527 : 0 ≤ (0 : Int) := (by omega)
 have q527 : 0 < (l2.length : Int) := of_decide_eq_true (by first | (with_reducible assumption) | assumption)
 obtain ⟨ad527, e527, hx527_0⟩ := Kd.at_int HR2.out 0 p527 q527
 have hw527_0 := hx527_0
 (try rw [show ((0 : Int)).toNat = 0 from rfl] at hw527_0)
 (try rw [show 0 * 1 = 0 from rfl] at hw527_0)
 (try rw [Addr.add_zero'] at hw527_0)
 cases e527
 have qi527 : (0 < l2.length) = True := eq_true (by omega)
 (try rw [show ((0 : Int)).toNat = 0 from rfl] at hx527_0)
 (try rw [Addr.add_zero'] at hx527_0)
 replace hx527_0 := (HB.out.cell (World.block_lt_of_cell? w _ hx527_0)).trans hx527_0
 replace p527 := eq_true p527
 replace q527 := eq_true q527
 refine start_ (n := 16) (S := fun w' => w'.cell? ⟨gb524, 0, none⟩ = some (.int .i64 a0_0) ∧ w'.cell? ⟨gb524, 1, none⟩ = some (.int .i64 a0_1) ∧ w'.cell? ad525 = some (.int .i64 (rd l1 0)) ∧ w'.cell? ad527 = some (.int .i64 (rd l2 0))) (ds := []) ba18_11 (by kernel_rfl) rfl rfl ⟨(blk_cell BK524.out 0).trans rfl, (blk_cell BK524.out 1).trans rfl, (hc_ HB hw525_0), (hc_ HB hw527_0)⟩ (fun hHeld => ?_); refine with_tabW impl_Cover_1.tab1 impl_Cover_1.bits1 (fun HT_ HW_ => ?_)
 generalize w10.drew = w11 at BK524 HB hx525_0 hx527_0 hHeld ⊢
 refine pz_ 1 6 ba18_12 HT_ ?_
 refine pz_ 9 14 ba18_13 HT_ ?_
 refine pt_ 0 5 ba18_14 HT_ HW_ hHeld ?_
 refine pt_ 2 7 ba18_15 HT_ HW_ hHeld ?_
 refine pt_ 3 8 ba18_16 HT_ HW_ hHeld ?_
 refine pt_ 8 13 ba18_17 HT_ HW_ hHeld ?_
 refine pt_ 10 15 ba18_18 HT_ HW_ hHeld ?_
 refine pz_ 11 16 ba18_19 HT_ ?_
 refine one_ (i := 4) (N := some 9) ba18_20 rfl rfl (one_of HT_.out (by kernel_rfl)) (by decide) (fun K hK => ?_)
 refine gz_ Try.func69 #[.agg #[.int .i64 a0_0, .int .i64 a0_1]] ?_
 with_reducible refine (impl_Prefix_size.calls a0_0 a0_1 t526 _ A5.out).mono ?_
 rintro e w12 ⟨rfl, hb⟩
 refine ⟨_, rfl, ?_⟩
 replace BK524 := Aside0.mk (bb_ BK524 hb)
 replace HB := Aside0.mk (bt_ HB hb)
 (try clear hb)
 (try clear hb2)
 (try clear hk)
 (try clear hi)
 refine hK.out _ _ ⟨(blk_cell BK524.out 0).trans rfl, (blk_cell BK524.out 1).trans rfl, (hc_ HB hw525_0), (hc_ HB hw527_0)⟩ (fun hHeld => ?_)
 clear hK K
 refine nz_ 9 ?_
 refine pz_ 5 10 ba18_21 HT_ ?_
 refine pz_ 6 11 ba18_22 HT_ ?_
 refine pz_ 7 12 ba18_23 HT_ ?_
 refine pz_ 12 17 ba18_24 HT_ ?_
 refine pz_ 13 18 ba18_25 HT_ ?_
 refine pz_ 14 19 ba18_26 HT_ ?_
 refine pz_ 15 4 ba18_27 HT_ ?_
 refine done_ (done_of HT_.out (by kernel_rfl)) ?_
 try go_wp2
 go_ret
 exact ⟨by first | rfl | (simp [errW_none, errW_some] <;> rfl) | (simp only [← hji6, ← hji8, ← hji9]; first | rfl | (simp [errW_none, errW_some] <;> rfl)) | (simp [*, errW_none, errW_some] <;> rfl), by repeat (first | (with_reducible first | exact HB.out | apply below_alloc | apply pw_below_drewN | apply below_drew1 | refine below_set ?_ GE524.out) | exact HB.out)⟩

end Go.Proofs.Ytjepmdngbafonaa.QFnAggregate
