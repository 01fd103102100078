/- Contracts of functions that the law reaches: what each call returns and what it leaves in memory. Made by this session over the print of the kit. -/
import Derived.Test.YtjepmdngbafonaaQFnRoutesx0
import Derived.Test.YtjepmdngbafonaaQFnRoutesx2
namespace Go.Proofs.Ytjepmdngbafonaa.QFnRoutes
open Go.RowKit Go.Proofs.YtjepmdngbafonaaR.PrintWords Go.Proofs.YtjepmdngbafonaaR.PrintLast Go.Proofs.YtjepmdngbafonaaR.PrintMore
attribute [local go_sem] max2_int min2_int max_two min_two max_three min_three max_four min_four   -- for this text's walks alone
set_option linter.unusedVariables false
set_option linter.unusedSimpArgs false
def ba8_0 : Array Bool := bs_ 20 0
def ba8_1 : Array Bool := bs_ 20 1
def ba8_2 : Array Bool := bs_ 20 5
def ba8_3 : Array Bool := bs_ 20 69
def ba8_4 : Array Bool := bs_ 20 325
def ba8_5 : Array Bool := bs_ 20 8517
def ba8_6 : Array Bool := bs_ 20 8519
def ba8_7 : Array Bool := bs_ 20 8527
def ba8_8 : Array Bool := bs_ 20 8543
def ba8_9 : Array Bool := bs_ 20 8575
def ba8_10 : Array Bool := bs_ 20 8703
def ba8_11 : Array Bool := bs_ 20 9215
def ba8_12 : Array Bool := bs_ 20 10239
def ba8_13 : Array Bool := bs_ 20 26623
def ba8_14 : Array Bool := bs_ 20 59391
def ba8_15 : Array Bool := bs_ 20 61439
def ba8_16 : Array Bool := bs_ 20 65535
def ba8_17 : Array Bool := bs_ 20 131071
def ba8_18 : Array Bool := bs_ 20 262143
def ba8_19 : Array Bool := bs_ 20 524287
def ba8_20 : Array Bool := bs_ 20 1048575

/-! ### spec_Halves: function 95 -/
def spec_Halves.f (a0_0 : Int) (a0_1 : Int) : Option (Int × Int × Int × Int × Bool) := (spec_PrefixOk.f a0_0 a0_1).bind fun t242 => (if t242 = true then (if a0_1 = 16 then (some (0, 0, 0, 0, false)) else ((spec_l01Size2.f (wrap64 (a0_1 + 1))).bind fun t243 => (some (a0_0, wrap64 (a0_1 + 1), wrap64 (a0_0 + t243), wrap64 (a0_1 + 1), true)))) else (some (0, 0, 0, 0, false)))
def spec_Halves.T3 : Bool × List (List Nat × List Nat) := (true, [([], []), ([0], [0]), ([], []), ([2], [2]), ([3], [3]), ([1, 4], [1, 4]), ([], []), ([6], [6]), ([], []), ([8], [8]), ([9], [9]), ([10], [10]), ([7, 11], [7, 11]), ([], []), ([13], [13]), ([14], [14]), ([12, 15], [12, 15]), ([5, 11, 0, 1, 2, 3, 4, 5], [5]), ([16, 17, 0, 1, 2, 3, 4, 5, 6, 7, 8, 9, 10, 11, 12, 13, 14, 15, 16, 17], [16]), ([18, 0, 1, 2, 3, 4, 5, 6, 7, 8, 9, 10, 11, 12, 13, 14, 15, 16, 17, 18], [])])
def spec_Halves.B3 : List Nat := [0, 1, 0, 4, 12, 31, 0, 64, 0, 256, 768, 1792, 4032, 0, 8192, 24576, 65472, 3903, 262143, 524287]
theorem spec_Halves.tab3 : rtab .any (opsOf Try.f95 3) = spec_Halves.T3 := by kernel_rfl
theorem spec_Halves.bits3 : waitsOk spec_Halves.T3.2 spec_Halves.B3 = true := by kernel_rfl
set_option maxHeartbeats 8000000 in
set_option maxRecDepth 100000 in
theorem spec_Halves.calls (a0_0 : Int) (a0_1 : Int) (r1 : Int) (r2 : Int) (r3 : Int) (r4 : Int) (r5 : Bool) (w : World) (h : spec_Halves.f a0_0 a0_1 = some (r1, r2, r3, r4, r5)) :
  Calls Try.prog 95 #[.agg #[.int .i64 a0_0, .int .i64 a0_1]] w fun e w' => e = .returned (.tuple #[.agg #[.int .i64 r1, .int .i64 r2], .agg #[.int .i64 r3, .int .i64 r4], .bool r5]) ∧ Below w.heap.size w w' := by
 have hu28 := Try.underlying28
 have HB := Aside0.mk (Below.refl w.heap.size w)
 have H : ((spec_PrefixOk.f a0_0 a0_1).bind fun t242 => (if t242 = true then (if a0_1 = 16 then (some (0, 0, 0, 0, false)) else ((spec_l01Size2.f (wrap64 (a0_1 + 1))).bind fun t243 => (some (a0_0, wrap64 (a0_1 + 1), wrap64 (a0_0 + t243), wrap64 (a0_1 + 1), true)))) else (some (0, 0, 0, 0, false)))) = some (r1, r2, r3, r4, r5) := h
 clear h
 replace H := Option.bind_eq_some_iff.mp H
 obtain ⟨t242, A20, H⟩ := H
 have A2 := Aside0.mk A20
 clear A20
 by_cases c3 : t242 = true
 rotate_left
 ·replace c3 := Bool.eq_false_iff.mpr c3
  subst c3
  rw [if_neg (show ¬ (false = true) by decide)] at H
  simp only [Option.some.injEq, Prod.mk.injEq] at H
  obtain ⟨rfl, rfl, rfl, rfl, rfl⟩ := H
  go_enter Try.func95, Try.ntmps95
  go_wp2_with (first | ((with_reducible refine gate_dst (N := 1) rfl ?_); refine box_event ?hg (N := 1) ?hd (cs := #[.int .i64 a0_0, .int .i64 a0_1]) (t := 28) ?hr ?_; (case hd => rfl); (case hg => rfl); (case hr => first | (go_simp; done) | (go_simp; rfl)); intro gb239 hg w30 hbox hb; have BK239 := Aside0.mk hbox; have GW239 := ge_ HB hg; have GE239 := ge_ HB hg; replace HB := at_ HB hb; clear hb hbox hg) | ((with_reducible refine gate_dst (N := 2) rfl ?_); refine box_event ?hg (N := 2) ?hd (cs := #[.int .i64 0, .int .i64 0]) (t := 28) ?hr ?_; (case hd => rfl); (case hg => rfl); (case hr => first | (go_simp; done) | (go_simp; rfl)); intro gb240 hg w31 hbox hb; have BK240 := Aside0.mk hbox; have GW240 := ge_ HB hg; have GE240 := ge_ HB hg; have NB239_240 := nl_ BK239 hg; have NB240_239 := ng_ BK239 hg; replace HB := at_ HB hb; replace BK239 := ab_ BK239 hb; clear hb hbox hg) | ((with_reducible refine gate_dst (N := 3) rfl ?_); refine box_event ?hg (N := 3) ?hd (cs := #[.int .i64 0, .int .i64 0]) (t := 28) ?hr ?_; (case hd => rfl); (case hg => rfl); (case hr => first | (go_simp; done) | (go_simp; rfl)); intro gb241 hg w32 hbox hb; have BK241 := Aside0.mk hbox; have GW241 := ge_ HB hg; have GE241 := ge_ HB hg; have NB239_241 := nl_ BK239 hg; have NB241_239 := ng_ BK239 hg; have NB240_241 := nl_ BK240 hg; have NB241_240 := ng_ BK240 hg; replace HB := at_ HB hb; replace BK239 := ab_ BK239 hb; replace BK240 := ab_ BK240 hb; clear hb hbox hg; have hnb33 := NB239_240.out; have hnc33 := NB240_239.out; have hnb34 := NB239_241.out; have hnc34 := NB241_239.out; have hcz35_0 := cz_ BK239 0 (.int .i64 a0_0); have hcz35_1 := cz_ BK239 1 (.int .i64 a0_1); have hfz35_0 := fz_ BK239 0; have hfz35_1 := fz_ BK239 1) | ((with_reducible refine gate_callee (f := 55) rfl ?_); refine gl_ (some 6) Try.func55 #[.agg #[.int .i64 a0_0, .int .i64 a0_1]] ?_; (with_reducible refine (spec_PrefixOk.calls a0_0 a0_1 false _ A2.out).mono ?_); rintro e w36 ⟨rfl, hb⟩; refine ⟨_, rfl, ?_⟩; replace BK239 := ab_ BK239 hb; replace BK240 := ab_ BK240 hb; replace BK241 := ab_ BK241 hb; replace HB := at_ HB hb; (try clear hb); (try clear hb2); (try clear hk); (try clear hi); have hnb37 := NB240_241.out; have hnc37 := NB241_240.out; have hcz38_0 := cz_ BK240 0 (.int .i64 0); have hcz38_1 := cz_ BK240 1 (.int .i64 0); have hfz38_0 := fz_ BK240 0; have hfz38_1 := fz_ BK240 1; have hcz39_0 := cz_ BK241 0 (.int .i64 0); have hcz39_1 := cz_ BK241 1 (.int .i64 0); have hfz39_0 := fz_ BK241 0; have hfz39_1 := fz_ BK241 1))
  refine bodyPost_ret (results_list (rs := [.cell 2 28, .cell 3 28, .tmp 4]) rfl (by simp) (.cell gb240 28 #[.int .i64 0, .int .i64 0] (0, 0) _ rfl (by refine bd_ ?_; refine blk_far ?_ NB240_241.out _; refine bd_ ?_; refine blk_far ?_ NB240_241.out _; refine bd_ ?_; refine blk_put (cs := #[.int .i64 0, .int .i64 0]) ?_ 1 _ rfl; refine bd_ ?_; refine blk_put (cs := #[.int .i64 0, .int .i64 0]) ?_ 0 _ rfl; refine bd_ ?_; exact BK240.out) Try.underlying28 rfl (by kernel_rfl) (.cell gb241 28 #[.int .i64 0, .int .i64 0] (0, 0) _ rfl (by refine bd_ ?_; refine blk_put (cs := #[.int .i64 0, .int .i64 0]) ?_ 1 _ rfl; refine bd_ ?_; refine blk_put (cs := #[.int .i64 0, .int .i64 0]) ?_ 0 _ rfl; refine bd_ ?_; refine blk_far ?_ NB241_240.out _; refine bd_ ?_; refine blk_far ?_ NB241_240.out _; refine bd_ ?_; exact BK241.out) Try.underlying28 rfl (by kernel_rfl) (.tmp .nil)))) rfl ?_
  exact ⟨by first | rfl | (simp [errW_none, errW_some] <;> rfl) | (simp [*, errW_none, errW_some] <;> rfl), bw112_⟩
 subst c3
 rw [if_pos rfl] at H
 by_cases c4 : a0_1 = 16
 ·rw [if_pos c4] at H
  have c4b0 : (a0_1 == 16) = true := beq_iff_eq.mpr c4
  have c4b1 : (a0_1 != 16) = false := bne_eq_false_iff_eq.mpr c4
  clear c4
  simp only [Option.some.injEq, Prod.mk.injEq] at H
  obtain ⟨rfl, rfl, rfl, rfl, rfl⟩ := H
  go_enter Try.func95, Try.ntmps95
  go_wp2_with (first | ((with_reducible refine gate_dst (N := 1) rfl ?_); refine box_event ?hg (N := 1) ?hd (cs := #[.int .i64 a0_0, .int .i64 a0_1]) (t := 28) ?hr ?_; (case hd => rfl); (case hg => rfl); (case hr => first | (go_simp; done) | (go_simp; rfl)); intro gb239 hg w5 hbox hb; have BK239 := Aside0.mk hbox; have GW239 := ge_ HB hg; have GE239 := ge_ HB hg; replace HB := at_ HB hb; clear hb hbox hg) | ((with_reducible refine gate_dst (N := 2) rfl ?_); refine box_event ?hg (N := 2) ?hd (cs := #[.int .i64 0, .int .i64 0]) (t := 28) ?hr ?_; (case hd => rfl); (case hg => rfl); (case hr => first | (go_simp; done) | (go_simp; rfl)); intro gb240 hg w6 hbox hb; have BK240 := Aside0.mk hbox; have GW240 := ge_ HB hg; have GE240 := ge_ HB hg; have NB239_240 := nl_ BK239 hg; have NB240_239 := ng_ BK239 hg; replace HB := at_ HB hb; replace BK239 := ab_ BK239 hb; clear hb hbox hg) | ((with_reducible refine gate_dst (N := 3) rfl ?_); refine box_event ?hg (N := 3) ?hd (cs := #[.int .i64 0, .int .i64 0]) (t := 28) ?hr ?_; (case hd => rfl); (case hg => rfl); (case hr => first | (go_simp; done) | (go_simp; rfl)); intro gb241 hg w7 hbox hb; have BK241 := Aside0.mk hbox; have GW241 := ge_ HB hg; have GE241 := ge_ HB hg; have NB239_241 := nl_ BK239 hg; have NB241_239 := ng_ BK239 hg; have NB240_241 := nl_ BK240 hg; have NB241_240 := ng_ BK240 hg; replace HB := at_ HB hb; replace BK239 := ab_ BK239 hb; replace BK240 := ab_ BK240 hb; clear hb hbox hg; have hnb8 := NB239_240.out; have hnc8 := NB240_239.out; have hnb9 := NB239_241.out; have hnc9 := NB241_239.out; have hcz10_0 := cz_ BK239 0 (.int .i64 a0_0); have hcz10_1 := cz_ BK239 1 (.int .i64 a0_1); have hfz10_0 := fz_ BK239 0; have hfz10_1 := fz_ BK239 1) | ((with_reducible refine gate_callee (f := 55) rfl ?_); refine gl_ (some 6) Try.func55 #[.agg #[.int .i64 a0_0, .int .i64 a0_1]] ?_; (with_reducible refine (spec_PrefixOk.calls a0_0 a0_1 true _ A2.out).mono ?_); rintro e w11 ⟨rfl, hb⟩; refine ⟨_, rfl, ?_⟩; replace BK239 := ab_ BK239 hb; replace BK240 := ab_ BK240 hb; replace BK241 := ab_ BK241 hb; replace HB := at_ HB hb; (try clear hb); (try clear hb2); (try clear hk); (try clear hi); have hcz12_0 := cz_ BK239 0 (.int .i64 a0_0); have hcz12_1 := cz_ BK239 1 (.int .i64 a0_1); have hfz12_0 := fz_ BK239 0; have hfz12_1 := fz_ BK239 1; have hnb13 := NB240_241.out; have hnc13 := NB241_240.out; have hcz14_0 := cz_ BK240 0 (.int .i64 0); have hcz14_1 := cz_ BK240 1 (.int .i64 0); have hfz14_0 := fz_ BK240 0; have hfz14_1 := fz_ BK240 1; have hcz15_0 := cz_ BK241 0 (.int .i64 0); have hcz15_1 := cz_ BK241 1 (.int .i64 0); have hfz15_0 := fz_ BK241 0; have hfz15_1 := fz_ BK241 1))
  refine bodyPost_ret (results_list (rs := [.cell 2 28, .cell 3 28, .tmp 4]) rfl (by simp) (.cell gb240 28 #[.int .i64 0, .int .i64 0] (0, 0) _ rfl (by refine bd_ ?_; refine blk_far ?_ NB240_241.out _; refine bd_ ?_; refine blk_far ?_ NB240_241.out _; refine bd_ ?_; refine blk_put (cs := #[.int .i64 0, .int .i64 0]) ?_ 1 _ rfl; refine bd_ ?_; refine blk_put (cs := #[.int .i64 0, .int .i64 0]) ?_ 0 _ rfl; refine bd_ ?_; exact BK240.out) Try.underlying28 rfl (by kernel_rfl) (.cell gb241 28 #[.int .i64 0, .int .i64 0] (0, 0) _ rfl (by refine bd_ ?_; refine blk_put (cs := #[.int .i64 0, .int .i64 0]) ?_ 1 _ rfl; refine bd_ ?_; refine blk_put (cs := #[.int .i64 0, .int .i64 0]) ?_ 0 _ rfl; refine bd_ ?_; refine blk_far ?_ NB241_240.out _; refine bd_ ?_; refine blk_far ?_ NB241_240.out _; refine bd_ ?_; exact BK241.out) Try.underlying28 rfl (by kernel_rfl) (.tmp .nil)))) rfl ?_
  exact ⟨by first | rfl | (simp [errW_none, errW_some] <;> rfl) | (simp [*, errW_none, errW_some] <;> rfl), bw112_⟩
 rw [if_neg c4] at H
 have c4b0 : (a0_1 == 16) = false := beq_eq_false_iff_ne.mpr c4
 have c4b1 : (a0_1 != 16) = true := bne_iff_ne.mpr c4
 replace H := Option.bind_eq_some_iff.mp H
 obtain ⟨t243, A160, H⟩ := H
 have A16 := Aside0.mk A160
 clear A160
 simp only [Option.some.injEq, Prod.mk.injEq] at H
 obtain ⟨rfl, rfl, rfl, rfl, rfl⟩ := H
 go_enter Try.func95, Try.ntmps95
 try go_wp2_with (first | ((with_reducible refine gate_dst (N := 1) rfl ?_); refine box_event ?hg (N := 1) ?hd (cs := #[.int .i64 a0_0, .int .i64 a0_1]) (t := 28) ?hr ?_; (case hd => rfl); (case hg => rfl); (case hr => first | (go_simp; done) | (go_simp; rfl)); intro gb239 hg w17 hbox hb; have BK239 := Aside0.mk hbox; have GW239 := ge_ HB hg; have GE239 := ge_ HB hg; replace HB := at_ HB hb; clear hb hbox hg) | ((with_reducible refine gate_dst (N := 2) rfl ?_); refine box_event ?hg (N := 2) ?hd (cs := #[.int .i64 0, .int .i64 0]) (t := 28) ?hr ?_; (case hd => rfl); (case hg => rfl); (case hr => first | (go_simp; done) | (go_simp; rfl)); intro gb240 hg w18 hbox hb; have BK240 := Aside0.mk hbox; have GW240 := ge_ HB hg; have GE240 := ge_ HB hg; have NB239_240 := nl_ BK239 hg; have NB240_239 := ng_ BK239 hg; replace HB := at_ HB hb; replace BK239 := ab_ BK239 hb; clear hb hbox hg) | ((with_reducible refine gate_dst (N := 3) rfl ?_); refine box_event ?hg (N := 3) ?hd (cs := #[.int .i64 0, .int .i64 0]) (t := 28) ?hr ?_; (case hd => rfl); (case hg => rfl); (case hr => first | (go_simp; done) | (go_simp; rfl)); intro gb241 hg w19 hbox hb; have BK241 := Aside0.mk hbox; have GW241 := ge_ HB hg; have GE241 := ge_ HB hg; have NB239_241 := nl_ BK239 hg; have NB241_239 := ng_ BK239 hg; have NB240_241 := nl_ BK240 hg; have NB241_240 := ng_ BK240 hg; replace HB := at_ HB hb; replace BK239 := ab_ BK239 hb; replace BK240 := ab_ BK240 hb; clear hb hbox hg; have hnb20 := NB239_240.out; have hnc20 := NB240_239.out; have hnb21 := NB239_241.out; have hnc21 := NB241_239.out; have hcz22_0 := cz_ BK239 0 (.int .i64 a0_0); have hcz22_1 := cz_ BK239 1 (.int .i64 a0_1); have hfz22_0 := fz_ BK239 0; have hfz22_1 := fz_ BK239 1) | ((with_reducible refine gate_callee (f := 55) rfl ?_); refine gl_ (some 6) Try.func55 #[.agg #[.int .i64 a0_0, .int .i64 a0_1]] ?_; (with_reducible refine (spec_PrefixOk.calls a0_0 a0_1 true _ A2.out).mono ?_); rintro e w23 ⟨rfl, hb⟩; refine ⟨_, rfl, ?_⟩; replace BK239 := ab_ BK239 hb; replace BK240 := ab_ BK240 hb; replace BK241 := ab_ BK241 hb; replace HB := at_ HB hb; (try clear hb); (try clear hb2); (try clear hk); (try clear hi); have hcz24_0 := cz_ BK239 0 (.int .i64 a0_0); have hcz24_1 := cz_ BK239 1 (.int .i64 a0_1); have hfz24_0 := fz_ BK239 0; have hfz24_1 := fz_ BK239 1))
 replace BK239 := ad_ BK239
 replace BK240 := ad_ BK240
 replace BK241 := ad_ BK241
 replace HB := Aside0.mk (below_drew1 HB.out)
 refine start_ (n := 20) (S := fun w' => w'.cell? ⟨gb239, 0, none⟩ = some (.int .i64 a0_0) ∧ w'.cell? ⟨gb239, 1, none⟩ = some (.int .i64 a0_1)) (ds := []) ba8_0 (by kernel_rfl) rfl rfl ⟨(blk_cell BK239.out 0).trans rfl, (blk_cell BK239.out 1).trans rfl⟩ (fun hHeld => ?_); refine with_tabW spec_Halves.tab3 spec_Halves.bits3 (fun HT_ HW_ => ?_)
 generalize w23.drew = w25 at BK239 BK240 BK241 HB hHeld ⊢
 refine pz_ 0 15 ba8_1 HT_ ?_
 refine pz_ 2 17 ba8_2 HT_ ?_
 refine pz_ 6 21 ba8_3 HT_ ?_
 refine pz_ 8 23 ba8_4 HT_ ?_
 refine pz_ 13 28 ba8_5 HT_ ?_
 refine pt_ 1 16 ba8_6 HT_ HW_ hHeld ?_
 refine pt_ 3 18 ba8_7 HT_ HW_ hHeld ?_
 refine pz_ 4 19 ba8_8 HT_ ?_
 refine pz_ 5 20 ba8_9 HT_ ?_
 refine pt_ 7 22 ba8_10 HT_ HW_ hHeld ?_
 refine pt_ 9 24 ba8_11 HT_ HW_ hHeld ?_
 refine pz_ 10 25 ba8_12 HT_ ?_
 refine pt_ 14 29 ba8_13 HT_ HW_ hHeld ?_
 refine pz_ 15 30 ba8_14 HT_ ?_
 refine one_ (i := 11) (N := some 26) ba8_15 rfl rfl (one_of HT_.out (by kernel_rfl)) (by decide) (fun K hK => ?_)
 refine gz_ Try.func57 #[.int .i64 (wrap64 (a0_1 + 1))] ?_
 with_reducible refine (spec_l01Size2.calls (wrap64 (a0_1 + 1)) t243 _ A16.out).mono ?_
 rintro e w' ⟨rfl, ⟨nd, rfl⟩⟩
 refine ⟨_, rfl, ?_⟩
 refine hK.out _ _ ⟨(blk_cell BK239.out 0).trans rfl, (blk_cell BK239.out 1).trans rfl⟩ (fun hHeld => ?_)
 clear hK K
 refine nz_ 26 ?_
 refine pz_ 12 27 ba8_16 HT_ ?_
 refine pz_ 16 31 ba8_17 HT_ ?_
 refine one_ (i := 17) (N := none) ba8_18 rfl rfl (one_of HT_.out (by kernel_rfl)) (by decide) (fun K hK => ?_)
 have hs26 : w25.cell? ⟨gb240, 0, none⟩ = some (.int .i64 0) := (blk_cell BK240.out 0).trans rfl
 have hfs26 := fz_ BK240 0
 have hns26_0 := NB239_240.out
 have hns26_2 := NB241_240.out
 have hms26_0 := NB240_239.out
 have hms26_2 := NB240_241.out
 have hs27 : w25.cell? ⟨gb240, 1, none⟩ = some (.int .i64 0) := (blk_cell BK240.out 1).trans rfl
 have hfs27 := fz_ BK240 1
 have hns27_0 := NB239_240.out
 have hns27_2 := NB241_240.out
 have hms27_0 := NB240_239.out
 have hms27_2 := NB240_241.out
 refine skip_ (w1 := ?_) (by rfl) rfl ?_ ?_
 rotate_left; · go_simp; rfl
 refine hK.out _ _ ⟨((cell_far (p := ⟨gb240, _, none⟩) NB239_240.out _).trans (((cell_far (p := ⟨gb240, _, none⟩) NB239_240.out _).trans (hHeld.1)))), ((cell_far (p := ⟨gb240, _, none⟩) NB239_240.out _).trans (((cell_far (p := ⟨gb240, _, none⟩) NB239_240.out _).trans (hHeld.2))))⟩ (fun hHeld => ?_)
 clear hK K
 refine one_ (i := 18) (N := none) ba8_19 rfl rfl (one_of HT_.out (by kernel_rfl)) (by decide) (fun K hK => ?_)
 have hs28 : w25.cell? ⟨gb241, 0, none⟩ = some (.int .i64 0) := (blk_cell BK241.out 0).trans rfl
 have hfs28 := fz_ BK241 0
 have hns28_0 := NB239_241.out
 have hns28_1 := NB240_241.out
 have hms28_0 := NB241_239.out
 have hms28_1 := NB241_240.out
 have hs29 : w25.cell? ⟨gb241, 1, none⟩ = some (.int .i64 0) := (blk_cell BK241.out 1).trans rfl
 have hfs29 := fz_ BK241 1
 have hns29_0 := NB239_241.out
 have hns29_1 := NB240_241.out
 have hms29_0 := NB241_239.out
 have hms29_1 := NB241_240.out
 refine skip_ (w1 := ?_) (by rfl) rfl ?_ ?_
 rotate_left; · go_simp; rfl
 refine hK.out _ _ ⟨((cell_far (p := ⟨gb241, _, none⟩) NB239_241.out _).trans (((cell_far (p := ⟨gb241, _, none⟩) NB239_241.out _).trans (hHeld.1)))), ((cell_far (p := ⟨gb241, _, none⟩) NB239_241.out _).trans (((cell_far (p := ⟨gb241, _, none⟩) NB239_241.out _).trans (hHeld.2))))⟩ (fun hHeld => ?_)
 clear hK K
 refine pz_ 19 4 ba8_20 HT_ ?_
 refine done_ (done_of HT_.out (by kernel_rfl)) ?_
 try go_wp2
 refine bodyPost_ret (results_list (rs := [.cell 2 28, .cell 3 28, .tmp 4]) rfl (by simp) (.cell gb240 28 #[.int .i64 a0_0, .int .i64 (wrap64 (a0_1 + 1))] (0, 0) _ rfl (by refine bd_ ?_; refine blk_far ?_ NB240_241.out _; refine bd_ ?_; refine blk_far ?_ NB240_241.out _; refine bd_ ?_; refine blk_put (cs := #[.int .i64 a0_0, .int .i64 0]) ?_ 1 _ rfl; refine bd_ ?_; refine blk_put (cs := #[.int .i64 0, .int .i64 0]) ?_ 0 _ rfl; refine bd_ ?_; exact BK240.out) Try.underlying28 rfl (by kernel_rfl) (.cell gb241 28 #[.int .i64 (wrap64 (a0_0 + t243)), .int .i64 (wrap64 (a0_1 + 1))] (0, 0) _ rfl (by refine bd_ ?_; refine blk_put (cs := #[.int .i64 (wrap64 (a0_0 + t243)), .int .i64 0]) ?_ 1 _ rfl; refine bd_ ?_; refine blk_put (cs := #[.int .i64 0, .int .i64 0]) ?_ 0 _ rfl; refine bd_ ?_; refine blk_far ?_ NB241_240.out _; refine bd_ ?_; refine blk_far ?_ NB241_240.out _; refine bd_ ?_; exact BK241.out) Try.underlying28 rfl (by kernel_rfl) (.tmp .nil)))) rfl ?_
 exact ⟨by first | rfl | (simp [errW_none, errW_some] <;> rfl) | (simp [*, errW_none, errW_some] <;> rfl), bw112_⟩

end Go.Proofs.Ytjepmdngbafonaa.QFnRoutes
