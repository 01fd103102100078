/- Contracts of functions that the law reaches: what each call returns and what it leaves in memory. Made by this session over the print of the kit. -/
import Derived.Test.YtmbaemcnjdgemaaDoorQFnBlocksx0
import Derived.Test.YtmbaemcnjdgemaaDoorQFnBlocksx6
import Derived.Test.YtmbaemcnjdgemaaDoorQFnBlocksx7
namespace Go.Proofs.YtmbaemcnjdgemaaDoor.QFnBlocks
open Go.RowKit Go.Proofs.YtmbaemcnjdgemaaDoorF.PrintWords Go.Proofs.YtmbaemcnjdgemaaDoorF.PrintLast Go.Proofs.YtmbaemcnjdgemaaDoorF.PrintMore
attribute [local go_sem] max2_int min2_int max_two min_two max_three min_three max_four min_four   -- for this text's walks alone
set_option linter.unusedVariables false
set_option linter.unusedSimpArgs false
def ba9_0 : Array Bool := #[false, false, false, false, false, false, false, false, false, false]
def ba9_1 : Array Bool := #[true, false, false, false, false, false, false, false, false, false]
def ba9_2 : Array Bool := #[true, false, false, false, false, true, false, false, false, false]
def ba9_3 : Array Bool := #[true, true, false, false, false, true, false, false, false, false]
def ba9_4 : Array Bool := #[true, true, true, false, false, true, false, false, false, false]
def ba9_5 : Array Bool := #[true, true, true, false, false, true, true, false, false, false]
def ba9_6 : Array Bool := #[true, true, true, true, false, true, true, false, false, false]
def ba9_7 : Array Bool := #[true, true, true, true, true, true, true, false, false, false]
def ba9_8 : Array Bool := #[true, true, true, true, true, true, true, true, false, false]
def ba9_9 : Array Bool := #[true, true, true, true, true, true, true, true, true, false]
def ba9_10 : Array Bool := #[true, true, true, true, true, true, true, true, true, true]
def ba9_11 : Array Bool := #[false, false, false, false, false, false, false, false, false, false, false]
def ba9_12 : Array Bool := #[true, false, false, false, false, false, false, false, false, false, false]
def ba9_13 : Array Bool := #[true, true, false, false, false, false, false, false, false, false, false]
def ba9_14 : Array Bool := #[true, true, false, true, false, false, false, false, false, false, false]
def ba9_15 : Array Bool := #[true, true, true, true, false, false, false, false, false, false, false]
def ba9_16 : Array Bool := #[true, true, true, true, true, false, false, false, false, false, false]
def ba9_17 : Array Bool := #[true, true, true, true, true, true, false, false, false, false, false]
def ba9_18 : Array Bool := #[true, true, true, true, true, true, true, false, false, false, false]
def ba9_19 : Array Bool := #[true, true, true, true, true, true, true, true, false, false, false]
def ba9_20 : Array Bool := #[true, true, true, true, true, true, true, true, true, false, false]
def ba9_21 : Array Bool := #[true, true, true, true, true, true, true, true, true, true, false]
def ba9_22 : Array Bool := #[true, true, true, true, true, true, true, true, true, true, true]

/-! ### impl_Sibling: function 13 -/
def impl_Sibling.f (a0_0 : Int) (a0_1 : Int) : Option (Int × Int × Bool) := (impl_PrefixOk.f a0_0 a0_1).bind fun t254 => (if t254 = true then (if a0_1 = 0 then (some (0, 0, false)) else ((impl_Prefix_size.f a0_0 a0_1).bind fun t255 => (some (Go.bits .xor .i64 a0_0 t255, a0_1, true)))) else (some (0, 0, false)))
def impl_Sibling.T3 : Bool × List (List Nat × List Nat) := (true, [([], []), ([0], [0]), ([], []), ([2], [2]), ([1, 3], [1, 3]), ([], []), ([5], [5]), ([4, 6], [4, 6]), ([7, 3, 0, 1, 2, 3, 4, 5, 6, 7], [7]), ([8, 0, 1, 2, 3, 4, 5, 6, 7, 8], [])])
def impl_Sibling.B3 : List Nat := [0, 1, 0, 4, 15, 0, 32, 127, 255, 511]
theorem impl_Sibling.tab3 : rtab .any (opsOf Tryd.f13 3) = impl_Sibling.T3 := by kernel_rfl
theorem impl_Sibling.bits3 : waitsOk impl_Sibling.T3.2 impl_Sibling.B3 = true := by kernel_rfl
set_option maxHeartbeats 8000000 in
set_option maxRecDepth 100000 in
theorem impl_Sibling.calls (a0_0 : Int) (a0_1 : Int) (r1 : Int) (r2 : Int) (r3 : Bool) (w : World) (h : impl_Sibling.f a0_0 a0_1 = some (r1, r2, r3)) :
  Calls Tryd.prog 13 #[.agg #[.int .i64 a0_0, .int .i64 a0_1]] w fun e w' => e = .returned (.tuple #[.agg #[.int .i64 r1, .int .i64 r2], .bool r3]) ∧ Below w.heap.size w w' := by
 have hu25 := Tryd.underlying25
 have HB := Aside0.mk (Below.refl w.heap.size w)
 have H : ((impl_PrefixOk.f a0_0 a0_1).bind fun t254 => (if t254 = true then (if a0_1 = 0 then (some (0, 0, false)) else ((impl_Prefix_size.f a0_0 a0_1).bind fun t255 => (some (Go.bits .xor .i64 a0_0 t255, a0_1, true)))) else (some (0, 0, false)))) = some (r1, r2, r3) := h
 clear h
 replace H := Option.bind_eq_some_iff.mp H
 obtain ⟨t254, A20, H⟩ := H
 have A2 := Aside0.mk A20
 clear A20
 by_cases c3 : t254 = true
 ·subst c3
  rw [if_pos rfl] at H
  by_cases c4 : a0_1 = 0
  ·rw [if_pos c4] at H
   have c4b0 : (a0_1 == 0) = true := beq_iff_eq.mpr c4
   have c4b1 : (a0_1 != 0) = false := bne_eq_false_iff_eq.mpr c4
   clear c4
   simp only [Option.some.injEq, Prod.mk.injEq] at H
   obtain ⟨rfl, rfl, rfl⟩ := H
   go_enter Tryd.func13, Tryd.ntmps13
   go_wp2_with (first | ((with_reducible refine gate_dst (N := 1) rfl ?_); refine box_event ?hg (N := 1) ?hd (cs := #[.int .i64 a0_0, .int .i64 a0_1]) (t := 25) ?hr ?_; (case hd => rfl); (case hg => rfl); (case hr => first | (go_simp; done) | (go_simp; rfl)); intro gb252 hg w5 hbox hb; have BK252 := Aside0.mk hbox; have GW252 := ge_ HB hg; have GE252 := ge_ HB hg; replace HB := Aside0.mk (bt_ HB hb); clear hb hbox hg) | ((with_reducible refine gate_dst (N := 2) rfl ?_); refine box_event ?hg (N := 2) ?hd (cs := #[.int .i64 0, .int .i64 0]) (t := 25) ?hr ?_; (case hd => rfl); (case hg => rfl); (case hr => first | (go_simp; done) | (go_simp; rfl)); intro gb253 hg w6 hbox hb; have BK253 := Aside0.mk hbox; have GW253 := ge_ HB hg; have GE253 := ge_ HB hg; have NB252_253 := nl_ BK252 hg; have NB253_252 := ng_ BK252 hg; replace HB := Aside0.mk (bt_ HB hb); replace BK252 := Aside0.mk (bb_ BK252 hb); clear hb hbox hg; have hnb7 := NB252_253.out; have hnc7 := NB253_252.out; have hcz8_0 := cz_ BK252 0 (.int .i64 a0_0); have hcz8_1 := cz_ BK252 1 (.int .i64 a0_1); have hfz8_0 := blk_frozen BK252.out 0; have hfz8_1 := blk_frozen BK252.out 1) | ((with_reducible refine gate_callee (f := 32) rfl ?_); refine gl_ (some 5) Tryd.func32 #[.agg #[.int .i64 a0_0, .int .i64 a0_1]] ?_; (with_reducible refine (impl_PrefixOk.calls a0_0 a0_1 true _ A2.out).mono ?_); rintro e w9 ⟨rfl, hb⟩; refine ⟨_, rfl, ?_⟩; replace BK252 := Aside0.mk (bb_ BK252 hb); replace BK253 := Aside0.mk (bb_ BK253 hb); replace HB := Aside0.mk (bt_ HB hb); (try clear hb); (try clear hb2); (try clear hk); (try clear hi); have hcz10_0 := cz_ BK252 0 (.int .i64 a0_0); have hcz10_1 := cz_ BK252 1 (.int .i64 a0_1); have hfz10_0 := blk_frozen BK252.out 0; have hfz10_1 := blk_frozen BK252.out 1; have hcz11_0 := cz_ BK253 0 (.int .i64 0); have hcz11_1 := cz_ BK253 1 (.int .i64 0); have hfz11_0 := blk_frozen BK253.out 0; have hfz11_1 := blk_frozen BK253.out 1))
   refine bodyPost_ret (results_ct rfl _ _ gb253 25 #[.int .i64 0, .int .i64 0] (0, 0) _ rfl (by (with_reducible repeat (first | refine blk_drewN ?_ _ | refine blk_drew ?_ | refine blk_alloc ?_ _)); refine blk_put (cs := #[.int .i64 0, .int .i64 0]) ?_ 1 _ rfl; (with_reducible repeat (first | refine blk_drewN ?_ _ | refine blk_drew ?_ | refine blk_alloc ?_ _)); refine blk_put (cs := #[.int .i64 0, .int .i64 0]) ?_ 0 _ rfl; (with_reducible repeat (first | refine blk_drewN ?_ _ | refine blk_drew ?_ | refine blk_alloc ?_ _)); exact BK253.out) Tryd.underlying25 rfl (by kernel_rfl)) rfl ?_
   exact ⟨by first | rfl | (simp [errW_none, errW_some] <;> rfl) | (simp [*, errW_none, errW_some] <;> rfl), by repeat (first | (with_reducible first | exact HB.out | apply below_alloc | apply pw_below_drewN | apply below_drew1 | refine below_set ?_ GE252.out | refine below_set ?_ GE253.out) | exact HB.out)⟩
  ·rw [if_neg c4] at H
   have c4b0 : (a0_1 == 0) = false := beq_eq_false_iff_ne.mpr c4
   have c4b1 : (a0_1 != 0) = true := bne_iff_ne.mpr c4
   replace H := Option.bind_eq_some_iff.mp H
   obtain ⟨t255, A120, H⟩ := H
   have A12 := Aside0.mk A120
   clear A120
   simp only [Option.some.injEq, Prod.mk.injEq] at H
   obtain ⟨rfl, rfl, rfl⟩ := H
   go_enter Tryd.func13, Tryd.ntmps13
   try go_wp2_with (first | ((with_reducible refine gate_dst (N := 1) rfl ?_); refine box_event ?hg (N := 1) ?hd (cs := #[.int .i64 a0_0, .int .i64 a0_1]) (t := 25) ?hr ?_; (case hd => rfl); (case hg => rfl); (case hr => first | (go_simp; done) | (go_simp; rfl)); intro gb252 hg w13 hbox hb; have BK252 := Aside0.mk hbox; have GW252 := ge_ HB hg; have GE252 := ge_ HB hg; replace HB := Aside0.mk (bt_ HB hb); clear hb hbox hg) | ((with_reducible refine gate_dst (N := 2) rfl ?_); refine box_event ?hg (N := 2) ?hd (cs := #[.int .i64 0, .int .i64 0]) (t := 25) ?hr ?_; (case hd => rfl); (case hg => rfl); (case hr => first | (go_simp; done) | (go_simp; rfl)); intro gb253 hg w14 hbox hb; have BK253 := Aside0.mk hbox; have GW253 := ge_ HB hg; have GE253 := ge_ HB hg; have NB252_253 := nl_ BK252 hg; have NB253_252 := ng_ BK252 hg; replace HB := Aside0.mk (bt_ HB hb); replace BK252 := Aside0.mk (bb_ BK252 hb); clear hb hbox hg; have hnb15 := NB252_253.out; have hnc15 := NB253_252.out; have hcz16_0 := cz_ BK252 0 (.int .i64 a0_0); have hcz16_1 := cz_ BK252 1 (.int .i64 a0_1); have hfz16_0 := blk_frozen BK252.out 0; have hfz16_1 := blk_frozen BK252.out 1) | ((with_reducible refine gate_callee (f := 32) rfl ?_); refine gl_ (some 5) Tryd.func32 #[.agg #[.int .i64 a0_0, .int .i64 a0_1]] ?_; (with_reducible refine (impl_PrefixOk.calls a0_0 a0_1 true _ A2.out).mono ?_); rintro e w17 ⟨rfl, hb⟩; refine ⟨_, rfl, ?_⟩; replace BK252 := Aside0.mk (bb_ BK252 hb); replace BK253 := Aside0.mk (bb_ BK253 hb); replace HB := Aside0.mk (bt_ HB hb); (try clear hb); (try clear hb2); (try clear hk); (try clear hi); have hcz18_0 := cz_ BK252 0 (.int .i64 a0_0); have hcz18_1 := cz_ BK252 1 (.int .i64 a0_1); have hfz18_0 := blk_frozen BK252.out 0; have hfz18_1 := blk_frozen BK252.out 1))
   replace BK252 := Aside0.mk (blk_drew BK252.out)
   replace BK253 := Aside0.mk (blk_drew BK253.out)
   replace HB := Aside0.mk (below_drew1 HB.out)
   refine start_ (n := 10) (S := fun w' => w'.cell? ⟨gb252, 0, none⟩ = some (.int .i64 a0_0) ∧ w'.cell? ⟨gb252, 1, none⟩ = some (.int .i64 a0_1)) (ds := []) ba9_0 (by kernel_rfl) rfl rfl ⟨(blk_cell BK252.out 0).trans rfl, (blk_cell BK252.out 1).trans rfl⟩ (fun hHeld => ?_); refine with_tabW impl_Sibling.tab3 impl_Sibling.bits3 (fun HT_ HW_ => ?_)
   generalize w17.drew = w19 at BK252 BK253 HB hHeld ⊢
   refine pz_ 0 13 ba9_1 HT_ ?_
   refine pz_ 5 18 ba9_2 HT_ ?_
   refine pt_ 1 14 ba9_3 HT_ HW_ hHeld ?_
   refine pt_ 2 15 ba9_4 HT_ HW_ hHeld ?_
   refine pt_ 6 19 ba9_5 HT_ HW_ hHeld ?_
   refine one_ (i := 3) (N := some 16) ba9_6 rfl rfl (one_of HT_.out (by kernel_rfl)) (by decide) (fun K hK => ?_)
   refine gz_ Tryd.func35 #[.agg #[.int .i64 a0_0, .int .i64 a0_1]] ?_
   with_reducible refine (impl_Prefix_size.calls a0_0 a0_1 t255 _ A12.out).mono ?_
   rintro e w20 ⟨rfl, hb⟩
   refine ⟨_, rfl, ?_⟩
   replace BK252 := Aside0.mk (bb_ BK252 hb)
   replace BK253 := Aside0.mk (bb_ BK253 hb)
   replace HB := Aside0.mk (bt_ HB hb)
   (try clear hb)
   (try clear hb2)
   (try clear hk)
   (try clear hi)
   refine hK.out _ _ ⟨(blk_cell BK252.out 0).trans rfl, (blk_cell BK252.out 1).trans rfl⟩ (fun hHeld => ?_)
   clear hK K
   refine nz_ 16 ?_
   refine pz_ 4 17 ba9_7 HT_ ?_
   refine pz_ 7 20 ba9_8 HT_ ?_
   refine one_ (i := 8) (N := none) ba9_9 rfl rfl (one_of HT_.out (by kernel_rfl)) (by decide) (fun K hK => ?_)
   have hs21 : w20.cell? ⟨gb253, 0, none⟩ = some (.int .i64 0) := (blk_cell BK253.out 0).trans rfl
   have hfs21 := blk_frozen BK253.out 0
   have hns21_0 := NB252_253.out
   have hms21_0 := NB253_252.out
   have hs22 : w20.cell? ⟨gb253, 1, none⟩ = some (.int .i64 0) := (blk_cell BK253.out 1).trans rfl
   have hfs22 := blk_frozen BK253.out 1
   have hns22_0 := NB252_253.out
   have hms22_0 := NB253_252.out
   refine skip_ (w1 := ?_) (by rfl) rfl ?_ ?_
   rotate_left; · go_simp; rfl
   refine hK.out _ _ ⟨((cell_far (p := ⟨gb253, _, none⟩) NB252_253.out _).trans (((cell_far (p := ⟨gb253, _, none⟩) NB252_253.out _).trans (hHeld.1)))), ((cell_far (p := ⟨gb253, _, none⟩) NB252_253.out _).trans (((cell_far (p := ⟨gb253, _, none⟩) NB252_253.out _).trans (hHeld.2))))⟩ (fun hHeld => ?_)
   clear hK K
   refine pz_ 9 3 ba9_10 HT_ ?_
   refine done_ (done_of HT_.out (by kernel_rfl)) ?_
   try go_wp2
   refine bodyPost_ret (results_ct rfl _ _ gb253 25 #[.int .i64 (Go.bits .xor .i64 a0_0 t255), .int .i64 a0_1] (0, 0) _ rfl (by (with_reducible repeat (first | refine blk_drewN ?_ _ | refine blk_drew ?_ | refine blk_alloc ?_ _)); refine blk_put (cs := #[.int .i64 (Go.bits .xor .i64 a0_0 t255), .int .i64 0]) ?_ 1 _ rfl; (with_reducible repeat (first | refine blk_drewN ?_ _ | refine blk_drew ?_ | refine blk_alloc ?_ _)); refine blk_put (cs := #[.int .i64 0, .int .i64 0]) ?_ 0 _ rfl; (with_reducible repeat (first | refine blk_drewN ?_ _ | refine blk_drew ?_ | refine blk_alloc ?_ _)); exact BK253.out) Tryd.underlying25 rfl (by kernel_rfl)) rfl ?_
   exact ⟨by first | rfl | (simp [errW_none, errW_some] <;> rfl) | (simp [*, errW_none, errW_some] <;> rfl), by repeat (first | (with_reducible first | exact HB.out | apply below_alloc | apply pw_below_drewN | apply below_drew1 | refine below_set ?_ GE252.out | refine below_set ?_ GE253.out) | exact HB.out)⟩
 ·replace c3 := Bool.eq_false_iff.mpr c3
  subst c3
  rw [if_neg (show ¬ (false = true) by decide)] at H
  simp only [Option.some.injEq, Prod.mk.injEq] at H
  obtain ⟨rfl, rfl, rfl⟩ := H
  go_enter Tryd.func13, Tryd.ntmps13
  go_wp2_with (first | ((with_reducible refine gate_dst (N := 1) rfl ?_); refine box_event ?hg (N := 1) ?hd (cs := #[.int .i64 a0_0, .int .i64 a0_1]) (t := 25) ?hr ?_; (case hd => rfl); (case hg => rfl); (case hr => first | (go_simp; done) | (go_simp; rfl)); intro gb252 hg w23 hbox hb; have BK252 := Aside0.mk hbox; have GW252 := ge_ HB hg; have GE252 := ge_ HB hg; replace HB := Aside0.mk (bt_ HB hb); clear hb hbox hg) | ((with_reducible refine gate_dst (N := 2) rfl ?_); refine box_event ?hg (N := 2) ?hd (cs := #[.int .i64 0, .int .i64 0]) (t := 25) ?hr ?_; (case hd => rfl); (case hg => rfl); (case hr => first | (go_simp; done) | (go_simp; rfl)); intro gb253 hg w24 hbox hb; have BK253 := Aside0.mk hbox; have GW253 := ge_ HB hg; have GE253 := ge_ HB hg; have NB252_253 := nl_ BK252 hg; have NB253_252 := ng_ BK252 hg; replace HB := Aside0.mk (bt_ HB hb); replace BK252 := Aside0.mk (bb_ BK252 hb); clear hb hbox hg; have hnb25 := NB252_253.out; have hnc25 := NB253_252.out; have hcz26_0 := cz_ BK252 0 (.int .i64 a0_0); have hcz26_1 := cz_ BK252 1 (.int .i64 a0_1); have hfz26_0 := blk_frozen BK252.out 0; have hfz26_1 := blk_frozen BK252.out 1) | ((with_reducible refine gate_callee (f := 32) rfl ?_); refine gl_ (some 5) Tryd.func32 #[.agg #[.int .i64 a0_0, .int .i64 a0_1]] ?_; (with_reducible refine (impl_PrefixOk.calls a0_0 a0_1 false _ A2.out).mono ?_); rintro e w27 ⟨rfl, hb⟩; refine ⟨_, rfl, ?_⟩; replace BK252 := Aside0.mk (bb_ BK252 hb); replace BK253 := Aside0.mk (bb_ BK253 hb); replace HB := Aside0.mk (bt_ HB hb); (try clear hb); (try clear hb2); (try clear hk); (try clear hi); have hcz28_0 := cz_ BK253 0 (.int .i64 0); have hcz28_1 := cz_ BK253 1 (.int .i64 0); have hfz28_0 := blk_frozen BK253.out 0; have hfz28_1 := blk_frozen BK253.out 1))
  refine bodyPost_ret (results_ct rfl _ _ gb253 25 #[.int .i64 0, .int .i64 0] (0, 0) _ rfl (by (with_reducible repeat (first | refine blk_drewN ?_ _ | refine blk_drew ?_ | refine blk_alloc ?_ _)); refine blk_put (cs := #[.int .i64 0, .int .i64 0]) ?_ 1 _ rfl; (with_reducible repeat (first | refine blk_drewN ?_ _ | refine blk_drew ?_ | refine blk_alloc ?_ _)); refine blk_put (cs := #[.int .i64 0, .int .i64 0]) ?_ 0 _ rfl; (with_reducible repeat (first | refine blk_drewN ?_ _ | refine blk_drew ?_ | refine blk_alloc ?_ _)); exact BK253.out) Tryd.underlying25 rfl (by kernel_rfl)) rfl ?_
  exact ⟨by first | rfl | (simp [errW_none, errW_some] <;> rfl) | (simp [*, errW_none, errW_some] <;> rfl), by repeat (first | (with_reducible first | exact HB.out | apply below_alloc | apply pw_below_drewN | apply below_drew1 | refine below_set ?_ GE252.out | refine below_set ?_ GE253.out) | exact HB.out)⟩

/-! ### impl_Prefix_has: function 37 -/
def impl_Prefix_has.f (a0_0 : Int) (a0_1 : Int) (a1 : Int) : Option (Bool) := (impl_Prefix_size.f a0_0 a0_1).bind fun t257 => ((impl_within.f a1 a0_0 (wrap64 ((wrap64 (a0_0 + t257)) - 1))).bind fun t258 => (some t258))
def impl_Prefix_has.T1 : Bool × List (List Nat × List Nat) := (true, [([], []), ([], []), ([1], [1]), ([], []), ([3], [3]), ([], []), ([5], [5]), ([4, 6], [4, 6]), ([7], [7]), ([0, 2, 8, 6], [0, 2, 8]), ([9, 9, 0, 1, 2, 3, 4, 5, 6, 7, 8, 9], [9])])
def impl_Prefix_has.B1 : List Nat := [0, 0, 2, 0, 8, 0, 32, 120, 248, 511, 1023]
theorem impl_Prefix_has.tab1 : rtab .any (opsOf Tryd.f37 1) = impl_Prefix_has.T1 := by kernel_rfl
theorem impl_Prefix_has.bits1 : waitsOk impl_Prefix_has.T1.2 impl_Prefix_has.B1 = true := by kernel_rfl
set_option maxHeartbeats 8000000 in
set_option maxRecDepth 100000 in
theorem impl_Prefix_has.calls (a0_0 : Int) (a0_1 : Int) (a1 : Int) (r : Bool) (w : World) (h : impl_Prefix_has.f a0_0 a0_1 a1 = some r) :
  Calls Tryd.prog 37 #[.agg #[.int .i64 a0_0, .int .i64 a0_1], .int .i64 a1] w fun e w' => e = .returned (.bool r) ∧ Below w.heap.size w w' := by
 have hu25 := Tryd.underlying25
 have HB := Aside0.mk (Below.refl w.heap.size w)
 have H : ((impl_Prefix_size.f a0_0 a0_1).bind fun t257 => ((impl_within.f a1 a0_0 (wrap64 ((wrap64 (a0_0 + t257)) - 1))).bind fun t258 => (some t258))) = some r := h
 clear h
 replace H := Option.bind_eq_some_iff.mp H
 obtain ⟨t257, A30, H⟩ := H
 have A3 := Aside0.mk A30
 clear A30
 replace H := Option.bind_eq_some_iff.mp H
 obtain ⟨t258, A40, H⟩ := H
 have A4 := Aside0.mk A40
 clear A40
 obtain rfl := Option.some.inj H
 go_enter Tryd.func37, Tryd.ntmps37
 try go_wp2_with (first | ((with_reducible refine gate_dst (N := 2) rfl ?_); refine box_event ?hg (N := 2) ?hd (cs := #[.int .i64 a0_0, .int .i64 a0_1]) (t := 25) ?hr ?_; (case hd => rfl); (case hg => rfl); (case hr => first | (go_simp; done) | (go_simp; rfl)); intro gb256 hg w5 hbox hb; have BK256 := Aside0.mk hbox; have GW256 := ge_ HB hg; have GE256 := ge_ HB hg; replace HB := Aside0.mk (bt_ HB hb); clear hb hbox hg))
 replace BK256 := Aside0.mk (blk_drew BK256.out)
 replace HB := Aside0.mk (below_drew1 HB.out)
 refine start_ (n := 11) (S := fun w' => w'.cell? ⟨gb256, 0, none⟩ = some (.int .i64 a0_0) ∧ w'.cell? ⟨gb256, 1, none⟩ = some (.int .i64 a0_1)) (ds := []) ba9_11 (by kernel_rfl) rfl rfl ⟨(blk_cell BK256.out 0).trans rfl, (blk_cell BK256.out 1).trans rfl⟩ (fun hHeld => ?_); refine with_tabW impl_Prefix_has.tab1 impl_Prefix_has.bits1 (fun HT_ HW_ => ?_)
 generalize w5.drew = w6 at BK256 HB hHeld ⊢
 refine pz_ 0 5 ba9_12 HT_ ?_
 refine pz_ 1 6 ba9_13 HT_ ?_
 refine pz_ 3 8 ba9_14 HT_ ?_
 refine pt_ 2 7 ba9_15 HT_ HW_ hHeld ?_
 refine pt_ 4 9 ba9_16 HT_ HW_ hHeld ?_
 refine pt_ 5 10 ba9_17 HT_ HW_ hHeld ?_
 refine one_ (i := 6) (N := some 11) ba9_18 rfl rfl (one_of HT_.out (by kernel_rfl)) (by decide) (fun K hK => ?_)
 refine gz_ Tryd.func35 #[.agg #[.int .i64 a0_0, .int .i64 a0_1]] ?_
 with_reducible refine (impl_Prefix_size.calls a0_0 a0_1 t257 _ A3.out).mono ?_
 rintro e w7 ⟨rfl, hb⟩
 refine ⟨_, rfl, ?_⟩
 replace BK256 := Aside0.mk (bb_ BK256 hb)
 replace HB := Aside0.mk (bt_ HB hb)
 (try clear hb)
 (try clear hb2)
 (try clear hk)
 (try clear hi)
 refine hK.out _ _ ⟨(blk_cell BK256.out 0).trans rfl, (blk_cell BK256.out 1).trans rfl⟩ (fun hHeld => ?_)
 clear hK K
 refine nz_ 11 ?_
 refine pz_ 7 12 ba9_19 HT_ ?_
 refine pz_ 8 13 ba9_20 HT_ ?_
 refine one_ (i := 9) (N := some 14) ba9_21 rfl rfl (one_of HT_.out (by kernel_rfl)) (by decide) (fun K hK => ?_)
 refine gz_ Tryd.func54 #[.int .i64 a1, .int .i64 a0_0, .int .i64 (wrap64 ((wrap64 (a0_0 + t257)) - 1))] ?_
 with_reducible refine (impl_within.calls a1 a0_0 (wrap64 ((wrap64 (a0_0 + t257)) - 1)) t258 _ A4.out).mono ?_
 rintro e w' ⟨rfl, ⟨nd, rfl⟩⟩
 refine ⟨_, rfl, ?_⟩
 refine hK.out _ _ ⟨(blk_cell BK256.out 0).trans rfl, (blk_cell BK256.out 1).trans rfl⟩ (fun hHeld => ?_)
 clear hK K
 refine nz_ 14 ?_
 refine pz_ 10 4 ba9_22 HT_ ?_
 refine done_ (done_of HT_.out (by kernel_rfl)) ?_
 try go_wp2
 go_ret
 exact ⟨by first | rfl | (simp [errW_none, errW_some] <;> rfl) | (simp [*, errW_none, errW_some] <;> rfl), by repeat (first | (with_reducible first | exact HB.out | apply below_alloc | apply pw_below_drewN | apply below_drew1 | refine below_set ?_ GE256.out) | exact HB.out)⟩

/-! ### impl_Prefix_covers: function 36 -/
def impl_Prefix_covers.f (a0_0 : Int) (a0_1 : Int) (a1_0 : Int) (a1_1 : Int) : Option (Bool) := if a0_1 ≤ a1_1 then ((impl_Prefix_has.f a0_0 a0_1 a1_0).bind fun t261 => (some t261)) else (some false)
set_option maxHeartbeats 8000000 in
set_option maxRecDepth 100000 in
theorem impl_Prefix_covers.calls (a0_0 : Int) (a0_1 : Int) (a1_0 : Int) (a1_1 : Int) (r : Bool) (w : World) (h : impl_Prefix_covers.f a0_0 a0_1 a1_0 a1_1 = some r) :
  Calls Tryd.prog 36 #[.agg #[.int .i64 a0_0, .int .i64 a0_1], .agg #[.int .i64 a1_0, .int .i64 a1_1]] w fun e w' => e = .returned (.bool r) ∧ Below w.heap.size w w' := by
 have hu25 := Tryd.underlying25
 have HB := Aside0.mk (Below.refl w.heap.size w)
 have H : (if a0_1 ≤ a1_1 then ((impl_Prefix_has.f a0_0 a0_1 a1_0).bind fun t261 => (some t261)) else (some false)) = some r := h
 clear h
 by_cases c3 : a0_1 ≤ a1_1
 ·rw [if_pos c3] at H
  have c3b0 : decide (a0_1 ≤ a1_1) = true := decide_eq_true c3
  clear c3
  replace H := Option.bind_eq_some_iff.mp H
  obtain ⟨t261, A40, H⟩ := H
  have A4 := Aside0.mk A40
  clear A40
  obtain rfl := Option.some.inj H
  go_enter Tryd.func36, Tryd.ntmps36
  go_wp2_with (first | ((with_reducible refine gate_dst (N := 2) rfl ?_); refine box_event ?hg (N := 2) ?hd (cs := #[.int .i64 a0_0, .int .i64 a0_1]) (t := 25) ?hr ?_; (case hd => rfl); (case hg => rfl); (case hr => first | (go_simp; done) | (go_simp; rfl)); intro gb259 hg w5 hbox hb; have BK259 := Aside0.mk hbox; have GW259 := ge_ HB hg; have GE259 := ge_ HB hg; replace HB := Aside0.mk (bt_ HB hb); clear hb hbox hg) | ((with_reducible refine gate_dst (N := 3) rfl ?_); refine box_event ?hg (N := 3) ?hd (cs := #[.int .i64 a1_0, .int .i64 a1_1]) (t := 25) ?hr ?_; (case hd => rfl); (case hg => rfl); (case hr => first | (go_simp; done) | (go_simp; rfl)); intro gb260 hg w6 hbox hb; have BK260 := Aside0.mk hbox; have GW260 := ge_ HB hg; have GE260 := ge_ HB hg; have NB259_260 := nl_ BK259 hg; have NB260_259 := ng_ BK259 hg; replace HB := Aside0.mk (bt_ HB hb); replace BK259 := Aside0.mk (bb_ BK259 hb); clear hb hbox hg; have hnb7 := NB259_260.out; have hnc7 := NB260_259.out; have hcz8_0 := cz_ BK259 0 (.int .i64 a0_0); have hcz8_1 := cz_ BK259 1 (.int .i64 a0_1); have hfz8_0 := blk_frozen BK259.out 0; have hfz8_1 := blk_frozen BK259.out 1; have hcz9_0 := cz_ BK260 0 (.int .i64 a1_0); have hcz9_1 := cz_ BK260 1 (.int .i64 a1_1); have hfz9_0 := blk_frozen BK260.out 0; have hfz9_1 := blk_frozen BK260.out 1) | (go_at_call 37; (with_reducible refine (impl_Prefix_has.calls a0_0 a0_1 a1_0 t261 _ A4.out).mono ?_); rintro e w10 ⟨rfl, hb⟩; replace BK259 := Aside0.mk (bb_ BK259 hb); replace BK260 := Aside0.mk (bb_ BK260 hb); replace HB := Aside0.mk (bt_ HB hb); (try clear hb); (try clear hb2); (try clear hk); (try clear hi)))
  go_ret
  exact ⟨by first | rfl | (simp [errW_none, errW_some] <;> rfl) | (simp [*, errW_none, errW_some] <;> rfl), by repeat (first | (with_reducible first | exact HB.out | apply below_alloc | apply pw_below_drewN | apply below_drew1 | refine below_set ?_ GE259.out | refine below_set ?_ GE260.out) | exact HB.out)⟩
 ·rw [if_neg c3] at H
  have c3b0 : decide (a0_1 ≤ a1_1) = false := decide_eq_false c3
  clear c3
  obtain rfl := Option.some.inj H
  go_enter Tryd.func36, Tryd.ntmps36
  go_wp2_with (first | ((with_reducible refine gate_dst (N := 2) rfl ?_); refine box_event ?hg (N := 2) ?hd (cs := #[.int .i64 a0_0, .int .i64 a0_1]) (t := 25) ?hr ?_; (case hd => rfl); (case hg => rfl); (case hr => first | (go_simp; done) | (go_simp; rfl)); intro gb259 hg w11 hbox hb; have BK259 := Aside0.mk hbox; have GW259 := ge_ HB hg; have GE259 := ge_ HB hg; replace HB := Aside0.mk (bt_ HB hb); clear hb hbox hg) | ((with_reducible refine gate_dst (N := 3) rfl ?_); refine box_event ?hg (N := 3) ?hd (cs := #[.int .i64 a1_0, .int .i64 a1_1]) (t := 25) ?hr ?_; (case hd => rfl); (case hg => rfl); (case hr => first | (go_simp; done) | (go_simp; rfl)); intro gb260 hg w12 hbox hb; have BK260 := Aside0.mk hbox; have GW260 := ge_ HB hg; have GE260 := ge_ HB hg; have NB259_260 := nl_ BK259 hg; have NB260_259 := ng_ BK259 hg; replace HB := Aside0.mk (bt_ HB hb); replace BK259 := Aside0.mk (bb_ BK259 hb); clear hb hbox hg; have hnb13 := NB259_260.out; have hnc13 := NB260_259.out; have hcz14_0 := cz_ BK259 0 (.int .i64 a0_0); have hcz14_1 := cz_ BK259 1 (.int .i64 a0_1); have hfz14_0 := blk_frozen BK259.out 0; have hfz14_1 := blk_frozen BK259.out 1; have hcz15_0 := cz_ BK260 0 (.int .i64 a1_0); have hcz15_1 := cz_ BK260 1 (.int .i64 a1_1); have hfz15_0 := blk_frozen BK260.out 0; have hfz15_1 := blk_frozen BK260.out 1))
  go_ret
  exact ⟨by first | rfl | (simp [errW_none, errW_some] <;> rfl) | (simp [*, errW_none, errW_some] <;> rfl), by repeat (first | (with_reducible first | exact HB.out | apply below_alloc | apply pw_below_drewN | apply below_drew1 | refine below_set ?_ GE259.out | refine below_set ?_ GE260.out) | exact HB.out)⟩

/-! ### impl_CoversPrefix: function 14 -/
def impl_CoversPrefix.f (a0_0 : Int) (a0_1 : Int) (a1_0 : Int) (a1_1 : Int) : Option (Bool) := (impl_PrefixOk.f a0_0 a0_1).bind fun t264 => (if t264 = true then ((impl_PrefixOk.f a1_0 a1_1).bind fun t265 => (if t265 = true then ((impl_Prefix_covers.f a0_0 a0_1 a1_0 a1_1).bind fun t266 => (some t266)) else (some false))) else (some false))
set_option maxHeartbeats 8000000 in
set_option maxRecDepth 100000 in
theorem impl_CoversPrefix.calls (a0_0 : Int) (a0_1 : Int) (a1_0 : Int) (a1_1 : Int) (r : Bool) (w : World) (h : impl_CoversPrefix.f a0_0 a0_1 a1_0 a1_1 = some r) :
  Calls Tryd.prog 14 #[.agg #[.int .i64 a0_0, .int .i64 a0_1], .agg #[.int .i64 a1_0, .int .i64 a1_1]] w fun e w' => e = .returned (.bool r) ∧ Below w.heap.size w w' := by
 have hu25 := Tryd.underlying25
 have HB := Aside0.mk (Below.refl w.heap.size w)
 have H : ((impl_PrefixOk.f a0_0 a0_1).bind fun t264 => (if t264 = true then ((impl_PrefixOk.f a1_0 a1_1).bind fun t265 => (if t265 = true then ((impl_Prefix_covers.f a0_0 a0_1 a1_0 a1_1).bind fun t266 => (some t266)) else (some false))) else (some false))) = some r := h
 clear h
 replace H := Option.bind_eq_some_iff.mp H
 obtain ⟨t264, A30, H⟩ := H
 have A3 := Aside0.mk A30
 clear A30
 by_cases c4 : t264 = true
 ·subst c4
  rw [if_pos rfl] at H
  replace H := Option.bind_eq_some_iff.mp H
  obtain ⟨t265, A50, H⟩ := H
  have A5 := Aside0.mk A50
  clear A50
  by_cases c6 : t265 = true
  ·subst c6
   rw [if_pos rfl] at H
   replace H := Option.bind_eq_some_iff.mp H
   obtain ⟨t266, A70, H⟩ := H
   have A7 := Aside0.mk A70
   clear A70
   obtain rfl := Option.some.inj H
   go_enter Tryd.func14, Tryd.ntmps14
   go_wp2_with (first | ((with_reducible refine gate_dst (N := 2) rfl ?_); refine box_event ?hg (N := 2) ?hd (cs := #[.int .i64 a0_0, .int .i64 a0_1]) (t := 25) ?hr ?_; (case hd => rfl); (case hg => rfl); (case hr => first | (go_simp; done) | (go_simp; rfl)); intro gb262 hg w8 hbox hb; have BK262 := Aside0.mk hbox; have GW262 := ge_ HB hg; have GE262 := ge_ HB hg; replace HB := Aside0.mk (bt_ HB hb); clear hb hbox hg) | ((with_reducible refine gate_dst (N := 3) rfl ?_); refine box_event ?hg (N := 3) ?hd (cs := #[.int .i64 a1_0, .int .i64 a1_1]) (t := 25) ?hr ?_; (case hd => rfl); (case hg => rfl); (case hr => first | (go_simp; done) | (go_simp; rfl)); intro gb263 hg w9 hbox hb; have BK263 := Aside0.mk hbox; have GW263 := ge_ HB hg; have GE263 := ge_ HB hg; have NB262_263 := nl_ BK262 hg; have NB263_262 := ng_ BK262 hg; replace HB := Aside0.mk (bt_ HB hb); replace BK262 := Aside0.mk (bb_ BK262 hb); clear hb hbox hg; have hnb10 := NB262_263.out; have hnc10 := NB263_262.out; have hcz11_0 := cz_ BK262 0 (.int .i64 a0_0); have hcz11_1 := cz_ BK262 1 (.int .i64 a0_1); have hfz11_0 := blk_frozen BK262.out 0; have hfz11_1 := blk_frozen BK262.out 1) | ((with_reducible refine gate_callee (f := 32) rfl ?_); refine gl_ (some 6) Tryd.func32 #[.agg #[.int .i64 a0_0, .int .i64 a0_1]] ?_; (with_reducible refine (impl_PrefixOk.calls a0_0 a0_1 true _ A3.out).mono ?_); rintro e w12 ⟨rfl, hb⟩; refine ⟨_, rfl, ?_⟩; replace BK262 := Aside0.mk (bb_ BK262 hb); replace BK263 := Aside0.mk (bb_ BK263 hb); replace HB := Aside0.mk (bt_ HB hb); (try clear hb); (try clear hb2); (try clear hk); (try clear hi); have hcz13_0 := cz_ BK263 0 (.int .i64 a1_0); have hcz13_1 := cz_ BK263 1 (.int .i64 a1_1); have hfz13_0 := blk_frozen BK263.out 0; have hfz13_1 := blk_frozen BK263.out 1) | (go_at_call 32; (with_reducible refine (impl_PrefixOk.calls a1_0 a1_1 true _ A5.out).mono ?_); rintro e w14 ⟨rfl, hb⟩; replace BK262 := Aside0.mk (bb_ BK262 hb); replace BK263 := Aside0.mk (bb_ BK263 hb); replace HB := Aside0.mk (bt_ HB hb); (try clear hb); (try clear hb2); (try clear hk); (try clear hi); have hcz15_0 := cz_ BK262 0 (.int .i64 a0_0); have hcz15_1 := cz_ BK262 1 (.int .i64 a0_1); have hfz15_0 := blk_frozen BK262.out 0; have hfz15_1 := blk_frozen BK262.out 1; have hcz16_0 := cz_ BK263 0 (.int .i64 a1_0); have hcz16_1 := cz_ BK263 1 (.int .i64 a1_1); have hfz16_0 := blk_frozen BK263.out 0; have hfz16_1 := blk_frozen BK263.out 1) | (go_at_call 36; (with_reducible refine (impl_Prefix_covers.calls a0_0 a0_1 a1_0 a1_1 t266 _ A7.out).mono ?_); rintro e w17 ⟨rfl, hb⟩; replace BK262 := Aside0.mk (bb_ BK262 hb); replace BK263 := Aside0.mk (bb_ BK263 hb); replace HB := Aside0.mk (bt_ HB hb); (try clear hb); (try clear hb2); (try clear hk); (try clear hi)))
   go_ret
   exact ⟨by first | rfl | (simp [errW_none, errW_some] <;> rfl) | (simp [*, errW_none, errW_some] <;> rfl), by repeat (first | (with_reducible first | exact HB.out | apply below_alloc | apply pw_below_drewN | apply below_drew1 | refine below_set ?_ GE262.out | refine below_set ?_ GE263.out) | exact HB.out)⟩
  ·replace c6 := Bool.eq_false_iff.mpr c6
   subst c6
   rw [if_neg (show ¬ (false = true) by decide)] at H
   obtain rfl := Option.some.inj H
   go_enter Tryd.func14, Tryd.ntmps14
   go_wp2_with (first | ((with_reducible refine gate_dst (N := 2) rfl ?_); refine box_event ?hg (N := 2) ?hd (cs := #[.int .i64 a0_0, .int .i64 a0_1]) (t := 25) ?hr ?_; (case hd => rfl); (case hg => rfl); (case hr => first | (go_simp; done) | (go_simp; rfl)); intro gb262 hg w18 hbox hb; have BK262 := Aside0.mk hbox; have GW262 := ge_ HB hg; have GE262 := ge_ HB hg; replace HB := Aside0.mk (bt_ HB hb); clear hb hbox hg) | ((with_reducible refine gate_dst (N := 3) rfl ?_); refine box_event ?hg (N := 3) ?hd (cs := #[.int .i64 a1_0, .int .i64 a1_1]) (t := 25) ?hr ?_; (case hd => rfl); (case hg => rfl); (case hr => first | (go_simp; done) | (go_simp; rfl)); intro gb263 hg w19 hbox hb; have BK263 := Aside0.mk hbox; have GW263 := ge_ HB hg; have GE263 := ge_ HB hg; have NB262_263 := nl_ BK262 hg; have NB263_262 := ng_ BK262 hg; replace HB := Aside0.mk (bt_ HB hb); replace BK262 := Aside0.mk (bb_ BK262 hb); clear hb hbox hg; have hnb20 := NB262_263.out; have hnc20 := NB263_262.out; have hcz21_0 := cz_ BK262 0 (.int .i64 a0_0); have hcz21_1 := cz_ BK262 1 (.int .i64 a0_1); have hfz21_0 := blk_frozen BK262.out 0; have hfz21_1 := blk_frozen BK262.out 1) | ((with_reducible refine gate_callee (f := 32) rfl ?_); refine gl_ (some 6) Tryd.func32 #[.agg #[.int .i64 a0_0, .int .i64 a0_1]] ?_; (with_reducible refine (impl_PrefixOk.calls a0_0 a0_1 true _ A3.out).mono ?_); rintro e w22 ⟨rfl, hb⟩; refine ⟨_, rfl, ?_⟩; replace BK262 := Aside0.mk (bb_ BK262 hb); replace BK263 := Aside0.mk (bb_ BK263 hb); replace HB := Aside0.mk (bt_ HB hb); (try clear hb); (try clear hb2); (try clear hk); (try clear hi); have hcz23_0 := cz_ BK263 0 (.int .i64 a1_0); have hcz23_1 := cz_ BK263 1 (.int .i64 a1_1); have hfz23_0 := blk_frozen BK263.out 0; have hfz23_1 := blk_frozen BK263.out 1) | (go_at_call 32; (with_reducible refine (impl_PrefixOk.calls a1_0 a1_1 false _ A5.out).mono ?_); rintro e w24 ⟨rfl, hb⟩; replace BK262 := Aside0.mk (bb_ BK262 hb); replace BK263 := Aside0.mk (bb_ BK263 hb); replace HB := Aside0.mk (bt_ HB hb); (try clear hb); (try clear hb2); (try clear hk); (try clear hi)))
   go_ret
   exact ⟨by first | rfl | (simp [errW_none, errW_some] <;> rfl) | (simp [*, errW_none, errW_some] <;> rfl), by repeat (first | (with_reducible first | exact HB.out | apply below_alloc | apply pw_below_drewN | apply below_drew1 | refine below_set ?_ GE262.out | refine below_set ?_ GE263.out) | exact HB.out)⟩
 ·replace c4 := Bool.eq_false_iff.mpr c4
  subst c4
  rw [if_neg (show ¬ (false = true) by decide)] at H
  obtain rfl := Option.some.inj H
  go_enter Tryd.func14, Tryd.ntmps14
  go_wp2_with (first | ((with_reducible refine gate_dst (N := 2) rfl ?_); refine box_event ?hg (N := 2) ?hd (cs := #[.int .i64 a0_0, .int .i64 a0_1]) (t := 25) ?hr ?_; (case hd => rfl); (case hg => rfl); (case hr => first | (go_simp; done) | (go_simp; rfl)); intro gb262 hg w25 hbox hb; have BK262 := Aside0.mk hbox; have GW262 := ge_ HB hg; have GE262 := ge_ HB hg; replace HB := Aside0.mk (bt_ HB hb); clear hb hbox hg) | ((with_reducible refine gate_dst (N := 3) rfl ?_); refine box_event ?hg (N := 3) ?hd (cs := #[.int .i64 a1_0, .int .i64 a1_1]) (t := 25) ?hr ?_; (case hd => rfl); (case hg => rfl); (case hr => first | (go_simp; done) | (go_simp; rfl)); intro gb263 hg w26 hbox hb; have BK263 := Aside0.mk hbox; have GW263 := ge_ HB hg; have GE263 := ge_ HB hg; have NB262_263 := nl_ BK262 hg; have NB263_262 := ng_ BK262 hg; replace HB := Aside0.mk (bt_ HB hb); replace BK262 := Aside0.mk (bb_ BK262 hb); clear hb hbox hg; have hnb27 := NB262_263.out; have hnc27 := NB263_262.out; have hcz28_0 := cz_ BK262 0 (.int .i64 a0_0); have hcz28_1 := cz_ BK262 1 (.int .i64 a0_1); have hfz28_0 := blk_frozen BK262.out 0; have hfz28_1 := blk_frozen BK262.out 1) | ((with_reducible refine gate_callee (f := 32) rfl ?_); refine gl_ (some 6) Tryd.func32 #[.agg #[.int .i64 a0_0, .int .i64 a0_1]] ?_; (with_reducible refine (impl_PrefixOk.calls a0_0 a0_1 false _ A3.out).mono ?_); rintro e w29 ⟨rfl, hb⟩; refine ⟨_, rfl, ?_⟩; replace BK262 := Aside0.mk (bb_ BK262 hb); replace BK263 := Aside0.mk (bb_ BK263 hb); replace HB := Aside0.mk (bt_ HB hb); (try clear hb); (try clear hb2); (try clear hk); (try clear hi)))
  go_ret
  exact ⟨by first | rfl | (simp [errW_none, errW_some] <;> rfl) | (simp [*, errW_none, errW_some] <;> rfl), by repeat (first | (with_reducible first | exact HB.out | apply below_alloc | apply pw_below_drewN | apply below_drew1 | refine below_set ?_ GE262.out | refine below_set ?_ GE263.out) | exact HB.out)⟩

/-! ### laws_at: function 15 -/
def laws_at.f (l0 : List Int) (a1 : Int) : Option (Int) := if a1 < (l0.length : Int) then (if 0 ≤ a1 then (some (wrap64 (rd l0 a1))) else (none)) else (some (Int.tmod (wrap64 ((wrap64 (a1 * 13)) + (wrap64 ((l0.length : Int) * 5)))) 256))
set_option maxHeartbeats 8000000 in
set_option maxRecDepth 100000 in
theorem laws_at.calls (A0 : Option Addr) (c0 : Nat) (l0 : List Int) (a1 : Int) (r : Int) (w : World) (hr0 : Kd.C (Kd.int .u8) w A0 l0.length l0) (hc0 : l0.length ≤ c0) (h : laws_at.f l0 a1 = some r) :
  Calls Tryd.prog 15 #[.slice A0 l0.length c0, .int .i64 a1] w fun e w' => e = .returned (.int .i64 r) ∧ Drawn0 w w' := by
 have HR0 := Aside0.mk hr0
 have HC0 := Aside0.mk hc0
 clear hr0 hc0
 have H : (if a1 < (l0.length : Int) then (if 0 ≤ a1 then (some (wrap64 (rd l0 a1))) else (none)) else (some (Int.tmod (wrap64 ((wrap64 (a1 * 13)) + (wrap64 ((l0.length : Int) * 5)))) 256))) = some r := h
 clear h
 by_cases c3 : a1 < (l0.length : Int)
 ·rw [if_pos c3] at H
  have c3b0 : decide (a1 < (l0.length : Int)) = true := decide_eq_true c3
  clear c3
  by_cases c4 : 0 ≤ a1
  ·rw [if_pos c4] at H
   have c4b0 : decide (0 ≤ a1) = true := decide_eq_true c4
   clear c4
   obtain rfl := Option.some.inj H
   have p267 : 0 ≤ (a1 : Int) := of_decide_eq_true (by first | (with_reducible assumption) | assumption)
   have q267 : a1 < (l0.length : Int) := of_decide_eq_true (by first | (with_reducible assumption) | assumption)
   obtain ⟨ad267, e267, hx267_0⟩ := Kd.at_int HR0.out a1 p267 q267
   cases e267
   replace p267 := eq_true p267
   replace q267 := eq_true q267
   go_enter Tryd.func15, Tryd.ntmps15
   go_wp2
   go_ret
   exact ⟨by first | rfl | (simp; done) | (simp [*]; done), by repeat (first | exact Drawn0.refl _ | apply Drawn0.step)⟩
  ·rw [if_neg c4] at H
   exact absurd H (by simp)
 ·rw [if_neg c3] at H
  have c3b0 : decide (a1 < (l0.length : Int)) = false := decide_eq_false c3
  clear c3
  obtain rfl := Option.some.inj H
  go_enter Tryd.func15, Tryd.ntmps15
  go_wp2
  go_ret
  exact ⟨by first | rfl | (simp; done) | (simp [*]; done), by repeat (first | exact Drawn0.refl _ | apply Drawn0.step)⟩

/-! ### impl_HasAddr: function 16 -/
def impl_HasAddr.f (a0_0 : Int) (a0_1 : Int) (a1 : Int) : Option (Bool) := (impl_PrefixOk.f a0_0 a0_1).bind fun t269 => (if t269 = true then ((impl_Prefix_has.f a0_0 a0_1 a1).bind fun t270 => (some t270)) else (some false))
set_option maxHeartbeats 8000000 in
set_option maxRecDepth 100000 in
theorem impl_HasAddr.calls (a0_0 : Int) (a0_1 : Int) (a1 : Int) (r : Bool) (w : World) (h : impl_HasAddr.f a0_0 a0_1 a1 = some r) :
  Calls Tryd.prog 16 #[.agg #[.int .i64 a0_0, .int .i64 a0_1], .int .i64 a1] w fun e w' => e = .returned (.bool r) ∧ Below w.heap.size w w' := by
 have hu25 := Tryd.underlying25
 have HB := Aside0.mk (Below.refl w.heap.size w)
 have H : ((impl_PrefixOk.f a0_0 a0_1).bind fun t269 => (if t269 = true then ((impl_Prefix_has.f a0_0 a0_1 a1).bind fun t270 => (some t270)) else (some false))) = some r := h
 clear h
 replace H := Option.bind_eq_some_iff.mp H
 obtain ⟨t269, A30, H⟩ := H
 have A3 := Aside0.mk A30
 clear A30
 by_cases c4 : t269 = true
 ·subst c4
  rw [if_pos rfl] at H
  replace H := Option.bind_eq_some_iff.mp H
  obtain ⟨t270, A50, H⟩ := H
  have A5 := Aside0.mk A50
  clear A50
  obtain rfl := Option.some.inj H
  go_enter Tryd.func16, Tryd.ntmps16
  go_wp2_with (first | ((with_reducible refine gate_dst (N := 2) rfl ?_); refine box_event ?hg (N := 2) ?hd (cs := #[.int .i64 a0_0, .int .i64 a0_1]) (t := 25) ?hr ?_; (case hd => rfl); (case hg => rfl); (case hr => first | (go_simp; done) | (go_simp; rfl)); intro gb268 hg w6 hbox hb; have BK268 := Aside0.mk hbox; have GW268 := ge_ HB hg; have GE268 := ge_ HB hg; replace HB := Aside0.mk (bt_ HB hb); clear hb hbox hg; have hcz7_0 := cz_ BK268 0 (.int .i64 a0_0); have hcz7_1 := cz_ BK268 1 (.int .i64 a0_1); have hfz7_0 := blk_frozen BK268.out 0; have hfz7_1 := blk_frozen BK268.out 1) | ((with_reducible refine gate_callee (f := 32) rfl ?_); refine gl_ (some 6) Tryd.func32 #[.agg #[.int .i64 a0_0, .int .i64 a0_1]] ?_; (with_reducible refine (impl_PrefixOk.calls a0_0 a0_1 true _ A3.out).mono ?_); rintro e w8 ⟨rfl, hb⟩; refine ⟨_, rfl, ?_⟩; replace BK268 := Aside0.mk (bb_ BK268 hb); replace HB := Aside0.mk (bt_ HB hb); (try clear hb); (try clear hb2); (try clear hk); (try clear hi); have hcz9_0 := cz_ BK268 0 (.int .i64 a0_0); have hcz9_1 := cz_ BK268 1 (.int .i64 a0_1); have hfz9_0 := blk_frozen BK268.out 0; have hfz9_1 := blk_frozen BK268.out 1) | (go_at_call 37; (with_reducible refine (impl_Prefix_has.calls a0_0 a0_1 a1 t270 _ A5.out).mono ?_); rintro e w10 ⟨rfl, hb⟩; replace BK268 := Aside0.mk (bb_ BK268 hb); replace HB := Aside0.mk (bt_ HB hb); (try clear hb); (try clear hb2); (try clear hk); (try clear hi)))
  go_ret
  exact ⟨by first | rfl | (simp [errW_none, errW_some] <;> rfl) | (simp [*, errW_none, errW_some] <;> rfl), by repeat (first | (with_reducible first | exact HB.out | apply below_alloc | apply pw_below_drewN | apply below_drew1 | refine below_set ?_ GE268.out) | exact HB.out)⟩
 ·replace c4 := Bool.eq_false_iff.mpr c4
  subst c4
  rw [if_neg (show ¬ (false = true) by decide)] at H
  obtain rfl := Option.some.inj H
  go_enter Tryd.func16, Tryd.ntmps16
  go_wp2_with (first | ((with_reducible refine gate_dst (N := 2) rfl ?_); refine box_event ?hg (N := 2) ?hd (cs := #[.int .i64 a0_0, .int .i64 a0_1]) (t := 25) ?hr ?_; (case hd => rfl); (case hg => rfl); (case hr => first | (go_simp; done) | (go_simp; rfl)); intro gb268 hg w11 hbox hb; have BK268 := Aside0.mk hbox; have GW268 := ge_ HB hg; have GE268 := ge_ HB hg; replace HB := Aside0.mk (bt_ HB hb); clear hb hbox hg; have hcz12_0 := cz_ BK268 0 (.int .i64 a0_0); have hcz12_1 := cz_ BK268 1 (.int .i64 a0_1); have hfz12_0 := blk_frozen BK268.out 0; have hfz12_1 := blk_frozen BK268.out 1) | ((with_reducible refine gate_callee (f := 32) rfl ?_); refine gl_ (some 6) Tryd.func32 #[.agg #[.int .i64 a0_0, .int .i64 a0_1]] ?_; (with_reducible refine (impl_PrefixOk.calls a0_0 a0_1 false _ A3.out).mono ?_); rintro e w13 ⟨rfl, hb⟩; refine ⟨_, rfl, ?_⟩; replace BK268 := Aside0.mk (bb_ BK268 hb); replace HB := Aside0.mk (bt_ HB hb); (try clear hb); (try clear hb2); (try clear hk); (try clear hi)))
  go_ret
  exact ⟨by first | rfl | (simp [errW_none, errW_some] <;> rfl) | (simp [*, errW_none, errW_some] <;> rfl), by repeat (first | (with_reducible first | exact HB.out | apply below_alloc | apply pw_below_drewN | apply below_drew1 | refine below_set ?_ GE268.out) | exact HB.out)⟩

end Go.Proofs.YtmbaemcnjdgemaaDoor.QFnBlocks
