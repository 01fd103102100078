/- Contracts of functions that the law reaches: what each call returns and what it leaves in memory. Made by this session over the print of the kit. -/
import Derived.Test.YtjepmdngbafonaaQFnRoutesx0
import Derived.Test.YtjepmdngbafonaaQFnRoutesx2
import Derived.Test.YtjepmdngbafonaaQFnRoutesx10
import Derived.Test.YtjepmdngbafonaaQFnRoutesx12
import Derived.Test.YtjepmdngbafonaaQFnRoutesx16
namespace Go.Proofs.Ytjepmdngbafonaa.QFnRoutes
open Go.RowKit Go.Proofs.YtjepmdngbafonaaR.PrintWords Go.Proofs.YtjepmdngbafonaaR.PrintLast Go.Proofs.YtjepmdngbafonaaR.PrintMore
attribute [local go_sem] max2_int min2_int max_two min_two max_three min_three max_four min_four   -- for this text's walks alone
set_option linter.unusedVariables false
set_option linter.unusedSimpArgs false
def ba17_0 : Array Bool := bs_ 11 0
def ba17_1 : Array Bool := bs_ 11 1
def ba17_2 : Array Bool := bs_ 11 3
def ba17_3 : Array Bool := bs_ 11 11
def ba17_4 : Array Bool := bs_ 11 15
def ba17_5 : Array Bool := bs_ 11 31
def ba17_6 : Array Bool := bs_ 11 63
def ba17_7 : Array Bool := bs_ 11 127
def ba17_8 : Array Bool := bs_ 11 255
def ba17_9 : Array Bool := bs_ 11 511
def ba17_10 : Array Bool := bs_ 11 1023
def ba17_11 : Array Bool := bs_ 11 2047

/-! ### spec_FindHop: function 14 -/
def spec_FindHop.f (k : Nat) (l0_0 : List (S30)) (a1 : Int) : Option (Int) := (spec_BestRoute.f k l0_0 a1).bind fun bt475 => (if bt475.2.2.2 = true then (some bt475.2.2.1) else (some (-1)))
theorem spec_FindHop.mono : ∀ a0 a1 k, LeO (spec_FindHop.f k a0 a1) (spec_FindHop.f (k + 1) a0 a1) := by
 intro a0 a1 k
 unfold spec_FindHop.f
 repeat' first | (with_reducible first | exact spec_BestRoute.mono _ _ _ | exact LeO.refl _ | exact LeO.none _ | refine LeO.ite ?_ ?_ | refine LeO.bind ?_ (fun _ => ?_)) | exact spec_BestRoute.mono _ _ _ | exact LeO.none _ | refine LeO.ite ?_ ?_ | refine LeO.bind ?_ (fun _ => ?_)
set_option maxHeartbeats 8000000 in
set_option maxRecDepth 100000 in
theorem spec_FindHop.calls (k : Nat) (A0_0 : Option Addr) (c0_0 : Nat) (l0_0 : List (S30)) (a1 : Int) (r : Int) (w : World) (hr0_0 : Kd.C k30 w A0_0 l0_0.length l0_0) (hc0_0 : l0_0.length ≤ c0_0) (h : spec_FindHop.f k l0_0 a1 = some r) :
  Calls Try.prog 14 #[.agg #[.slice A0_0 l0_0.length c0_0], .int .i64 a1] w fun e w' => e = .returned (.int .i64 r) ∧ Below w.heap.size w w' := by
 have hu26 := Try.underlying26
 have hu30 := Try.underlying30
 have HR0_0 := Aside0.mk hr0_0
 have HC0_0 := Aside0.mk hc0_0
 clear hr0_0 hc0_0
 have HB := Aside0.mk (Below.refl w.heap.size w)
 have H : ((spec_BestRoute.f k l0_0 a1).bind fun bt475 => (if bt475.2.2.2 = true then (some bt475.2.2.1) else (some (-1)))) = some r := h
 clear h
 replace H := Option.bind_eq_some_iff.mp H
 obtain ⟨⟨t475, t476, t477, t478⟩, A30, H⟩ := H
 have A3 := Aside0.mk A30
 clear A30
 by_cases c4 : t478 = true
 ·subst c4
  rw [if_pos rfl] at H
  obtain rfl := Option.some.inj H
  go_enter Try.func14, Try.ntmps14
  go_wp2_with (first | ((with_reducible refine gate_dst (N := 2) rfl ?_); refine box_event ?hg (N := 2) ?hd (cs := #[.slice A0_0 l0_0.length c0_0]) (t := 26) ?hr ?_; (case hd => rfl); (case hg => rfl); (case hr => first | (go_simp; done) | (go_simp; rfl)); intro gb474 hg w5 hbox hb; have BK474 := Aside0.mk hbox; have GW474 := ge_ HB hg; have GE474 := ge_ HB hg; replace HB := at_ HB hb; clear hb hbox hg; have hcz6_0 := cz_ BK474 0 (.slice A0_0 l0_0.length c0_0); have hfz6_0 := fz_ BK474 0) | ((with_reducible refine gate_callee (f := 15) rfl ?_); refine gl_ (some 10) Try.func15 #[.agg #[.slice A0_0 l0_0.length c0_0], .int .i64 a1] ?_; (with_reducible refine (spec_BestRoute.calls k _ _ l0_0 a1 t475 t476 t477 true _ ?side1 ?side2 A3.out).mono ?_); (case side1 => exact cb_ HR0_0 HB); (case side2 => exact HC0_0.out); rintro e w7 ⟨rfl, hb⟩; refine ⟨_, rfl, ?_⟩; replace BK474 := ab_ BK474 hb; replace HB := at_ HB hb; (try clear hb); (try clear hb2); (try clear hk); (try clear hi)) | ((with_reducible refine gate_dst (N := 5) rfl ?_); refine box_event ?hg (N := 5) ?hd (cs := #[.int .i64 0, .int .i64 0, .int .i64 0]) (t := 30) ?hr ?_; (case hd => rfl); (case hg => rfl); (case hr => first | (go_simp; done) | (go_simp; rfl)); intro gb479 hg w8 hbox hb; have BK479 := Aside0.mk hbox; have GW479 := ge_ HB hg; have GE479 := ge_ HB hg; have NB474_479 := nl_ BK474 hg; have NB479_474 := ng_ BK474 hg; replace HB := at_ HB hb; replace BK474 := ab_ BK474 hb; clear hb hbox hg; have hnb9 := NB479_474.out; have hnc9 := NB474_479.out; have hcz10_0 := cz_ BK479 0 (.int .i64 0); have hcz10_1 := cz_ BK479 1 (.int .i64 0); have hcz10_2 := cz_ BK479 2 (.int .i64 0); have hfz10_0 := fz_ BK479 0; have hfz10_1 := fz_ BK479 1; have hfz10_2 := fz_ BK479 2))
  go_ret
  exact ⟨by first | rfl | (simp [errW_none, errW_some] <;> rfl) | (simp [*, errW_none, errW_some] <;> rfl), bw112_⟩
 replace c4 := Bool.eq_false_iff.mpr c4
 subst c4
 rw [if_neg (show ¬ (false = true) by decide)] at H
 obtain rfl := Option.some.inj H
 go_enter Try.func14, Try.ntmps14
 go_wp2_with (first | ((with_reducible refine gate_dst (N := 2) rfl ?_); refine box_event ?hg (N := 2) ?hd (cs := #[.slice A0_0 l0_0.length c0_0]) (t := 26) ?hr ?_; (case hd => rfl); (case hg => rfl); (case hr => first | (go_simp; done) | (go_simp; rfl)); intro gb474 hg w11 hbox hb; have BK474 := Aside0.mk hbox; have GW474 := ge_ HB hg; have GE474 := ge_ HB hg; replace HB := at_ HB hb; clear hb hbox hg; have hcz12_0 := cz_ BK474 0 (.slice A0_0 l0_0.length c0_0); have hfz12_0 := fz_ BK474 0) | ((with_reducible refine gate_callee (f := 15) rfl ?_); refine gl_ (some 10) Try.func15 #[.agg #[.slice A0_0 l0_0.length c0_0], .int .i64 a1] ?_; (with_reducible refine (spec_BestRoute.calls k _ _ l0_0 a1 t475 t476 t477 false _ ?side1 ?side2 A3.out).mono ?_); (case side1 => exact cb_ HR0_0 HB); (case side2 => exact HC0_0.out); rintro e w13 ⟨rfl, hb⟩; refine ⟨_, rfl, ?_⟩; replace BK474 := ab_ BK474 hb; replace HB := at_ HB hb; (try clear hb); (try clear hb2); (try clear hk); (try clear hi)) | ((with_reducible refine gate_dst (N := 5) rfl ?_); refine box_event ?hg (N := 5) ?hd (cs := #[.int .i64 0, .int .i64 0, .int .i64 0]) (t := 30) ?hr ?_; (case hd => rfl); (case hg => rfl); (case hr => first | (go_simp; done) | (go_simp; rfl)); intro gb479 hg w14 hbox hb; have BK479 := Aside0.mk hbox; have GW479 := ge_ HB hg; have GE479 := ge_ HB hg; have NB474_479 := nl_ BK474 hg; have NB479_474 := ng_ BK474 hg; replace HB := at_ HB hb; replace BK474 := ab_ BK474 hb; clear hb hbox hg; have hnb15 := NB479_474.out; have hnc15 := NB474_479.out; have hcz16_0 := cz_ BK479 0 (.int .i64 0); have hcz16_1 := cz_ BK479 1 (.int .i64 0); have hcz16_2 := cz_ BK479 2 (.int .i64 0); have hfz16_0 := fz_ BK479 0; have hfz16_1 := fz_ BK479 1; have hfz16_2 := fz_ BK479 2))
 go_ret
 exact ⟨by first | rfl | (simp [errW_none, errW_some] <;> rfl) | (simp [*, errW_none, errW_some] <;> rfl), bw112_⟩

/-! ### impl_Prefix_has: function 105 -/
def impl_Prefix_has.f (a0_0 : Int) (a0_1 : Int) (a1 : Int) : Option (Bool) := (impl_Prefix_size.f a0_0 a0_1).bind fun t481 => ((impl_within.f a1 a0_0 (wrap64 ((wrap64 (a0_0 + t481)) - 1))).bind fun t482 => (some t482))
def impl_Prefix_has.T1 : Bool × List (List Nat × List Nat) := (true, [([], []), ([], []), ([1], [1]), ([], []), ([3], [3]), ([], []), ([5], [5]), ([4, 6], [4, 6]), ([7], [7]), ([0, 2, 8, 6], [0, 2, 8]), ([9, 9, 0, 1, 2, 3, 4, 5, 6, 7, 8, 9], [9])])
def impl_Prefix_has.B1 : List Nat := [0, 0, 2, 0, 8, 0, 32, 120, 248, 511, 1023]
theorem impl_Prefix_has.tab1 : rtab .any (opsOf Try.f105 1) = impl_Prefix_has.T1 := by kernel_rfl
theorem impl_Prefix_has.bits1 : waitsOk impl_Prefix_has.T1.2 impl_Prefix_has.B1 = true := by kernel_rfl
set_option maxHeartbeats 8000000 in
set_option maxRecDepth 100000 in
theorem impl_Prefix_has.calls (a0_0 : Int) (a0_1 : Int) (a1 : Int) (r : Bool) (w : World) (h : impl_Prefix_has.f a0_0 a0_1 a1 = some r) :
  Calls Try.prog 105 #[.agg #[.int .i64 a0_0, .int .i64 a0_1], .int .i64 a1] w fun e w' => e = .returned (.bool r) ∧ Below w.heap.size w w' := by
 have hu28 := Try.underlying28
 have HB := Aside0.mk (Below.refl w.heap.size w)
 have H : ((impl_Prefix_size.f a0_0 a0_1).bind fun t481 => ((impl_within.f a1 a0_0 (wrap64 ((wrap64 (a0_0 + t481)) - 1))).bind fun t482 => (some t482))) = some r := h
 clear h
 replace H := Option.bind_eq_some_iff.mp H
 obtain ⟨t481, A30, H⟩ := H
 have A3 := Aside0.mk A30
 clear A30
 replace H := Option.bind_eq_some_iff.mp H
 obtain ⟨t482, A40, H⟩ := H
 have A4 := Aside0.mk A40
 clear A40
 obtain rfl := Option.some.inj H
 go_enter Try.func105, Try.ntmps105
 try go_wp2_with ((with_reducible refine gate_dst (N := 2) rfl ?_); refine box_event ?hg (N := 2) ?hd (cs := #[.int .i64 a0_0, .int .i64 a0_1]) (t := 28) ?hr ?_; (case hd => rfl); (case hg => rfl); (case hr => first | (go_simp; done) | (go_simp; rfl)); intro gb480 hg w5 hbox hb; have BK480 := Aside0.mk hbox; have GW480 := ge_ HB hg; have GE480 := ge_ HB hg; replace HB := at_ HB hb; clear hb hbox hg)
 replace BK480 := ad_ BK480
 replace HB := Aside0.mk (below_drew1 HB.out)
 refine start_ (n := 11) (S := fun w' => w'.cell? ⟨gb480, 0, none⟩ = some (.int .i64 a0_0) ∧ w'.cell? ⟨gb480, 1, none⟩ = some (.int .i64 a0_1)) (ds := []) ba17_0 (by kernel_rfl) rfl rfl ⟨(blk_cell BK480.out 0).trans rfl, (blk_cell BK480.out 1).trans rfl⟩ (fun hHeld => ?_); refine with_tabW impl_Prefix_has.tab1 impl_Prefix_has.bits1 (fun HT_ HW_ => ?_)
 generalize w5.drew = w6 at BK480 HB hHeld ⊢
 refine pz_ 0 5 ba17_1 HT_ ?_
 refine pz_ 1 6 ba17_2 HT_ ?_
 refine pz_ 3 8 ba17_3 HT_ ?_
 refine pt_ 2 7 ba17_4 HT_ HW_ hHeld ?_
 refine pt_ 4 9 ba17_5 HT_ HW_ hHeld ?_
 refine pt_ 5 10 ba17_6 HT_ HW_ hHeld ?_
 refine one_ (i := 6) (N := some 11) ba17_7 rfl rfl (one_of HT_.out (by kernel_rfl)) (by decide) (fun K hK => ?_)
 refine gz_ Try.func69 #[.agg #[.int .i64 a0_0, .int .i64 a0_1]] ?_
 with_reducible refine (impl_Prefix_size.calls a0_0 a0_1 t481 _ A3.out).mono ?_
 rintro e w7 ⟨rfl, hb⟩
 refine ⟨_, rfl, ?_⟩
 replace BK480 := ab_ BK480 hb
 replace HB := at_ HB hb
 (try clear hb)
 (try clear hb2)
 (try clear hk)
 (try clear hi)
 refine hK.out _ _ ⟨(blk_cell BK480.out 0).trans rfl, (blk_cell BK480.out 1).trans rfl⟩ (fun hHeld => ?_)
 clear hK K
 refine nz_ 11 ?_
 refine pz_ 7 12 ba17_8 HT_ ?_
 refine pz_ 8 13 ba17_9 HT_ ?_
 refine one_ (i := 9) (N := some 14) ba17_10 rfl rfl (one_of HT_.out (by kernel_rfl)) (by decide) (fun K hK => ?_)
 refine gz_ Try.func88 #[.int .i64 a1, .int .i64 a0_0, .int .i64 (wrap64 ((wrap64 (a0_0 + t481)) - 1))] ?_
 with_reducible refine (impl_within.calls a1 a0_0 (wrap64 ((wrap64 (a0_0 + t481)) - 1)) t482 _ A4.out).mono ?_
 rintro e w' ⟨rfl, ⟨nd, rfl⟩⟩
 refine ⟨_, rfl, ?_⟩
 refine hK.out _ _ ⟨(blk_cell BK480.out 0).trans rfl, (blk_cell BK480.out 1).trans rfl⟩ (fun hHeld => ?_)
 clear hK K
 refine nz_ 14 ?_
 refine pz_ 10 4 ba17_11 HT_ ?_
 refine done_ (done_of HT_.out (by kernel_rfl)) ?_
 try go_wp2
 go_ret
 exact ⟨by first | rfl | (simp [errW_none, errW_some] <;> rfl) | (simp [*, errW_none, errW_some] <;> rfl), bw112_⟩

/-! ### impl_best: function 94 -/
def impl_best.l0 : Nat → Int → Bool → List (S30) → Int → Int → Int → Int → Int → Option (Int × Int × Int × Bool)
 | 0, _, _, _, _, _, _, _, _ => none
 | k + 1, x1, x7, x11, x12, x13, x485000, x485001, x485002 => if x13 < x12 then (if 0 ≤ x13 then (if x13 < (x11.length : Int) then ((impl_Prefix_has.f ((rd_T30 x11 x13).f0.f0) ((rd_T30 x11 x13).f0.f1) x1).bind fun t487 => (if t487 = true then (if x7 = true then (if ((rd_T30 x11 x13).f0.f1) > x485001 then (impl_best.l0 k x1 true x11 x12 (wrap64 (x13 + 1)) ((rd_T30 x11 x13).f0.f0) ((rd_T30 x11 x13).f0.f1) ((rd_T30 x11 x13).f1)) else (impl_best.l0 k x1 x7 x11 x12 (wrap64 (x13 + 1)) x485000 x485001 x485002)) else (impl_best.l0 k x1 true x11 x12 (wrap64 (x13 + 1)) ((rd_T30 x11 x13).f0.f0) ((rd_T30 x11 x13).f0.f1) ((rd_T30 x11 x13).f1))) else (impl_best.l0 k x1 x7 x11 x12 (wrap64 (x13 + 1)) x485000 x485001 x485002))) else (none)) else (none)) else (some (x485000, x485001, x485002, x7))
def impl_best.f (k : Nat) (l0 : List (S30)) (a1 : Int) : Option (Int × Int × Int × Bool) := impl_best.l0 k a1 false l0 (l0.length : Int) 0 0 0 0
theorem impl_best.mono_l : ∀ k, (∀ y0 y1 y2 y3 y4 y5 y6 y7, LeO (impl_best.l0 k y0 y1 y2 y3 y4 y5 y6 y7) (impl_best.l0 (k + 1) y0 y1 y2 y3 y4 y5 y6 y7))
 | 0 => fun _ _ _ _ _ _ _ _ r h => by simp [impl_best.l0] at h
 | k + 1 => by
  have ih0 := impl_best.mono_l k
  ·intro y0 y1 y2 y3 y4 y5 y6 y7
   unfold impl_best.l0
   repeat' first | (with_reducible first | exact ih0 _ _ _ _ _ _ _ _ | exact LeO.refl _ | exact LeO.none _ | refine LeO.ite ?_ ?_ | refine LeO.bind ?_ (fun _ => ?_)) | exact ih0 _ _ _ _ _ _ _ _ | exact LeO.none _ | refine LeO.ite ?_ ?_ | refine LeO.bind ?_ (fun _ => ?_)
theorem impl_best.mono : ∀ a0 a1 k, LeO (impl_best.f k a0 a1) (impl_best.f (k + 1) a0 a1) := by
 intro a0 a1 k
 have ih0 := impl_best.mono_l k
 unfold impl_best.f
 repeat' first | (with_reducible first | exact ih0 _ _ _ _ _ _ _ _ | exact LeO.refl _ | exact LeO.none _ | refine LeO.ite ?_ ?_ | refine LeO.bind ?_ (fun _ => ?_)) | exact ih0 _ _ _ _ _ _ _ _ | exact LeO.none _ | refine LeO.ite ?_ ?_ | refine LeO.bind ?_ (fun _ => ?_)
set_option maxHeartbeats 8000000 in
set_option maxRecDepth 100000 in
theorem impl_best.calls (k : Nat) (A0 : Option Addr) (c0 : Nat) (l0 : List (S30)) (a1 : Int) (r1 : Int) (r2 : Int) (r3 : Int) (r4 : Bool) (w : World) (hr0 : Kd.C k30 w A0 l0.length l0) (hc0 : l0.length ≤ c0) (h : impl_best.f k l0 a1 = some (r1, r2, r3, r4)) :
  Calls Try.prog 94 #[.slice A0 l0.length c0, .int .i64 a1] w fun e w' => e = .returned (.tuple #[.agg #[.int .i64 r1, .int .i64 r2, .int .i64 r3], .bool r4]) ∧ Below w.heap.size w w' := by
 have hu30 := Try.underlying30
 have hu28 := Try.underlying28
 have HR0 := Aside0.mk hr0
 have HC0 := Aside0.mk hc0
 clear hr0 hc0
 have HB := Aside0.mk (Below.refl w.heap.size w)
 have H : (impl_best.l0 k a1 false l0 (l0.length : Int) 0 0 0 0) = some (r1, r2, r3, r4) := h
 clear h
 have H' := Aside0.mk H
 clear H
 go_enter Try.func94, Try.ntmps94
 go_wp2_with (first | ((with_reducible refine gate_dst (N := 4) rfl ?_); refine box_event ?hg (N := 4) ?hd (cs := #[.int .i64 0, .int .i64 0, .int .i64 0]) (t := 30) ?hr ?_; (case hd => rfl); (case hg => rfl); (case hr => first | (go_simp; done) | (go_simp; rfl)); intro gb483 hg w3 hbox hb; have BK483 := Aside0.mk hbox; have GW483 := ge_ HB hg; have GE483 := ge_ HB hg; replace HB := at_ HB hb; clear hb hbox hg) | ((with_reducible refine gate_dst (N := 6) rfl ?_); refine box_event ?hg (N := 6) ?hd (cs := #[.int .i64 0, .int .i64 0, .int .i64 0]) (t := 30) ?hr ?_; (case hd => rfl); (case hg => rfl); (case hr => first | (go_simp; done) | (go_simp; rfl)); intro gb484 hg w4 hbox hb; have BK484 := Aside0.mk hbox; have GW484 := ge_ HB hg; have GE484 := ge_ HB hg; have NB483_484 := nl_ BK483 hg; have NB484_483 := ng_ BK483 hg; replace HB := at_ HB hb; replace BK483 := ab_ BK483 hb; clear hb hbox hg; have hnb5 := NB484_483.out; have hnc5 := NB483_484.out; have hcz6_0 := cz_ BK484 0 (.int .i64 0); have hcz6_1 := cz_ BK484 1 (.int .i64 0); have hcz6_2 := cz_ BK484 2 (.int .i64 0); have hfz6_0 := fz_ BK484 0; have hfz6_1 := fz_ BK484 1; have hfz6_2 := fz_ BK484 2))
 go_loopg [7, 13] k (fun kq v7 v13 w' => ∃ (x7_1 : Bool) (x13_1 : Int) (x485000_1 : Int) (x485001_1 : Int) (x485002_1 : Int), v7 = .bool x7_1 ∧ v13 = .int .i64 x13_1 ∧ Aside0 (impl_best.l0 kq a1 x7_1 l0 (l0.length : Int) x13_1 x485000_1 x485001_1 x485002_1 = some (r1, r2, r3, r4)) ∧ Aside0 (kq ≤ k) ∧ Aside0 (w'.heap[gb483]? = some (.cells #[.int .i64 0, .int .i64 0, .int .i64 0] 30 (0, 0))) ∧ Aside0 (w'.heap[gb484]? = some (.cells #[.int .i64 x485000_1, .int .i64 x485001_1, .int .i64 x485002_1] 30 (0, 0))) ∧ Aside0 (Below w.heap.size w w'))
 case atStart => exact ⟨(false), (0), (0), (0), (0), er_, er_, H', ⟨Nat.le_refl _⟩, ⟨bc_ BK483⟩, ⟨by refine bd_ ?_; refine blk_put (cs := #[.int .i64 0, .int .i64 0, .int .i64 0]) ?_ 2 _ rfl; refine bd_ ?_; refine blk_put (cs := #[.int .i64 0, .int .i64 0, .int .i64 0]) ?_ 1 _ rfl; refine bd_ ?_; refine blk_put (cs := #[.int .i64 0, .int .i64 0, .int .i64 0]) ?_ 0 _ rfl; refine bd_ ?_; exact BK484.out⟩, ⟨bw112_⟩⟩
 case round =>
  clear H'
  try clear p2
  try clear c5
  try clear hcz6_0
  try clear hcz6_1
  try clear hcz6_2
  try clear hfz6_0
  try clear hfz6_1
  try clear hfz6_2
  obtain ⟨x7_1, x13_1, x485000_1, x485001_1, x485002_1, rfl, rfl, HA, HK1, BK483, BK484, HB⟩ := hrel
  cases gk with
  | zero => exact absurd HA.out (by simp [impl_best.l0])
  | succ k1 =>
   have H := HA.out
   clear HA
   simp only [impl_best.l0] at H
   by_cases c7 : x13_1 < (l0.length : Int)
   rotate_left
   ·rw [if_neg c7] at H
    have c7b0 : decide (x13_1 < (l0.length : Int)) = false := decide_eq_false c7
    clear c7
    simp only [Option.some.injEq, Prod.mk.injEq] at H
    obtain ⟨rfl, rfl, rfl, rfl⟩ := H
    have hnb43 := NB484_483.out
    have hnc43 := NB483_484.out
    have hcz44_0 := cz_ BK484 0 (.int .i64 x485000_1)
    have hcz44_1 := cz_ BK484 1 (.int .i64 x485001_1)
    have hcz44_2 := cz_ BK484 2 (.int .i64 x485002_1)
    have hfz44_0 := fz_ BK484 0
    have hfz44_1 := fz_ BK484 1
    have hfz44_2 := fz_ BK484 2
    have hcz45_0 := cz_ BK483 0 (.int .i64 0)
    have hcz45_1 := cz_ BK483 1 (.int .i64 0)
    have hcz45_2 := cz_ BK483 2 (.int .i64 0)
    have hfz45_0 := fz_ BK483 0
    have hfz45_1 := fz_ BK483 1
    have hfz45_2 := fz_ BK483 2
    go_wp2
    refine bodyPost_ret (results_ct rfl _ _ gb483 30 #[.int .i64 x485000_1, .int .i64 x485001_1, .int .i64 x485002_1] (0, 0) _ rfl (by refine bd_ ?_; refine blk_put (cs := #[.int .i64 x485000_1, .int .i64 x485001_1, .int .i64 0]) ?_ 2 _ rfl; refine bd_ ?_; refine blk_put (cs := #[.int .i64 x485000_1, .int .i64 0, .int .i64 0]) ?_ 1 _ rfl; refine bd_ ?_; refine blk_put (cs := #[.int .i64 0, .int .i64 0, .int .i64 0]) ?_ 0 _ rfl; refine bd_ ?_; exact BK483.out) Try.underlying30 rfl (by kernel_rfl)) rfl ?_
    exact ⟨by first | rfl | (simp [errW_none, errW_some] <;> rfl) | (simp [*, errW_none, errW_some] <;> rfl), bw112_⟩
   rw [if_pos c7] at H
   have c7b0 : decide (x13_1 < (l0.length : Int)) = true := decide_eq_true c7
   clear c7
   obtain ⟨c8b0, H⟩ := iq_ H
   obtain ⟨c9b0, H⟩ := iq_ H
   replace H := Option.bind_eq_some_iff.mp H
   obtain ⟨t487, A100, H⟩ := H
   have A10 := Aside0.mk A100
   clear A100
   by_cases c11 : t487 = true
   rotate_left
   ·replace c11 := Bool.eq_false_iff.mpr c11
    subst c11
    rw [if_neg (show ¬ (false = true) by decide)] at H
    have H' := Aside0.mk H
    clear H
    have p485 : 0 ≤ (x13_1 : Int) := oa_
    have q485 : x13_1 < (l0.length : Int) := oa_
    obtain ⟨ad485, e485, hx485_0, hx485_1, hx485_2⟩ := at_T30 HR0.out x13_1 p485 q485
    cases e485
    replace hx485_0 := (HB.out.cell (World.block_lt_of_cell? w _ hx485_0)).trans hx485_0
    replace hx485_1 := (HB.out.cell (World.block_lt_of_cell? w _ hx485_1)).trans hx485_1
    replace hx485_2 := (HB.out.cell (World.block_lt_of_cell? w _ hx485_2)).trans hx485_2
    replace p485 := eq_true p485
    replace q485 := eq_true q485
    go_wp2_with (first | ((with_reducible refine gate_dst (N := 9) rfl ?_); refine box_event ?hg (N := 9) ?hd (cs := #[.int .i64 0, .int .i64 0, .int .i64 0]) (t := 30) ?hr ?_; (case hd => rfl); (case hg => rfl); (case hr => first | (go_simp; done) | (go_simp; rfl)); intro gb486 hg w38 hbox hb; have BK486 := Aside0.mk hbox; have GW486 := ge_ HB hg; have GE486 := ge_ HB hg; have NB483_486 := nl_ BK483 hg; have NB486_483 := ng_ BK483 hg; have NB484_486 := nl_ BK484 hg; have NB486_484 := ng_ BK484 hg; replace HB := at_ HB hb; replace BK483 := ab_ BK483 hb; replace BK484 := ab_ BK484 hb; clear hb hbox hg; have hnb39 := NB486_483.out; have hnc39 := NB483_486.out; have hnb40 := NB486_484.out; have hnc40 := NB484_486.out; have hcz41_0 := cz_ BK486 0 (.int .i64 0); have hcz41_1 := cz_ BK486 1 (.int .i64 0); have hcz41_2 := cz_ BK486 2 (.int .i64 0); have hfz41_0 := fz_ BK486 0; have hfz41_1 := fz_ BK486 1; have hfz41_2 := fz_ BK486 2) | ((with_reducible refine gate_callee (f := 105) rfl ?_); refine gl_ (some 20) Try.func105 #[.agg #[.int .i64 ((rd_T30 l0 x13_1).f0.f0), .int .i64 ((rd_T30 l0 x13_1).f0.f1)], .int .i64 a1] ?_; (with_reducible refine (impl_Prefix_has.calls ((rd_T30 l0 x13_1).f0.f0) ((rd_T30 l0 x13_1).f0.f1) a1 false _ A10.out).mono ?_); rintro e w42 ⟨rfl, hb⟩; refine ⟨_, rfl, ?_⟩; replace BK483 := bf_ BK483 NB483_486 hb; replace BK484 := bf_ BK484 NB484_486 hb; replace BK486 := Aside0.mk (blk_below (g := gb486) (o := .cells #[.int .i64 ((rd_T30 l0 x13_1).f0.f0), .int .i64 ((rd_T30 l0 x13_1).f0.f1), .int .i64 ((rd_T30 l0 x13_1).f1)] 30 (0, 0)) (by refine bd_ ?_; refine blk_put (cs := #[.int .i64 ((rd_T30 l0 x13_1).f0.f0), .int .i64 ((rd_T30 l0 x13_1).f0.f1), .int .i64 0]) ?_ 2 _ rfl; refine bd_ ?_; refine blk_put (cs := #[.int .i64 ((rd_T30 l0 x13_1).f0.f0), .int .i64 0, .int .i64 0]) ?_ 1 _ rfl; refine bd_ ?_; refine blk_put (cs := #[.int .i64 0, .int .i64 0, .int .i64 0]) ?_ 0 _ rfl; refine bd_ ?_; exact BK486.out) hb); replace HB := at_ HB hb; (try clear hb); (try clear hb2); (try clear hk); (try clear hi)))
    go_roundg k1
    case measure => have := HK1.out; omega
    case rel => exact ⟨(x7_1), (wrap64 (x13_1 + 1)), (x485000_1), (x485001_1), (x485002_1), er_, er_, H', ⟨by have := HK1.out; omega⟩, ⟨bx_ BK483⟩, ⟨bx_ BK484⟩, ⟨bw112_⟩⟩
   subst c11
   rw [if_pos rfl] at H
   by_cases c12 : x7_1 = true
   rotate_left
   ·replace c12 := Bool.eq_false_iff.mpr c12
    subst c12
    rw [if_neg (show ¬ (false = true) by decide)] at H
    have H' := Aside0.mk H
    clear H
    have p485 : 0 ≤ (x13_1 : Int) := oa_
    have q485 : x13_1 < (l0.length : Int) := oa_
    obtain ⟨ad485, e485, hx485_0, hx485_1, hx485_2⟩ := at_T30 HR0.out x13_1 p485 q485
    cases e485
    replace hx485_0 := (HB.out.cell (World.block_lt_of_cell? w _ hx485_0)).trans hx485_0
    replace hx485_1 := (HB.out.cell (World.block_lt_of_cell? w _ hx485_1)).trans hx485_1
    replace hx485_2 := (HB.out.cell (World.block_lt_of_cell? w _ hx485_2)).trans hx485_2
    replace p485 := eq_true p485
    replace q485 := eq_true q485
    go_wp2_with (first | ((with_reducible refine gate_dst (N := 9) rfl ?_); refine box_event ?hg (N := 9) ?hd (cs := #[.int .i64 0, .int .i64 0, .int .i64 0]) (t := 30) ?hr ?_; (case hd => rfl); (case hg => rfl); (case hr => first | (go_simp; done) | (go_simp; rfl)); intro gb486 hg w30 hbox hb; have BK486 := Aside0.mk hbox; have GW486 := ge_ HB hg; have GE486 := ge_ HB hg; have NB483_486 := nl_ BK483 hg; have NB486_483 := ng_ BK483 hg; have NB484_486 := nl_ BK484 hg; have NB486_484 := ng_ BK484 hg; replace HB := at_ HB hb; replace BK483 := ab_ BK483 hb; replace BK484 := ab_ BK484 hb; clear hb hbox hg; have hnb31 := NB486_483.out; have hnc31 := NB483_486.out; have hnb32 := NB486_484.out; have hnc32 := NB484_486.out; have hcz33_0 := cz_ BK486 0 (.int .i64 0); have hcz33_1 := cz_ BK486 1 (.int .i64 0); have hcz33_2 := cz_ BK486 2 (.int .i64 0); have hfz33_0 := fz_ BK486 0; have hfz33_1 := fz_ BK486 1; have hfz33_2 := fz_ BK486 2) | ((with_reducible refine gate_callee (f := 105) rfl ?_); refine gl_ (some 20) Try.func105 #[.agg #[.int .i64 ((rd_T30 l0 x13_1).f0.f0), .int .i64 ((rd_T30 l0 x13_1).f0.f1)], .int .i64 a1] ?_; (with_reducible refine (impl_Prefix_has.calls ((rd_T30 l0 x13_1).f0.f0) ((rd_T30 l0 x13_1).f0.f1) a1 true _ A10.out).mono ?_); rintro e w34 ⟨rfl, hb⟩; refine ⟨_, rfl, ?_⟩; replace BK483 := bf_ BK483 NB483_486 hb; replace BK484 := bf_ BK484 NB484_486 hb; replace BK486 := Aside0.mk (blk_below (g := gb486) (o := .cells #[.int .i64 ((rd_T30 l0 x13_1).f0.f0), .int .i64 ((rd_T30 l0 x13_1).f0.f1), .int .i64 ((rd_T30 l0 x13_1).f1)] 30 (0, 0)) (by refine bd_ ?_; refine blk_put (cs := #[.int .i64 ((rd_T30 l0 x13_1).f0.f0), .int .i64 ((rd_T30 l0 x13_1).f0.f1), .int .i64 0]) ?_ 2 _ rfl; refine bd_ ?_; refine blk_put (cs := #[.int .i64 ((rd_T30 l0 x13_1).f0.f0), .int .i64 0, .int .i64 0]) ?_ 1 _ rfl; refine bd_ ?_; refine blk_put (cs := #[.int .i64 0, .int .i64 0, .int .i64 0]) ?_ 0 _ rfl; refine bd_ ?_; exact BK486.out) hb); replace HB := at_ HB hb; (try clear hb); (try clear hb2); (try clear hk); (try clear hi); have hcz35_0 := cz_ BK486 0 (.int .i64 ((rd_T30 l0 x13_1).f0.f0)); have hcz35_1 := cz_ BK486 1 (.int .i64 ((rd_T30 l0 x13_1).f0.f1)); have hcz35_2 := cz_ BK486 2 (.int .i64 ((rd_T30 l0 x13_1).f1)); have hfz35_0 := fz_ BK486 0; have hfz35_1 := fz_ BK486 1; have hfz35_2 := fz_ BK486 2; have hnb36 := NB484_483.out; have hnc36 := NB483_484.out; have hcz37_0 := cz_ BK484 0 (.int .i64 x485000_1); have hcz37_1 := cz_ BK484 1 (.int .i64 x485001_1); have hcz37_2 := cz_ BK484 2 (.int .i64 x485002_1); have hfz37_0 := fz_ BK484 0; have hfz37_1 := fz_ BK484 1; have hfz37_2 := fz_ BK484 2))
    go_roundg k1
    case measure => have := HK1.out; omega
    case rel => exact ⟨(true), (wrap64 (x13_1 + 1)), ((rd_T30 l0 x13_1).f0.f0), ((rd_T30 l0 x13_1).f0.f1), ((rd_T30 l0 x13_1).f1), er_, er_, H', ⟨by have := HK1.out; omega⟩, ⟨bc_ BK483⟩, ⟨by refine bd_ ?_; refine blk_put (cs := #[.int .i64 ((rd_T30 l0 x13_1).f0.f0), .int .i64 ((rd_T30 l0 x13_1).f0.f1), .int .i64 x485002_1]) ?_ 2 _ rfl; refine bd_ ?_; refine blk_put (cs := #[.int .i64 ((rd_T30 l0 x13_1).f0.f0), .int .i64 x485001_1, .int .i64 x485002_1]) ?_ 1 _ rfl; refine bd_ ?_; refine blk_put (cs := #[.int .i64 x485000_1, .int .i64 x485001_1, .int .i64 x485002_1]) ?_ 0 _ rfl; refine bd_ ?_; exact BK484.out⟩, ⟨bw112_⟩⟩
   subst c12
   rw [if_pos rfl] at H
   by_cases c13 : ((rd_T30 l0 x13_1).f0.f1) > x485001_1
   ·rw [if_pos c13] at H
    have c13b0 : decide (x485001_1 < ((rd_T30 l0 x13_1).f0.f1)) = true := decide_eq_true c13
    clear c13
    have H' := Aside0.mk H
    clear H
    have p485 : 0 ≤ (x13_1 : Int) := oa_
    have q485 : x13_1 < (l0.length : Int) := oa_
    obtain ⟨ad485, e485, hx485_0, hx485_1, hx485_2⟩ := at_T30 HR0.out x13_1 p485 q485
    cases e485
    replace hx485_0 := (HB.out.cell (World.block_lt_of_cell? w _ hx485_0)).trans hx485_0
    replace hx485_1 := (HB.out.cell (World.block_lt_of_cell? w _ hx485_1)).trans hx485_1
    replace hx485_2 := (HB.out.cell (World.block_lt_of_cell? w _ hx485_2)).trans hx485_2
    replace p485 := eq_true p485
    replace q485 := eq_true q485
    go_wp2_with (first | ((with_reducible refine gate_dst (N := 9) rfl ?_); refine box_event ?hg (N := 9) ?hd (cs := #[.int .i64 0, .int .i64 0, .int .i64 0]) (t := 30) ?hr ?_; (case hd => rfl); (case hg => rfl); (case hr => first | (go_simp; done) | (go_simp; rfl)); intro gb486 hg w14 hbox hb; have BK486 := Aside0.mk hbox; have GW486 := ge_ HB hg; have GE486 := ge_ HB hg; have NB483_486 := nl_ BK483 hg; have NB486_483 := ng_ BK483 hg; have NB484_486 := nl_ BK484 hg; have NB486_484 := ng_ BK484 hg; replace HB := at_ HB hb; replace BK483 := ab_ BK483 hb; replace BK484 := ab_ BK484 hb; clear hb hbox hg; have hnb15 := NB486_483.out; have hnc15 := NB483_486.out; have hnb16 := NB486_484.out; have hnc16 := NB484_486.out; have hcz17_0 := cz_ BK486 0 (.int .i64 0); have hcz17_1 := cz_ BK486 1 (.int .i64 0); have hcz17_2 := cz_ BK486 2 (.int .i64 0); have hfz17_0 := fz_ BK486 0; have hfz17_1 := fz_ BK486 1; have hfz17_2 := fz_ BK486 2) | ((with_reducible refine gate_callee (f := 105) rfl ?_); refine gl_ (some 20) Try.func105 #[.agg #[.int .i64 ((rd_T30 l0 x13_1).f0.f0), .int .i64 ((rd_T30 l0 x13_1).f0.f1)], .int .i64 a1] ?_; (with_reducible refine (impl_Prefix_has.calls ((rd_T30 l0 x13_1).f0.f0) ((rd_T30 l0 x13_1).f0.f1) a1 true _ A10.out).mono ?_); rintro e w18 ⟨rfl, hb⟩; refine ⟨_, rfl, ?_⟩; replace BK483 := bf_ BK483 NB483_486 hb; replace BK484 := bf_ BK484 NB484_486 hb; replace BK486 := Aside0.mk (blk_below (g := gb486) (o := .cells #[.int .i64 ((rd_T30 l0 x13_1).f0.f0), .int .i64 ((rd_T30 l0 x13_1).f0.f1), .int .i64 ((rd_T30 l0 x13_1).f1)] 30 (0, 0)) (by refine bd_ ?_; refine blk_put (cs := #[.int .i64 ((rd_T30 l0 x13_1).f0.f0), .int .i64 ((rd_T30 l0 x13_1).f0.f1), .int .i64 0]) ?_ 2 _ rfl; refine bd_ ?_; refine blk_put (cs := #[.int .i64 ((rd_T30 l0 x13_1).f0.f0), .int .i64 0, .int .i64 0]) ?_ 1 _ rfl; refine bd_ ?_; refine blk_put (cs := #[.int .i64 0, .int .i64 0, .int .i64 0]) ?_ 0 _ rfl; refine bd_ ?_; exact BK486.out) hb); replace HB := at_ HB hb; (try clear hb); (try clear hb2); (try clear hk); (try clear hi); have hcz19_0 := cz_ BK486 0 (.int .i64 ((rd_T30 l0 x13_1).f0.f0)); have hcz19_1 := cz_ BK486 1 (.int .i64 ((rd_T30 l0 x13_1).f0.f1)); have hcz19_2 := cz_ BK486 2 (.int .i64 ((rd_T30 l0 x13_1).f1)); have hfz19_0 := fz_ BK486 0; have hfz19_1 := fz_ BK486 1; have hfz19_2 := fz_ BK486 2; have hnb20 := NB484_483.out; have hnc20 := NB483_484.out; have hcz21_0 := cz_ BK484 0 (.int .i64 x485000_1); have hcz21_1 := cz_ BK484 1 (.int .i64 x485001_1); have hcz21_2 := cz_ BK484 2 (.int .i64 x485002_1); have hfz21_0 := fz_ BK484 0; have hfz21_1 := fz_ BK484 1; have hfz21_2 := fz_ BK484 2))
    go_roundg k1
    case measure => have := HK1.out; omega
    case rel => exact ⟨(true), (wrap64 (x13_1 + 1)), ((rd_T30 l0 x13_1).f0.f0), ((rd_T30 l0 x13_1).f0.f1), ((rd_T30 l0 x13_1).f1), er_, er_, H', ⟨by have := HK1.out; omega⟩, ⟨bc_ BK483⟩, ⟨by refine bd_ ?_; refine blk_put (cs := #[.int .i64 ((rd_T30 l0 x13_1).f0.f0), .int .i64 ((rd_T30 l0 x13_1).f0.f1), .int .i64 x485002_1]) ?_ 2 _ rfl; refine bd_ ?_; refine blk_put (cs := #[.int .i64 ((rd_T30 l0 x13_1).f0.f0), .int .i64 x485001_1, .int .i64 x485002_1]) ?_ 1 _ rfl; refine bd_ ?_; refine blk_put (cs := #[.int .i64 x485000_1, .int .i64 x485001_1, .int .i64 x485002_1]) ?_ 0 _ rfl; refine bd_ ?_; exact BK484.out⟩, ⟨bw112_⟩⟩
   rw [if_neg c13] at H
   have c13b0 : decide (x485001_1 < ((rd_T30 l0 x13_1).f0.f1)) = false := decide_eq_false c13
   clear c13
   have H' := Aside0.mk H
   clear H
   have p485 : 0 ≤ (x13_1 : Int) := oa_
   have q485 : x13_1 < (l0.length : Int) := oa_
   obtain ⟨ad485, e485, hx485_0, hx485_1, hx485_2⟩ := at_T30 HR0.out x13_1 p485 q485
   cases e485
   replace hx485_0 := (HB.out.cell (World.block_lt_of_cell? w _ hx485_0)).trans hx485_0
   replace hx485_1 := (HB.out.cell (World.block_lt_of_cell? w _ hx485_1)).trans hx485_1
   replace hx485_2 := (HB.out.cell (World.block_lt_of_cell? w _ hx485_2)).trans hx485_2
   replace p485 := eq_true p485
   replace q485 := eq_true q485
   go_wp2_with (first | ((with_reducible refine gate_dst (N := 9) rfl ?_); refine box_event ?hg (N := 9) ?hd (cs := #[.int .i64 0, .int .i64 0, .int .i64 0]) (t := 30) ?hr ?_; (case hd => rfl); (case hg => rfl); (case hr => first | (go_simp; done) | (go_simp; rfl)); intro gb486 hg w22 hbox hb; have BK486 := Aside0.mk hbox; have GW486 := ge_ HB hg; have GE486 := ge_ HB hg; have NB483_486 := nl_ BK483 hg; have NB486_483 := ng_ BK483 hg; have NB484_486 := nl_ BK484 hg; have NB486_484 := ng_ BK484 hg; replace HB := at_ HB hb; replace BK483 := ab_ BK483 hb; replace BK484 := ab_ BK484 hb; clear hb hbox hg; have hnb23 := NB486_483.out; have hnc23 := NB483_486.out; have hnb24 := NB486_484.out; have hnc24 := NB484_486.out; have hcz25_0 := cz_ BK486 0 (.int .i64 0); have hcz25_1 := cz_ BK486 1 (.int .i64 0); have hcz25_2 := cz_ BK486 2 (.int .i64 0); have hfz25_0 := fz_ BK486 0; have hfz25_1 := fz_ BK486 1; have hfz25_2 := fz_ BK486 2) | ((with_reducible refine gate_callee (f := 105) rfl ?_); refine gl_ (some 20) Try.func105 #[.agg #[.int .i64 ((rd_T30 l0 x13_1).f0.f0), .int .i64 ((rd_T30 l0 x13_1).f0.f1)], .int .i64 a1] ?_; (with_reducible refine (impl_Prefix_has.calls ((rd_T30 l0 x13_1).f0.f0) ((rd_T30 l0 x13_1).f0.f1) a1 true _ A10.out).mono ?_); rintro e w26 ⟨rfl, hb⟩; refine ⟨_, rfl, ?_⟩; replace BK483 := bf_ BK483 NB483_486 hb; replace BK484 := bf_ BK484 NB484_486 hb; replace BK486 := Aside0.mk (blk_below (g := gb486) (o := .cells #[.int .i64 ((rd_T30 l0 x13_1).f0.f0), .int .i64 ((rd_T30 l0 x13_1).f0.f1), .int .i64 ((rd_T30 l0 x13_1).f1)] 30 (0, 0)) (by refine bd_ ?_; refine blk_put (cs := #[.int .i64 ((rd_T30 l0 x13_1).f0.f0), .int .i64 ((rd_T30 l0 x13_1).f0.f1), .int .i64 0]) ?_ 2 _ rfl; refine bd_ ?_; refine blk_put (cs := #[.int .i64 ((rd_T30 l0 x13_1).f0.f0), .int .i64 0, .int .i64 0]) ?_ 1 _ rfl; refine bd_ ?_; refine blk_put (cs := #[.int .i64 0, .int .i64 0, .int .i64 0]) ?_ 0 _ rfl; refine bd_ ?_; exact BK486.out) hb); replace HB := at_ HB hb; (try clear hb); (try clear hb2); (try clear hk); (try clear hi); have hcz27_0 := cz_ BK486 0 (.int .i64 ((rd_T30 l0 x13_1).f0.f0)); have hcz27_1 := cz_ BK486 1 (.int .i64 ((rd_T30 l0 x13_1).f0.f1)); have hcz27_2 := cz_ BK486 2 (.int .i64 ((rd_T30 l0 x13_1).f1)); have hfz27_0 := fz_ BK486 0; have hfz27_1 := fz_ BK486 1; have hfz27_2 := fz_ BK486 2; have hnb28 := NB484_483.out; have hnc28 := NB483_484.out; have hcz29_0 := cz_ BK484 0 (.int .i64 x485000_1); have hcz29_1 := cz_ BK484 1 (.int .i64 x485001_1); have hcz29_2 := cz_ BK484 2 (.int .i64 x485002_1); have hfz29_0 := fz_ BK484 0; have hfz29_1 := fz_ BK484 1; have hfz29_2 := fz_ BK484 2))
   go_roundg k1
   case measure => have := HK1.out; omega
   case rel => exact ⟨(true), (wrap64 (x13_1 + 1)), (x485000_1), (x485001_1), (x485002_1), er_, er_, H', ⟨by have := HK1.out; omega⟩, ⟨bx_ BK483⟩, ⟨bx_ BK484⟩, ⟨bw112_⟩⟩

/-! ### impl_BestRoute: function 58 -/
def impl_BestRoute.f (k : Nat) (l0_0 : List (S30)) (a1 : Int) : Option (Int × Int × Int × Bool) := (impl_TableOk.f k l0_0).bind fun t490 => (if t490 = true then ((impl_isAddr.f a1).bind fun t491 => (if t491 = true then ((impl_best.f k l0_0 a1).bind fun bt492 => (some (bt492.1, bt492.2.1, bt492.2.2.1, bt492.2.2.2))) else (some (0, 0, 0, false)))) else (some (0, 0, 0, false)))
theorem impl_BestRoute.mono : ∀ a0 a1 k, LeO (impl_BestRoute.f k a0 a1) (impl_BestRoute.f (k + 1) a0 a1) := by
 intro a0 a1 k
 unfold impl_BestRoute.f
 repeat' first | (with_reducible first | exact impl_TableOk.mono _ _ | exact impl_best.mono _ _ _ | exact LeO.refl _ | exact LeO.none _ | refine LeO.ite ?_ ?_ | refine LeO.bind ?_ (fun _ => ?_)) | exact impl_TableOk.mono _ _ | exact impl_best.mono _ _ _ | exact LeO.none _ | refine LeO.ite ?_ ?_ | refine LeO.bind ?_ (fun _ => ?_)
set_option maxHeartbeats 8000000 in
set_option maxRecDepth 100000 in
theorem impl_BestRoute.calls (k : Nat) (A0_0 : Option Addr) (c0_0 : Nat) (l0_0 : List (S30)) (a1 : Int) (r1 : Int) (r2 : Int) (r3 : Int) (r4 : Bool) (w : World) (hr0_0 : Kd.C k30 w A0_0 l0_0.length l0_0) (hc0_0 : l0_0.length ≤ c0_0) (h : impl_BestRoute.f k l0_0 a1 = some (r1, r2, r3, r4)) :
  Calls Try.prog 58 #[.agg #[.slice A0_0 l0_0.length c0_0], .int .i64 a1] w fun e w' => e = .returned (.tuple #[.agg #[.int .i64 r1, .int .i64 r2, .int .i64 r3], .bool r4]) ∧ Below w.heap.size w w' := by
 have hu26 := Try.underlying26
 have hu30 := Try.underlying30
 have HR0_0 := Aside0.mk hr0_0
 have HC0_0 := Aside0.mk hc0_0
 clear hr0_0 hc0_0
 have HB := Aside0.mk (Below.refl w.heap.size w)
 have H : ((impl_TableOk.f k l0_0).bind fun t490 => (if t490 = true then ((impl_isAddr.f a1).bind fun t491 => (if t491 = true then ((impl_best.f k l0_0 a1).bind fun bt492 => (some (bt492.1, bt492.2.1, bt492.2.2.1, bt492.2.2.2))) else (some (0, 0, 0, false)))) else (some (0, 0, 0, false)))) = some (r1, r2, r3, r4) := h
 clear h
 replace H := Option.bind_eq_some_iff.mp H
 obtain ⟨t490, A30, H⟩ := H
 have A3 := Aside0.mk A30
 clear A30
 by_cases c4 : t490 = true
 rotate_left
 ·replace c4 := Bool.eq_false_iff.mpr c4
  subst c4
  rw [if_neg (show ¬ (false = true) by decide)] at H
  simp only [Option.some.injEq, Prod.mk.injEq] at H
  obtain ⟨rfl, rfl, rfl, rfl⟩ := H
  go_enter Try.func58, Try.ntmps58
  go_wp2_with (first | ((with_reducible refine gate_dst (N := 2) rfl ?_); refine box_event ?hg (N := 2) ?hd (cs := #[.slice A0_0 l0_0.length c0_0]) (t := 26) ?hr ?_; (case hd => rfl); (case hg => rfl); (case hr => first | (go_simp; done) | (go_simp; rfl)); intro gb488 hg w22 hbox hb; have BK488 := Aside0.mk hbox; have GW488 := ge_ HB hg; have GE488 := ge_ HB hg; replace HB := at_ HB hb; clear hb hbox hg) | ((with_reducible refine gate_dst (N := 4) rfl ?_); refine box_event ?hg (N := 4) ?hd (cs := #[.int .i64 0, .int .i64 0, .int .i64 0]) (t := 30) ?hr ?_; (case hd => rfl); (case hg => rfl); (case hr => first | (go_simp; done) | (go_simp; rfl)); intro gb489 hg w23 hbox hb; have BK489 := Aside0.mk hbox; have GW489 := ge_ HB hg; have GE489 := ge_ HB hg; have NB488_489 := nl_ BK488 hg; have NB489_488 := ng_ BK488 hg; replace HB := at_ HB hb; replace BK488 := ab_ BK488 hb; clear hb hbox hg; have hnb24 := NB488_489.out; have hnc24 := NB489_488.out; have hcz25_0 := cz_ BK488 0 (.slice A0_0 l0_0.length c0_0); have hfz25_0 := fz_ BK488 0) | ((with_reducible refine gate_callee (f := 48) rfl ?_); refine gl_ (some 7) Try.func48 #[.agg #[.slice A0_0 l0_0.length c0_0]] ?_; (with_reducible refine (impl_TableOk.calls k _ _ l0_0 false _ ?side1 ?side2 A3.out).mono ?_); (case side1 => exact cb_ HR0_0 HB); (case side2 => exact HC0_0.out); rintro e w26 ⟨rfl, hb⟩; refine ⟨_, rfl, ?_⟩; replace BK488 := ab_ BK488 hb; replace BK489 := ab_ BK489 hb; replace HB := at_ HB hb; (try clear hb); (try clear hb2); (try clear hk); (try clear hi); have hcz27_0 := cz_ BK489 0 (.int .i64 0); have hcz27_1 := cz_ BK489 1 (.int .i64 0); have hcz27_2 := cz_ BK489 2 (.int .i64 0); have hfz27_0 := fz_ BK489 0; have hfz27_1 := fz_ BK489 1; have hfz27_2 := fz_ BK489 2))
  refine bodyPost_ret (results_ct rfl _ _ gb489 30 #[.int .i64 0, .int .i64 0, .int .i64 0] (0, 0) _ rfl (by refine bd_ ?_; refine blk_put (cs := #[.int .i64 0, .int .i64 0, .int .i64 0]) ?_ 2 _ rfl; refine bd_ ?_; refine blk_put (cs := #[.int .i64 0, .int .i64 0, .int .i64 0]) ?_ 1 _ rfl; refine bd_ ?_; refine blk_put (cs := #[.int .i64 0, .int .i64 0, .int .i64 0]) ?_ 0 _ rfl; refine bd_ ?_; exact BK489.out) Try.underlying30 rfl (by kernel_rfl)) rfl ?_
  exact ⟨by first | rfl | (simp [errW_none, errW_some] <;> rfl) | (simp [*, errW_none, errW_some] <;> rfl), bw112_⟩
 subst c4
 rw [if_pos rfl] at H
 replace H := Option.bind_eq_some_iff.mp H
 obtain ⟨t491, A50, H⟩ := H
 have A5 := Aside0.mk A50
 clear A50
 by_cases c6 : t491 = true
 rotate_left
 ·replace c6 := Bool.eq_false_iff.mpr c6
  subst c6
  rw [if_neg (show ¬ (false = true) by decide)] at H
  simp only [Option.some.injEq, Prod.mk.injEq] at H
  obtain ⟨rfl, rfl, rfl, rfl⟩ := H
  go_enter Try.func58, Try.ntmps58
  go_wp2_with (first | ((with_reducible refine gate_dst (N := 2) rfl ?_); refine box_event ?hg (N := 2) ?hd (cs := #[.slice A0_0 l0_0.length c0_0]) (t := 26) ?hr ?_; (case hd => rfl); (case hg => rfl); (case hr => first | (go_simp; done) | (go_simp; rfl)); intro gb488 hg w16 hbox hb; have BK488 := Aside0.mk hbox; have GW488 := ge_ HB hg; have GE488 := ge_ HB hg; replace HB := at_ HB hb; clear hb hbox hg) | ((with_reducible refine gate_dst (N := 4) rfl ?_); refine box_event ?hg (N := 4) ?hd (cs := #[.int .i64 0, .int .i64 0, .int .i64 0]) (t := 30) ?hr ?_; (case hd => rfl); (case hg => rfl); (case hr => first | (go_simp; done) | (go_simp; rfl)); intro gb489 hg w17 hbox hb; have BK489 := Aside0.mk hbox; have GW489 := ge_ HB hg; have GE489 := ge_ HB hg; have NB488_489 := nl_ BK488 hg; have NB489_488 := ng_ BK488 hg; replace HB := at_ HB hb; replace BK488 := ab_ BK488 hb; clear hb hbox hg; have hnb18 := NB488_489.out; have hnc18 := NB489_488.out; have hcz19_0 := cz_ BK488 0 (.slice A0_0 l0_0.length c0_0); have hfz19_0 := fz_ BK488 0) | ((with_reducible refine gate_callee (f := 48) rfl ?_); refine gl_ (some 7) Try.func48 #[.agg #[.slice A0_0 l0_0.length c0_0]] ?_; (with_reducible refine (impl_TableOk.calls k _ _ l0_0 true _ ?side1 ?side2 A3.out).mono ?_); (case side1 => exact cb_ HR0_0 HB); (case side2 => exact HC0_0.out); rintro e w20 ⟨rfl, hb⟩; refine ⟨_, rfl, ?_⟩; replace BK488 := ab_ BK488 hb; replace BK489 := ab_ BK489 hb; replace HB := at_ HB hb; (try clear hb); (try clear hb2); (try clear hk); (try clear hi)) | (go_at_call 84; (with_reducible refine (impl_isAddr.calls a1 false _ A5.out).mono ?_); rintro e w' ⟨rfl, ⟨nd, rfl⟩⟩; (try (rw [drewN_self w20]; generalize hq_ : World.drewN w20 _ = w20; replace BK488 : Aside0 (w20.heap[gb488]? = some (.cells #[.slice A0_0 l0_0.length c0_0] 26 (0, 0))) := ⟨by rw [← hq_]; exact (bx_ BK488)⟩; replace BK489 : Aside0 (w20.heap[gb489]? = some (.cells #[.int .i64 0, .int .i64 0, .int .i64 0] 30 (0, 0))) := ⟨by rw [← hq_]; exact (bx_ BK489)⟩; replace HB : Aside0 (Below w.heap.size w w20) := ⟨by rw [← hq_]; exact (bw112_)⟩; clear hq_)); have hcz21_0 := cz_ BK489 0 (.int .i64 0); have hcz21_1 := cz_ BK489 1 (.int .i64 0); have hcz21_2 := cz_ BK489 2 (.int .i64 0); have hfz21_0 := fz_ BK489 0; have hfz21_1 := fz_ BK489 1; have hfz21_2 := fz_ BK489 2))
  refine bodyPost_ret (results_ct rfl _ _ gb489 30 #[.int .i64 0, .int .i64 0, .int .i64 0] (0, 0) _ rfl (by refine bd_ ?_; refine blk_put (cs := #[.int .i64 0, .int .i64 0, .int .i64 0]) ?_ 2 _ rfl; refine bd_ ?_; refine blk_put (cs := #[.int .i64 0, .int .i64 0, .int .i64 0]) ?_ 1 _ rfl; refine bd_ ?_; refine blk_put (cs := #[.int .i64 0, .int .i64 0, .int .i64 0]) ?_ 0 _ rfl; refine bd_ ?_; exact BK489.out) Try.underlying30 rfl (by kernel_rfl)) rfl ?_
  exact ⟨by first | rfl | (simp [errW_none, errW_some] <;> rfl) | (simp [*, errW_none, errW_some] <;> rfl), bw112_⟩
 subst c6
 rw [if_pos rfl] at H
 replace H := Option.bind_eq_some_iff.mp H
 obtain ⟨⟨t492, t493, t494, t495⟩, A70, H⟩ := H
 have A7 := Aside0.mk A70
 clear A70
 simp only [Option.some.injEq, Prod.mk.injEq] at H
 obtain ⟨rfl, rfl, rfl, rfl⟩ := H
 go_enter Try.func58, Try.ntmps58
 go_wp2_with (first | ((with_reducible refine gate_dst (N := 2) rfl ?_); refine box_event ?hg (N := 2) ?hd (cs := #[.slice A0_0 l0_0.length c0_0]) (t := 26) ?hr ?_; (case hd => rfl); (case hg => rfl); (case hr => first | (go_simp; done) | (go_simp; rfl)); intro gb488 hg w8 hbox hb; have BK488 := Aside0.mk hbox; have GW488 := ge_ HB hg; have GE488 := ge_ HB hg; replace HB := at_ HB hb; clear hb hbox hg) | ((with_reducible refine gate_dst (N := 4) rfl ?_); refine box_event ?hg (N := 4) ?hd (cs := #[.int .i64 0, .int .i64 0, .int .i64 0]) (t := 30) ?hr ?_; (case hd => rfl); (case hg => rfl); (case hr => first | (go_simp; done) | (go_simp; rfl)); intro gb489 hg w9 hbox hb; have BK489 := Aside0.mk hbox; have GW489 := ge_ HB hg; have GE489 := ge_ HB hg; have NB488_489 := nl_ BK488 hg; have NB489_488 := ng_ BK488 hg; replace HB := at_ HB hb; replace BK488 := ab_ BK488 hb; clear hb hbox hg; have hnb10 := NB488_489.out; have hnc10 := NB489_488.out; have hcz11_0 := cz_ BK488 0 (.slice A0_0 l0_0.length c0_0); have hfz11_0 := fz_ BK488 0) | ((with_reducible refine gate_callee (f := 48) rfl ?_); refine gl_ (some 7) Try.func48 #[.agg #[.slice A0_0 l0_0.length c0_0]] ?_; (with_reducible refine (impl_TableOk.calls k _ _ l0_0 true _ ?side1 ?side2 A3.out).mono ?_); (case side1 => exact cb_ HR0_0 HB); (case side2 => exact HC0_0.out); rintro e w12 ⟨rfl, hb⟩; refine ⟨_, rfl, ?_⟩; replace BK488 := ab_ BK488 hb; replace BK489 := ab_ BK489 hb; replace HB := at_ HB hb; (try clear hb); (try clear hb2); (try clear hk); (try clear hi)) | (go_at_call 84; (with_reducible refine (impl_isAddr.calls a1 true _ A5.out).mono ?_); rintro e w' ⟨rfl, ⟨nd, rfl⟩⟩; (try (rw [drewN_self w12]; generalize hq_ : World.drewN w12 _ = w12; replace BK488 : Aside0 (w12.heap[gb488]? = some (.cells #[.slice A0_0 l0_0.length c0_0] 26 (0, 0))) := ⟨by rw [← hq_]; exact (bx_ BK488)⟩; replace BK489 : Aside0 (w12.heap[gb489]? = some (.cells #[.int .i64 0, .int .i64 0, .int .i64 0] 30 (0, 0))) := ⟨by rw [← hq_]; exact (bx_ BK489)⟩; replace HB : Aside0 (Below w.heap.size w w12) := ⟨by rw [← hq_]; exact (bw112_)⟩; clear hq_)); have hcz13_0 := cz_ BK488 0 (.slice A0_0 l0_0.length c0_0); have hfz13_0 := fz_ BK488 0) | ((with_reducible refine gate_callee (f := 94) rfl ?_); refine gl_ (some 18) Try.func94 #[.slice A0_0 l0_0.length c0_0, .int .i64 a1] ?_; (with_reducible refine (impl_best.calls k _ _ l0_0 a1 t492 t493 t494 t495 _ ?side1 ?side2 A7.out).mono ?_); (case side1 => exact cb_ HR0_0 HB); (case side2 => exact HC0_0.out); rintro e w14 ⟨rfl, hb⟩; refine ⟨_, rfl, ?_⟩; replace BK488 := ab_ BK488 hb; replace BK489 := ab_ BK489 hb; replace HB := at_ HB hb; (try clear hb); (try clear hb2); (try clear hk); (try clear hi); have hcz15_0 := cz_ BK489 0 (.int .i64 0); have hcz15_1 := cz_ BK489 1 (.int .i64 0); have hcz15_2 := cz_ BK489 2 (.int .i64 0); have hfz15_0 := fz_ BK489 0; have hfz15_1 := fz_ BK489 1; have hfz15_2 := fz_ BK489 2))
 refine bodyPost_ret (results_ct rfl _ _ gb489 30 #[.int .i64 t492, .int .i64 t493, .int .i64 t494] (0, 0) _ rfl (by refine bd_ ?_; refine blk_put (cs := #[.int .i64 t492, .int .i64 t493, .int .i64 0]) ?_ 2 _ rfl; refine bd_ ?_; refine blk_put (cs := #[.int .i64 t492, .int .i64 0, .int .i64 0]) ?_ 1 _ rfl; refine bd_ ?_; refine blk_put (cs := #[.int .i64 0, .int .i64 0, .int .i64 0]) ?_ 0 _ rfl; refine bd_ ?_; exact BK489.out) Try.underlying30 rfl (by kernel_rfl)) rfl ?_
 exact ⟨by first | rfl | (simp [errW_none, errW_some] <;> rfl) | (simp [*, errW_none, errW_some] <;> rfl), bw112_⟩

/-! ### impl_FindHop: function 17 -/
def impl_FindHop.f (k : Nat) (l0_0 : List (S30)) (a1 : Int) : Option (Int) := (impl_BestRoute.f k l0_0 a1).bind fun bt497 => (if bt497.2.2.2 = true then (some bt497.2.2.1) else (some (-1)))
theorem impl_FindHop.mono : ∀ a0 a1 k, LeO (impl_FindHop.f k a0 a1) (impl_FindHop.f (k + 1) a0 a1) := by
 intro a0 a1 k
 unfold impl_FindHop.f
 repeat' first | (with_reducible first | exact impl_BestRoute.mono _ _ _ | exact LeO.refl _ | exact LeO.none _ | refine LeO.ite ?_ ?_ | refine LeO.bind ?_ (fun _ => ?_)) | exact impl_BestRoute.mono _ _ _ | exact LeO.none _ | refine LeO.ite ?_ ?_ | refine LeO.bind ?_ (fun _ => ?_)
set_option maxHeartbeats 8000000 in
set_option maxRecDepth 100000 in
theorem impl_FindHop.calls (k : Nat) (A0_0 : Option Addr) (c0_0 : Nat) (l0_0 : List (S30)) (a1 : Int) (r : Int) (w : World) (hr0_0 : Kd.C k30 w A0_0 l0_0.length l0_0) (hc0_0 : l0_0.length ≤ c0_0) (h : impl_FindHop.f k l0_0 a1 = some r) :
  Calls Try.prog 17 #[.agg #[.slice A0_0 l0_0.length c0_0], .int .i64 a1] w fun e w' => e = .returned (.int .i64 r) ∧ Below w.heap.size w w' := by
 have hu26 := Try.underlying26
 have hu30 := Try.underlying30
 have HR0_0 := Aside0.mk hr0_0
 have HC0_0 := Aside0.mk hc0_0
 clear hr0_0 hc0_0
 have HB := Aside0.mk (Below.refl w.heap.size w)
 have H : ((impl_BestRoute.f k l0_0 a1).bind fun bt497 => (if bt497.2.2.2 = true then (some bt497.2.2.1) else (some (-1)))) = some r := h
 clear h
 replace H := Option.bind_eq_some_iff.mp H
 obtain ⟨⟨t497, t498, t499, t500⟩, A30, H⟩ := H
 have A3 := Aside0.mk A30
 clear A30
 by_cases c4 : t500 = true
 ·subst c4
  rw [if_pos rfl] at H
  obtain rfl := Option.some.inj H
  go_enter Try.func17, Try.ntmps17
  go_wp2_with (first | ((with_reducible refine gate_dst (N := 2) rfl ?_); refine box_event ?hg (N := 2) ?hd (cs := #[.slice A0_0 l0_0.length c0_0]) (t := 26) ?hr ?_; (case hd => rfl); (case hg => rfl); (case hr => first | (go_simp; done) | (go_simp; rfl)); intro gb496 hg w5 hbox hb; have BK496 := Aside0.mk hbox; have GW496 := ge_ HB hg; have GE496 := ge_ HB hg; replace HB := at_ HB hb; clear hb hbox hg; have hcz6_0 := cz_ BK496 0 (.slice A0_0 l0_0.length c0_0); have hfz6_0 := fz_ BK496 0) | ((with_reducible refine gate_callee (f := 58) rfl ?_); refine gl_ (some 10) Try.func58 #[.agg #[.slice A0_0 l0_0.length c0_0], .int .i64 a1] ?_; (with_reducible refine (impl_BestRoute.calls k _ _ l0_0 a1 t497 t498 t499 true _ ?side1 ?side2 A3.out).mono ?_); (case side1 => exact cb_ HR0_0 HB); (case side2 => exact HC0_0.out); rintro e w7 ⟨rfl, hb⟩; refine ⟨_, rfl, ?_⟩; replace BK496 := ab_ BK496 hb; replace HB := at_ HB hb; (try clear hb); (try clear hb2); (try clear hk); (try clear hi)) | ((with_reducible refine gate_dst (N := 5) rfl ?_); refine box_event ?hg (N := 5) ?hd (cs := #[.int .i64 0, .int .i64 0, .int .i64 0]) (t := 30) ?hr ?_; (case hd => rfl); (case hg => rfl); (case hr => first | (go_simp; done) | (go_simp; rfl)); intro gb501 hg w8 hbox hb; have BK501 := Aside0.mk hbox; have GW501 := ge_ HB hg; have GE501 := ge_ HB hg; have NB496_501 := nl_ BK496 hg; have NB501_496 := ng_ BK496 hg; replace HB := at_ HB hb; replace BK496 := ab_ BK496 hb; clear hb hbox hg; have hnb9 := NB501_496.out; have hnc9 := NB496_501.out; have hcz10_0 := cz_ BK501 0 (.int .i64 0); have hcz10_1 := cz_ BK501 1 (.int .i64 0); have hcz10_2 := cz_ BK501 2 (.int .i64 0); have hfz10_0 := fz_ BK501 0; have hfz10_1 := fz_ BK501 1; have hfz10_2 := fz_ BK501 2))
  go_ret
  exact ⟨by first | rfl | (simp [errW_none, errW_some] <;> rfl) | (simp [*, errW_none, errW_some] <;> rfl), bw112_⟩
 replace c4 := Bool.eq_false_iff.mpr c4
 subst c4
 rw [if_neg (show ¬ (false = true) by decide)] at H
 obtain rfl := Option.some.inj H
 go_enter Try.func17, Try.ntmps17
 go_wp2_with (first | ((with_reducible refine gate_dst (N := 2) rfl ?_); refine box_event ?hg (N := 2) ?hd (cs := #[.slice A0_0 l0_0.length c0_0]) (t := 26) ?hr ?_; (case hd => rfl); (case hg => rfl); (case hr => first | (go_simp; done) | (go_simp; rfl)); intro gb496 hg w11 hbox hb; have BK496 := Aside0.mk hbox; have GW496 := ge_ HB hg; have GE496 := ge_ HB hg; replace HB := at_ HB hb; clear hb hbox hg; have hcz12_0 := cz_ BK496 0 (.slice A0_0 l0_0.length c0_0); have hfz12_0 := fz_ BK496 0) | ((with_reducible refine gate_callee (f := 58) rfl ?_); refine gl_ (some 10) Try.func58 #[.agg #[.slice A0_0 l0_0.length c0_0], .int .i64 a1] ?_; (with_reducible refine (impl_BestRoute.calls k _ _ l0_0 a1 t497 t498 t499 false _ ?side1 ?side2 A3.out).mono ?_); (case side1 => exact cb_ HR0_0 HB); (case side2 => exact HC0_0.out); rintro e w13 ⟨rfl, hb⟩; refine ⟨_, rfl, ?_⟩; replace BK496 := ab_ BK496 hb; replace HB := at_ HB hb; (try clear hb); (try clear hb2); (try clear hk); (try clear hi)) | ((with_reducible refine gate_dst (N := 5) rfl ?_); refine box_event ?hg (N := 5) ?hd (cs := #[.int .i64 0, .int .i64 0, .int .i64 0]) (t := 30) ?hr ?_; (case hd => rfl); (case hg => rfl); (case hr => first | (go_simp; done) | (go_simp; rfl)); intro gb501 hg w14 hbox hb; have BK501 := Aside0.mk hbox; have GW501 := ge_ HB hg; have GE501 := ge_ HB hg; have NB496_501 := nl_ BK496 hg; have NB501_496 := ng_ BK496 hg; replace HB := at_ HB hb; replace BK496 := ab_ BK496 hb; clear hb hbox hg; have hnb15 := NB501_496.out; have hnc15 := NB496_501.out; have hcz16_0 := cz_ BK501 0 (.int .i64 0); have hcz16_1 := cz_ BK501 1 (.int .i64 0); have hcz16_2 := cz_ BK501 2 (.int .i64 0); have hfz16_0 := fz_ BK501 0; have hfz16_1 := fz_ BK501 1; have hfz16_2 := fz_ BK501 2))
 go_ret
 exact ⟨by first | rfl | (simp [errW_none, errW_some] <;> rfl) | (simp [*, errW_none, errW_some] <;> rfl), bw112_⟩

end Go.Proofs.Ytjepmdngbafonaa.QFnRoutes
