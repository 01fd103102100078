/- Contracts of functions that the law reaches: what each call returns and what it leaves in memory. Made by this session over the print of the kit. -/
import Derived.Test.YtjepmdngbafonaaQFnRoutesx0
import Derived.Test.YtjepmdngbafonaaQFnRoutesx2
import Derived.Test.YtjepmdngbafonaaQFnRoutesx11
namespace Go.Proofs.Ytjepmdngbafonaa.QFnRoutes
open Go.RowKit Go.Proofs.YtjepmdngbafonaaR.PrintWords Go.Proofs.YtjepmdngbafonaaR.PrintLast Go.Proofs.YtjepmdngbafonaaR.PrintMore
attribute [local go_sem] max2_int min2_int max_two min_two max_three min_three max_four min_four   -- for this text's walks alone
set_option linter.unusedVariables false
set_option linter.unusedSimpArgs false
def ba12_0 : Array Bool := bs_ 20 0
def ba12_1 : Array Bool := bs_ 20 1
def ba12_2 : Array Bool := bs_ 20 3
def ba12_3 : Array Bool := bs_ 20 7
def ba12_4 : Array Bool := bs_ 20 15
def ba12_5 : Array Bool := bs_ 20 31
def ba12_6 : Array Bool := bs_ 20 63
def ba12_7 : Array Bool := bs_ 20 127
def ba12_8 : Array Bool := bs_ 20 255
def ba12_9 : Array Bool := bs_ 20 767
def ba12_10 : Array Bool := bs_ 20 1791
def ba12_11 : Array Bool := bs_ 20 18175
def ba12_12 : Array Bool := bs_ 20 18431
def ba12_13 : Array Bool := bs_ 20 20479
def ba12_14 : Array Bool := bs_ 20 24575
def ba12_15 : Array Bool := bs_ 20 32767
def ba12_16 : Array Bool := bs_ 20 65535
def ba12_17 : Array Bool := bs_ 20 131071
def ba12_18 : Array Bool := bs_ 20 262143
def ba12_19 : Array Bool := bs_ 20 524287
def ba12_20 : Array Bool := bs_ 20 1048575
def ba12_21 : Array Bool := bs_ 20 511
def ba12_22 : Array Bool := bs_ 20 1023
def ba12_23 : Array Bool := bs_ 20 2047
def ba12_24 : Array Bool := bs_ 20 4095
def ba12_25 : Array Bool := bs_ 20 8191
def ba12_26 : Array Bool := bs_ 20 16383

/-! ### impl_TableOk: function 48 -/
def impl_TableOk.l0 : Nat → List (S30) → Int → Int → List (S30) → Option (Bool)
 | 0, _, _, _, _ => none
 | k + 1, x6, x7, x8, x396000 => if x8 < x7 then (if 0 ≤ x8 then (if x8 < (x6.length : Int) then ((impl_isRoute.f ((rd_T30 x6 x8).f0.f0) ((rd_T30 x6 x8).f0.f1) ((rd_T30 x6 x8).f1)).bind fun t398 => (if t398 = true then (if x8 > 0 then (if 0 ≤ (wrap64 (x8 - 1)) then (if (wrap64 (x8 - 1)) < (x396000.length : Int) then ((impl_comparePrefixes.f ((rd_T30 x396000 (wrap64 (x8 - 1))).f0.f0) ((rd_T30 x396000 (wrap64 (x8 - 1))).f0.f1) ((rd_T30 x6 x8).f0.f0) ((rd_T30 x6 x8).f0.f1)).bind fun t400 => (if t400 ≥ 0 then (some false) else (impl_TableOk.l0 k x6 x7 (wrap64 (x8 + 1)) x396000))) else (none)) else (none)) else (impl_TableOk.l0 k x6 x7 (wrap64 (x8 + 1)) x396000)) else (some false))) else (none)) else (none)) else (some (decide ((x396000.length : Int) ≤ 120)))
def impl_TableOk.f (k : Nat) (l0_0 : List (S30)) : Option (Bool) := impl_TableOk.l0 k l0_0 (l0_0.length : Int) 0 l0_0
theorem impl_TableOk.mono_l : ∀ k, (∀ y0 y1 y2 y3, LeO (impl_TableOk.l0 k y0 y1 y2 y3) (impl_TableOk.l0 (k + 1) y0 y1 y2 y3))
 | 0 => fun _ _ _ _ r h => by simp [impl_TableOk.l0] at h
 | k + 1 => by
  have ih0 := impl_TableOk.mono_l k
  ·intro y0 y1 y2 y3
   unfold impl_TableOk.l0
   repeat' first | (with_reducible first | exact ih0 _ _ _ _ | exact LeO.refl _ | exact LeO.none _ | refine LeO.ite ?_ ?_ | refine LeO.bind ?_ (fun _ => ?_)) | exact ih0 _ _ _ _ | exact LeO.none _ | refine LeO.ite ?_ ?_ | refine LeO.bind ?_ (fun _ => ?_)
theorem impl_TableOk.mono : ∀ a0 k, LeO (impl_TableOk.f k a0) (impl_TableOk.f (k + 1) a0) := by
 intro a0 k
 have ih0 := impl_TableOk.mono_l k
 unfold impl_TableOk.f
 repeat' first | (with_reducible first | exact ih0 _ _ _ _ | exact LeO.refl _ | exact LeO.none _ | refine LeO.ite ?_ ?_ | refine LeO.bind ?_ (fun _ => ?_)) | exact ih0 _ _ _ _ | exact LeO.none _ | refine LeO.ite ?_ ?_ | refine LeO.bind ?_ (fun _ => ?_)
def impl_TableOk.T4 : Bool × List (List Nat × List Nat) := (true, [([], []), ([0], [0]), ([1], [1]), ([2, 1], [2]), ([3], [3]), ([4, 3], [3, 4]), ([5, 3, 3], [3, 5]), ([6], [6]), ([7, 6], [6, 7]), ([6], [6]), ([9, 6], [6, 9]), ([8, 10, 6], [6, 8, 10]), ([11, 6], [6, 11]), ([12, 6], [6, 12]), ([6], [6]), ([14, 6], [6, 14]), ([13, 15, 6, 6], [6, 13, 15]), ([16, 6], [6, 16]), ([6, 17, 3], [3, 6, 17]), ([3, 18], [3, 18])])
def impl_TableOk.B4 : List Nat := [0, 1, 3, 7, 15, 31, 63, 127, 255, 127, 639, 2047, 4095, 8191, 127, 16511, 65535, 131071, 262143, 524287]
theorem impl_TableOk.tab4 : rtab .any (opsOf Try.f48 4) = impl_TableOk.T4 := by kernel_rfl
theorem impl_TableOk.bits4 : waitsOk impl_TableOk.T4.2 impl_TableOk.B4 = true := by kernel_rfl
set_option maxHeartbeats 8000000 in
set_option maxRecDepth 100000 in
theorem impl_TableOk.calls (k : Nat) (A0_0 : Option Addr) (c0_0 : Nat) (l0_0 : List (S30)) (r : Bool) (w : World) (hr0_0 : Kd.C k30 w A0_0 l0_0.length l0_0) (hc0_0 : l0_0.length ≤ c0_0) (h : impl_TableOk.f k l0_0 = some r) :
  Calls Try.prog 48 #[.agg #[.slice A0_0 l0_0.length c0_0]] w fun e w' => e = .returned (.bool r) ∧ Below w.heap.size w w' := by
 have hu26 := Try.underlying26
 have hu30 := Try.underlying30
 have hu28 := Try.underlying28
 have HR0_0 := Aside0.mk hr0_0
 have HC0_0 := Aside0.mk hc0_0
 clear hr0_0 hc0_0
 have HB := Aside0.mk (Below.refl w.heap.size w)
 have H : (impl_TableOk.l0 k l0_0 (l0_0.length : Int) 0 l0_0) = some r := h
 clear h
 have H' := Aside0.mk H
 clear H
 go_enter Try.func48, Try.ntmps48
 go_wp2_with ((with_reducible refine gate_dst (N := 1) rfl ?_); refine box_event ?hg (N := 1) ?hd (cs := #[.slice A0_0 l0_0.length c0_0]) (t := 26) ?hr ?_; (case hd => rfl); (case hg => rfl); (case hr => first | (go_simp; done) | (go_simp; rfl)); intro gb395 hg w2 hbox hb; have BK395 := Aside0.mk hbox; have GW395 := ge_ HB hg; have GE395 := ge_ HB hg; replace HB := at_ HB hb; clear hb hbox hg; have hcz3_0 := cz_ BK395 0 (.slice A0_0 l0_0.length c0_0); have hfz3_0 := fz_ BK395 0)
 go_loopg [8] k (fun kq v8 w' => ∃ (x8_1 : Int), v8 = .int .i64 x8_1 ∧ Aside0 (impl_TableOk.l0 kq l0_0 (l0_0.length : Int) x8_1 l0_0 = some r) ∧ Aside0 (kq ≤ k) ∧ Aside0 (w'.heap[gb395]? = some (.cells #[(.slice A0_0 l0_0.length c0_0)] 26 (0, 0))) ∧ Aside0 (Below w.heap.size w w'))
 case atStart => exact ⟨(0), er_, H', ⟨Nat.le_refl _⟩, ⟨bx_ BK395⟩, ⟨bw112_⟩⟩
 case round =>
  clear H'
  try clear p2
  try clear hcz3_0
  try clear hfz3_0
  obtain ⟨x8_1, rfl, HA, HK1, BK395, HB⟩ := hrel
  cases gk with
  | zero => exact absurd HA.out (by simp [impl_TableOk.l0])
  | succ k1 =>
   have H := HA.out
   clear HA
   simp only [impl_TableOk.l0] at H
   by_cases c4 : x8_1 < (l0_0.length : Int)
   rotate_left
   ·rw [if_neg c4] at H
    have c4b0 : decide (x8_1 < (l0_0.length : Int)) = false := decide_eq_false c4
    clear c4
    obtain rfl := Option.some.inj H
    have hcz41_0 := cz_ BK395 0 (.slice A0_0 l0_0.length c0_0)
    have hfz41_0 := fz_ BK395 0
    go_wp2
    go_ret
    exact ⟨by first | rfl | (simp [errW_none, errW_some] <;> rfl) | (simp [*, errW_none, errW_some] <;> rfl), bw112_⟩
   rw [if_pos c4] at H
   have c4b0 : decide (x8_1 < (l0_0.length : Int)) = true := decide_eq_true c4
   clear c4
   obtain ⟨c5b0, H⟩ := iq_ H
   obtain ⟨c6b0, H⟩ := iq_ H
   replace H := Option.bind_eq_some_iff.mp H
   obtain ⟨t398, A70, H⟩ := H
   have A7 := Aside0.mk A70
   clear A70
   by_cases c8 : t398 = true
   rotate_left
   ·replace c8 := Bool.eq_false_iff.mpr c8
    subst c8
    rw [if_neg (show ¬ (false = true) by decide)] at H
    obtain rfl := Option.some.inj H
    have p396 : 0 ≤ (x8_1 : Int) := oa_
    have q396 : x8_1 < (l0_0.length : Int) := oa_
    obtain ⟨ad396, e396, hx396_0, hx396_1, hx396_2⟩ := at_T30 HR0_0.out x8_1 p396 q396
    cases e396
    replace hx396_0 := (HB.out.cell (World.block_lt_of_cell? w _ hx396_0)).trans hx396_0
    replace hx396_1 := (HB.out.cell (World.block_lt_of_cell? w _ hx396_1)).trans hx396_1
    replace hx396_2 := (HB.out.cell (World.block_lt_of_cell? w _ hx396_2)).trans hx396_2
    replace p396 := eq_true p396
    replace q396 := eq_true q396
    try go_wp2_with ((with_reducible refine gate_dst (N := 4) rfl ?_); refine box_event ?hg (N := 4) ?hd (cs := #[.int .i64 0, .int .i64 0, .int .i64 0]) (t := 30) ?hr ?_; (case hd => rfl); (case hg => rfl); (case hr => first | (go_simp; done) | (go_simp; rfl)); intro gb397 hg w35 hbox hb; have BK397 := Aside0.mk hbox; have GW397 := ge_ HB hg; have GE397 := ge_ HB hg; have NB395_397 := nl_ BK395 hg; have NB397_395 := ng_ BK395 hg; replace HB := at_ HB hb; replace BK395 := ab_ BK395 hb; clear hb hbox hg; have hnb36 := NB397_395.out; have hnc36 := NB395_397.out; have hcz37_0 := cz_ BK397 0 (.int .i64 0); have hcz37_1 := cz_ BK397 1 (.int .i64 0); have hcz37_2 := cz_ BK397 2 (.int .i64 0); have hfz37_0 := fz_ BK397 0; have hfz37_1 := fz_ BK397 1; have hfz37_2 := fz_ BK397 2)
    have n0_ : Aside0 ((((w35.setCell ⟨gb397, 0, none⟩ (.int .i64 ((rd_T30 l0_0 x8_1).f0.f0))).setCell ⟨gb397, 1, none⟩ (.int .i64 ((rd_T30 l0_0 x8_1).f0.f1))).setCell ⟨gb397, 2, none⟩ (.int .i64 ((rd_T30 l0_0 x8_1).f1))).heap[gb395]? = some (.cells #[.slice (some ad396) l0_0.length c0_0] 26 (0, 0))) := ⟨bc_ BK395⟩
    have n1_ : Aside0 ((((w35.setCell ⟨gb397, 0, none⟩ (.int .i64 ((rd_T30 l0_0 x8_1).f0.f0))).setCell ⟨gb397, 1, none⟩ (.int .i64 ((rd_T30 l0_0 x8_1).f0.f1))).setCell ⟨gb397, 2, none⟩ (.int .i64 ((rd_T30 l0_0 x8_1).f1))).heap[gb397]? = some (.cells #[.int .i64 ((rd_T30 l0_0 x8_1).f0.f0), .int .i64 ((rd_T30 l0_0 x8_1).f0.f1), .int .i64 ((rd_T30 l0_0 x8_1).f1)] 30 (0, 0))) := ⟨by refine bd_ ?_; refine blk_put (cs := #[.int .i64 ((rd_T30 l0_0 x8_1).f0.f0), .int .i64 ((rd_T30 l0_0 x8_1).f0.f1), .int .i64 0]) ?_ 2 _ rfl; refine bd_ ?_; refine blk_put (cs := #[.int .i64 ((rd_T30 l0_0 x8_1).f0.f0), .int .i64 0, .int .i64 0]) ?_ 1 _ rfl; refine bd_ ?_; refine blk_put (cs := #[.int .i64 0, .int .i64 0, .int .i64 0]) ?_ 0 _ rfl; refine bd_ ?_; exact BK397.out⟩
    have n2_ : Aside0 (Below w.heap.size w (((w35.setCell ⟨gb397, 0, none⟩ (.int .i64 ((rd_T30 l0_0 x8_1).f0.f0))).setCell ⟨gb397, 1, none⟩ (.int .i64 ((rd_T30 l0_0 x8_1).f0.f1))).setCell ⟨gb397, 2, none⟩ (.int .i64 ((rd_T30 l0_0 x8_1).f1)))) := ⟨bw112_⟩
    (try clear BK395)
    (try clear BK397)
    (try clear HB)
    generalize (((w35.setCell ⟨gb397, 0, none⟩ (.int .i64 ((rd_T30 l0_0 x8_1).f0.f0))).setCell ⟨gb397, 1, none⟩ (.int .i64 ((rd_T30 l0_0 x8_1).f0.f1))).setCell ⟨gb397, 2, none⟩ (.int .i64 ((rd_T30 l0_0 x8_1).f1))) = w38 at n0_ n1_ n2_ ⊢
    have BK395 := n0_
    have BK397 := n1_
    have HB := n2_
    clear n0_ n1_ n2_
    replace BK395 := ad_ BK395
    replace BK397 := ad_ BK397
    replace HB := Aside0.mk (below_drew1 HB.out)
    refine start_ (n := 20) (S := fun w' => w'.cell? ⟨gb397, 0, none⟩ = some (.int .i64 ((rd_T30 l0_0 x8_1).f0.f0)) ∧ w'.cell? ⟨gb397, 1, none⟩ = some (.int .i64 ((rd_T30 l0_0 x8_1).f0.f1)) ∧ w'.cell? ⟨gb397, 2, none⟩ = some (.int .i64 ((rd_T30 l0_0 x8_1).f1))) (ds := []) ba12_0 (by kernel_rfl) rfl rfl ⟨(blk_cell BK397.out 0).trans rfl, (blk_cell BK397.out 1).trans rfl, (blk_cell BK397.out 2).trans rfl⟩ (fun hHeld => ?_); refine with_tabW impl_TableOk.tab4 impl_TableOk.bits4 (fun HT_ HW_ => ?_)
    generalize w38.drew = w39 at BK395 BK397 HB hHeld ⊢
    refine pt_ 0 13 ba12_1 HT_ HW_ hHeld ?_
    refine one_ (i := 1) (N := some 14) ba12_2 rfl rfl (one_of HT_.out (by kernel_rfl)) (by decide) (fun K hK => ?_)
    refine gz_ Try.func49 #[.agg #[.int .i64 ((rd_T30 l0_0 x8_1).f0.f0), .int .i64 ((rd_T30 l0_0 x8_1).f0.f1), .int .i64 ((rd_T30 l0_0 x8_1).f1)]] ?_
    with_reducible refine (impl_isRoute.calls ((rd_T30 l0_0 x8_1).f0.f0) ((rd_T30 l0_0 x8_1).f0.f1) ((rd_T30 l0_0 x8_1).f1) false _ A7.out).mono ?_
    rintro e w40 ⟨rfl, hb⟩
    refine ⟨_, rfl, ?_⟩
    replace BK395 := ab_ BK395 hb
    replace BK397 := ab_ BK397 hb
    replace HB := at_ HB hb
    (try clear hb)
    (try clear hb2)
    (try clear hk)
    (try clear hi)
    refine hK.out _ _ ⟨(blk_cell BK397.out 0).trans rfl, (blk_cell BK397.out 1).trans rfl, (blk_cell BK397.out 2).trans rfl⟩ (fun hHeld => ?_)
    clear hK K
    refine nz_ 14 ?_
    refine pz_ 2 15 ba12_3 HT_ ?_
    refine pz_ 3 16 ba12_4 HT_ ?_
    refine pu_ 4 17 ba12_5 HT_ ?_
    refine pu_ 5 18 ba12_6 HT_ ?_
    refine pu_ 6 19 ba12_7 HT_ ?_
    refine pu_ 7 20 ba12_8 HT_ ?_
    refine pu_ 8 21 ba12_21 HT_ ?_
    refine pu_ 9 22 ba12_22 HT_ ?_
    refine pu_ 10 23 ba12_23 HT_ ?_
    refine pu_ 11 24 ba12_24 HT_ ?_
    refine pu_ 12 25 ba12_25 HT_ ?_
    refine pu_ 13 26 ba12_26 HT_ ?_
    refine pu_ 14 27 ba12_15 HT_ ?_
    refine pu_ 15 28 ba12_16 HT_ ?_
    refine pu_ 16 29 ba12_17 HT_ ?_
    refine pu_ 17 30 ba12_18 HT_ ?_
    refine pu_ 18 31 ba12_19 HT_ ?_
    refine pz_ 19 32 ba12_20 HT_ ?_
    refine done_ (done_of HT_.out (by kernel_rfl)) ?_
    try go_wp2
    go_ret
    exact ⟨by first | rfl | (simp [errW_none, errW_some] <;> rfl) | (simp [*, errW_none, errW_some] <;> rfl), bw112_⟩
   subst c8
   rw [if_pos rfl] at H
   by_cases c9 : x8_1 > 0
   rotate_left
   ·rw [if_neg c9] at H
    have c9b0 : decide (0 < x8_1) = false := decide_eq_false c9
    clear c9
    have H' := Aside0.mk H
    clear H
    have p396 : 0 ≤ (x8_1 : Int) := oa_
    have q396 : x8_1 < (l0_0.length : Int) := oa_
    obtain ⟨ad396, e396, hx396_0, hx396_1, hx396_2⟩ := at_T30 HR0_0.out x8_1 p396 q396
    cases e396
    replace hx396_0 := (HB.out.cell (World.block_lt_of_cell? w _ hx396_0)).trans hx396_0
    replace hx396_1 := (HB.out.cell (World.block_lt_of_cell? w _ hx396_1)).trans hx396_1
    replace hx396_2 := (HB.out.cell (World.block_lt_of_cell? w _ hx396_2)).trans hx396_2
    replace p396 := eq_true p396
    replace q396 := eq_true q396
    try go_wp2_with ((with_reducible refine gate_dst (N := 4) rfl ?_); refine box_event ?hg (N := 4) ?hd (cs := #[.int .i64 0, .int .i64 0, .int .i64 0]) (t := 30) ?hr ?_; (case hd => rfl); (case hg => rfl); (case hr => first | (go_simp; done) | (go_simp; rfl)); intro gb397 hg w29 hbox hb; have BK397 := Aside0.mk hbox; have GW397 := ge_ HB hg; have GE397 := ge_ HB hg; have NB395_397 := nl_ BK395 hg; have NB397_395 := ng_ BK395 hg; replace HB := at_ HB hb; replace BK395 := ab_ BK395 hb; clear hb hbox hg; have hnb30 := NB397_395.out; have hnc30 := NB395_397.out; have hcz31_0 := cz_ BK397 0 (.int .i64 0); have hcz31_1 := cz_ BK397 1 (.int .i64 0); have hcz31_2 := cz_ BK397 2 (.int .i64 0); have hfz31_0 := fz_ BK397 0; have hfz31_1 := fz_ BK397 1; have hfz31_2 := fz_ BK397 2)
    have n0_ : Aside0 ((((w29.setCell ⟨gb397, 0, none⟩ (.int .i64 ((rd_T30 l0_0 x8_1).f0.f0))).setCell ⟨gb397, 1, none⟩ (.int .i64 ((rd_T30 l0_0 x8_1).f0.f1))).setCell ⟨gb397, 2, none⟩ (.int .i64 ((rd_T30 l0_0 x8_1).f1))).heap[gb395]? = some (.cells #[.slice (some ad396) l0_0.length c0_0] 26 (0, 0))) := ⟨bc_ BK395⟩
    have n1_ : Aside0 ((((w29.setCell ⟨gb397, 0, none⟩ (.int .i64 ((rd_T30 l0_0 x8_1).f0.f0))).setCell ⟨gb397, 1, none⟩ (.int .i64 ((rd_T30 l0_0 x8_1).f0.f1))).setCell ⟨gb397, 2, none⟩ (.int .i64 ((rd_T30 l0_0 x8_1).f1))).heap[gb397]? = some (.cells #[.int .i64 ((rd_T30 l0_0 x8_1).f0.f0), .int .i64 ((rd_T30 l0_0 x8_1).f0.f1), .int .i64 ((rd_T30 l0_0 x8_1).f1)] 30 (0, 0))) := ⟨by refine bd_ ?_; refine blk_put (cs := #[.int .i64 ((rd_T30 l0_0 x8_1).f0.f0), .int .i64 ((rd_T30 l0_0 x8_1).f0.f1), .int .i64 0]) ?_ 2 _ rfl; refine bd_ ?_; refine blk_put (cs := #[.int .i64 ((rd_T30 l0_0 x8_1).f0.f0), .int .i64 0, .int .i64 0]) ?_ 1 _ rfl; refine bd_ ?_; refine blk_put (cs := #[.int .i64 0, .int .i64 0, .int .i64 0]) ?_ 0 _ rfl; refine bd_ ?_; exact BK397.out⟩
    have n2_ : Aside0 (Below w.heap.size w (((w29.setCell ⟨gb397, 0, none⟩ (.int .i64 ((rd_T30 l0_0 x8_1).f0.f0))).setCell ⟨gb397, 1, none⟩ (.int .i64 ((rd_T30 l0_0 x8_1).f0.f1))).setCell ⟨gb397, 2, none⟩ (.int .i64 ((rd_T30 l0_0 x8_1).f1)))) := ⟨bw112_⟩
    (try clear BK395)
    (try clear BK397)
    (try clear HB)
    generalize (((w29.setCell ⟨gb397, 0, none⟩ (.int .i64 ((rd_T30 l0_0 x8_1).f0.f0))).setCell ⟨gb397, 1, none⟩ (.int .i64 ((rd_T30 l0_0 x8_1).f0.f1))).setCell ⟨gb397, 2, none⟩ (.int .i64 ((rd_T30 l0_0 x8_1).f1))) = w32 at n0_ n1_ n2_ ⊢
    have BK395 := n0_
    have BK397 := n1_
    have HB := n2_
    clear n0_ n1_ n2_
    replace BK395 := ad_ BK395
    replace BK397 := ad_ BK397
    replace HB := Aside0.mk (below_drew1 HB.out)
    refine start_ (n := 20) (S := fun w' => w'.cell? ⟨gb397, 0, none⟩ = some (.int .i64 ((rd_T30 l0_0 x8_1).f0.f0)) ∧ w'.cell? ⟨gb397, 1, none⟩ = some (.int .i64 ((rd_T30 l0_0 x8_1).f0.f1)) ∧ w'.cell? ⟨gb397, 2, none⟩ = some (.int .i64 ((rd_T30 l0_0 x8_1).f1))) (ds := []) ba12_0 (by kernel_rfl) rfl rfl ⟨(blk_cell BK397.out 0).trans rfl, (blk_cell BK397.out 1).trans rfl, (blk_cell BK397.out 2).trans rfl⟩ (fun hHeld => ?_); refine with_tabW impl_TableOk.tab4 impl_TableOk.bits4 (fun HT_ HW_ => ?_)
    generalize w32.drew = w33 at BK395 BK397 HB hHeld ⊢
    refine pt_ 0 13 ba12_1 HT_ HW_ hHeld ?_
    refine one_ (i := 1) (N := some 14) ba12_2 rfl rfl (one_of HT_.out (by kernel_rfl)) (by decide) (fun K hK => ?_)
    refine gz_ Try.func49 #[.agg #[.int .i64 ((rd_T30 l0_0 x8_1).f0.f0), .int .i64 ((rd_T30 l0_0 x8_1).f0.f1), .int .i64 ((rd_T30 l0_0 x8_1).f1)]] ?_
    with_reducible refine (impl_isRoute.calls ((rd_T30 l0_0 x8_1).f0.f0) ((rd_T30 l0_0 x8_1).f0.f1) ((rd_T30 l0_0 x8_1).f1) true _ A7.out).mono ?_
    rintro e w34 ⟨rfl, hb⟩
    refine ⟨_, rfl, ?_⟩
    replace BK395 := ab_ BK395 hb
    replace BK397 := ab_ BK397 hb
    replace HB := at_ HB hb
    (try clear hb)
    (try clear hb2)
    (try clear hk)
    (try clear hi)
    refine hK.out _ _ ⟨(blk_cell BK397.out 0).trans rfl, (blk_cell BK397.out 1).trans rfl, (blk_cell BK397.out 2).trans rfl⟩ (fun hHeld => ?_)
    clear hK K
    refine nz_ 14 ?_
    refine pz_ 2 15 ba12_3 HT_ ?_
    refine pz_ 3 16 ba12_4 HT_ ?_
    refine pz_ 4 17 ba12_5 HT_ ?_
    refine pz_ 5 18 ba12_6 HT_ ?_
    refine pz_ 6 19 ba12_7 HT_ ?_
    refine pu_ 7 20 ba12_8 HT_ ?_
    refine pu_ 8 21 ba12_21 HT_ ?_
    refine pu_ 9 22 ba12_22 HT_ ?_
    refine pu_ 10 23 ba12_23 HT_ ?_
    refine pu_ 11 24 ba12_24 HT_ ?_
    refine pu_ 12 25 ba12_25 HT_ ?_
    refine pu_ 13 26 ba12_26 HT_ ?_
    refine pu_ 14 27 ba12_15 HT_ ?_
    refine pu_ 15 28 ba12_16 HT_ ?_
    refine pu_ 16 29 ba12_17 HT_ ?_
    refine pu_ 17 30 ba12_18 HT_ ?_
    refine pz_ 18 31 ba12_19 HT_ ?_
    refine pz_ 19 32 ba12_20 HT_ ?_
    refine done_ (done_of HT_.out (by kernel_rfl)) ?_
    try go_wp2
    go_roundg k1
    case measure => have := HK1.out; omega
    case rel => exact ⟨(wrap64 (x8_1 + 1)), er_, H', ⟨by have := HK1.out; omega⟩, ⟨bx_ BK395⟩, ⟨bw112_⟩⟩
   rw [if_pos c9] at H
   have c9b0 : decide (0 < x8_1) = true := decide_eq_true c9
   clear c9
   obtain ⟨ji10, hji10⟩ : ∃ j_ : Int, (wrap64 (x8_1 - 1)) = j_ := ⟨_, rfl⟩
   first | rw [hji10] at H | simp only [hji10] at H
   (try rw [hji10] at A7)
   have hji10w : (IntKind.i64.wrap (x8_1 - 1)) = ji10 := (i64_w _).trans hji10
   obtain ⟨c11b0, H⟩ := iq_ H
   obtain ⟨c12b0, H⟩ := iq_ H
   replace H := Option.bind_eq_some_iff.mp H
   obtain ⟨t400, A130, H⟩ := H
   have A13 := Aside0.mk A130
   clear A130
   by_cases c14 : t400 ≥ 0
   ·rw [if_pos c14] at H
    have c14b0 : decide (0 ≤ t400) = true := decide_eq_true c14
    clear c14
    obtain rfl := Option.some.inj H
    have p396 : 0 ≤ (x8_1 : Int) := oa_
    have q396 : x8_1 < (l0_0.length : Int) := oa_
    obtain ⟨ad396, e396, hx396_0, hx396_1, hx396_2⟩ := at_T30 HR0_0.out x8_1 p396 q396
    cases e396
    replace hx396_0 := (HB.out.cell (World.block_lt_of_cell? w _ hx396_0)).trans hx396_0
    replace hx396_1 := (HB.out.cell (World.block_lt_of_cell? w _ hx396_1)).trans hx396_1
    replace hx396_2 := (HB.out.cell (World.block_lt_of_cell? w _ hx396_2)).trans hx396_2
    replace p396 := eq_true p396
    replace q396 := eq_true q396
    try go_wp2_with ((with_reducible refine gate_dst (N := 4) rfl ?_); refine box_event ?hg (N := 4) ?hd (cs := #[.int .i64 0, .int .i64 0, .int .i64 0]) (t := 30) ?hr ?_; (case hd => rfl); (case hg => rfl); (case hr => first | (go_simp; done) | (go_simp; rfl)); intro gb397 hg w15 hbox hb; have BK397 := Aside0.mk hbox; have GW397 := ge_ HB hg; have GE397 := ge_ HB hg; have NB395_397 := nl_ BK395 hg; have NB397_395 := ng_ BK395 hg; replace HB := at_ HB hb; replace BK395 := ab_ BK395 hb; clear hb hbox hg; have hnb16 := NB397_395.out; have hnc16 := NB395_397.out; have hcz17_0 := cz_ BK397 0 (.int .i64 0); have hcz17_1 := cz_ BK397 1 (.int .i64 0); have hcz17_2 := cz_ BK397 2 (.int .i64 0); have hfz17_0 := fz_ BK397 0; have hfz17_1 := fz_ BK397 1; have hfz17_2 := fz_ BK397 2)
    have n0_ : Aside0 ((((w15.setCell ⟨gb397, 0, none⟩ (.int .i64 ((rd_T30 l0_0 x8_1).f0.f0))).setCell ⟨gb397, 1, none⟩ (.int .i64 ((rd_T30 l0_0 x8_1).f0.f1))).setCell ⟨gb397, 2, none⟩ (.int .i64 ((rd_T30 l0_0 x8_1).f1))).heap[gb395]? = some (.cells #[.slice (some ad396) l0_0.length c0_0] 26 (0, 0))) := ⟨bc_ BK395⟩
    have n1_ : Aside0 ((((w15.setCell ⟨gb397, 0, none⟩ (.int .i64 ((rd_T30 l0_0 x8_1).f0.f0))).setCell ⟨gb397, 1, none⟩ (.int .i64 ((rd_T30 l0_0 x8_1).f0.f1))).setCell ⟨gb397, 2, none⟩ (.int .i64 ((rd_T30 l0_0 x8_1).f1))).heap[gb397]? = some (.cells #[.int .i64 ((rd_T30 l0_0 x8_1).f0.f0), .int .i64 ((rd_T30 l0_0 x8_1).f0.f1), .int .i64 ((rd_T30 l0_0 x8_1).f1)] 30 (0, 0))) := ⟨by refine bd_ ?_; refine blk_put (cs := #[.int .i64 ((rd_T30 l0_0 x8_1).f0.f0), .int .i64 ((rd_T30 l0_0 x8_1).f0.f1), .int .i64 0]) ?_ 2 _ rfl; refine bd_ ?_; refine blk_put (cs := #[.int .i64 ((rd_T30 l0_0 x8_1).f0.f0), .int .i64 0, .int .i64 0]) ?_ 1 _ rfl; refine bd_ ?_; refine blk_put (cs := #[.int .i64 0, .int .i64 0, .int .i64 0]) ?_ 0 _ rfl; refine bd_ ?_; exact BK397.out⟩
    have n2_ : Aside0 (Below w.heap.size w (((w15.setCell ⟨gb397, 0, none⟩ (.int .i64 ((rd_T30 l0_0 x8_1).f0.f0))).setCell ⟨gb397, 1, none⟩ (.int .i64 ((rd_T30 l0_0 x8_1).f0.f1))).setCell ⟨gb397, 2, none⟩ (.int .i64 ((rd_T30 l0_0 x8_1).f1)))) := ⟨bw112_⟩
    (try clear BK395)
    (try clear BK397)
    (try clear HB)
    generalize (((w15.setCell ⟨gb397, 0, none⟩ (.int .i64 ((rd_T30 l0_0 x8_1).f0.f0))).setCell ⟨gb397, 1, none⟩ (.int .i64 ((rd_T30 l0_0 x8_1).f0.f1))).setCell ⟨gb397, 2, none⟩ (.int .i64 ((rd_T30 l0_0 x8_1).f1))) = w18 at n0_ n1_ n2_ ⊢
    have BK395 := n0_
    have BK397 := n1_
    have HB := n2_
    clear n0_ n1_ n2_
    replace BK395 := ad_ BK395
    replace BK397 := ad_ BK397
    replace HB := Aside0.mk (below_drew1 HB.out)
    have p399 : 0 ≤ ((ji10) : Int) := oa_
    have q399 : (ji10) < (l0_0.length : Int) := oa_
    obtain ⟨ad399, e399, hx399_0, hx399_1, hx399_2⟩ := at_T30 HR0_0.out (ji10) p399 q399
    have hw399_2 := hx399_2
    have hw399_1 := hx399_1
    have hw399_0 := hx399_0
    obtain rfl : ad396 = ad399 := (by injection e399)
    replace hx399_0 := (HB.out.cell (World.block_lt_of_cell? w _ hx399_0)).trans hx399_0
    replace hx399_1 := (HB.out.cell (World.block_lt_of_cell? w _ hx399_1)).trans hx399_1
    replace hx399_2 := (HB.out.cell (World.block_lt_of_cell? w _ hx399_2)).trans hx399_2
    replace p399 := eq_true p399
    replace q399 := eq_true q399
    refine start_ (n := 20) (S := fun w' => w'.cell? ⟨gb397, 0, none⟩ = some (.int .i64 ((rd_T30 l0_0 x8_1).f0.f0)) ∧ w'.cell? ⟨gb397, 1, none⟩ = some (.int .i64 ((rd_T30 l0_0 x8_1).f0.f1)) ∧ w'.cell? ⟨gb397, 2, none⟩ = some (.int .i64 ((rd_T30 l0_0 x8_1).f1)) ∧ w'.cell? ⟨gb395, 0, none⟩ = some (.slice (some ad396) l0_0.length c0_0) ∧ w'.cell? (ad396.add (((ji10)).toNat * 3)) = some (.int .i64 ((rd_T30 l0_0 (ji10)).f0.f0)) ∧ w'.cell? ⟨(ad396.add (((ji10)).toNat * 3)).block, (ad396.add (((ji10)).toNat * 3)).off + 1, none⟩ = some (.int .i64 ((rd_T30 l0_0 (ji10)).f0.f1)) ∧ w'.cell? ⟨(ad396.add (((ji10)).toNat * 3)).block, (ad396.add (((ji10)).toNat * 3)).off + 2, none⟩ = some (.int .i64 ((rd_T30 l0_0 (ji10)).f1))) (ds := []) ba12_0 (by kernel_rfl) rfl rfl ⟨(blk_cell BK397.out 0).trans rfl, (blk_cell BK397.out 1).trans rfl, (blk_cell BK397.out 2).trans rfl, (blk_cell BK395.out 0).trans rfl, (hc_ HB hw399_0), (hc_ HB hw399_1), (hc_ HB hw399_2)⟩ (fun hHeld => ?_); refine with_tabW impl_TableOk.tab4 impl_TableOk.bits4 (fun HT_ HW_ => ?_)
    generalize w18.drew = w19 at BK395 BK397 HB hx399_0 hx399_1 hx399_2 hHeld ⊢
    refine pt_ 0 13 ba12_1 HT_ HW_ hHeld ?_
    refine one_ (i := 1) (N := some 14) ba12_2 rfl rfl (one_of HT_.out (by kernel_rfl)) (by decide) (fun K hK => ?_)
    refine gz_ Try.func49 #[.agg #[.int .i64 ((rd_T30 l0_0 x8_1).f0.f0), .int .i64 ((rd_T30 l0_0 x8_1).f0.f1), .int .i64 ((rd_T30 l0_0 x8_1).f1)]] ?_
    with_reducible refine (impl_isRoute.calls ((rd_T30 l0_0 x8_1).f0.f0) ((rd_T30 l0_0 x8_1).f0.f1) ((rd_T30 l0_0 x8_1).f1) true _ A7.out).mono ?_
    rintro e w20 ⟨rfl, hb⟩
    refine ⟨_, rfl, ?_⟩
    replace BK395 := ab_ BK395 hb
    replace BK397 := ab_ BK397 hb
    replace HB := at_ HB hb
    (try clear hb)
    (try clear hb2)
    (try clear hk)
    (try clear hi)
    refine hK.out _ _ ⟨(blk_cell BK397.out 0).trans rfl, (blk_cell BK397.out 1).trans rfl, (blk_cell BK397.out 2).trans rfl, (blk_cell BK395.out 0).trans rfl, (hc_ HB hw399_0), (hc_ HB hw399_1), (hc_ HB hw399_2)⟩ (fun hHeld => ?_)
    clear hK K
    refine nz_ 14 ?_
    refine pz_ 2 15 ba12_3 HT_ ?_
    refine pz_ 3 16 ba12_4 HT_ ?_
    refine pz_ 4 17 ba12_5 HT_ ?_
    refine pz_ 5 18 ba12_6 HT_ ?_
    refine pz_ 6 19 ba12_7 HT_ ?_
    refine pz_ 7 20 ba12_8 HT_ ?_
    refine pz_ 9 22 ba12_9 HT_ ?_
    refine pz_ 10 23 ba12_10 HT_ ?_
    refine pz_ 14 27 ba12_11 HT_ ?_
    refine pt_ 8 21 ba12_12 HT_ HW_ hHeld ?_
    refine pz_ 11 24 ba12_13 HT_ ?_
    refine pz_ 12 25 ba12_14 HT_ ?_
    refine pt_ 13 26 ba12_15 HT_ HW_ hHeld ?_
    refine pt_ 15 28 ba12_16 HT_ HW_ hHeld ?_
    refine one_ (i := 16) (N := some 29) ba12_17 rfl rfl (one_of HT_.out (by kernel_rfl)) (by decide) (fun K hK => ?_)
    refine goes_ Try.func77 (by kernel_rfl) rfl #[.agg #[.int .i64 ((rd_T30 l0_0 (ji10)).f0.f0), .int .i64 ((rd_T30 l0_0 (ji10)).f0.f1)], .agg #[.int .i64 ((rd_T30 l0_0 x8_1).f0.f0), .int .i64 ((rd_T30 l0_0 x8_1).f0.f1)]] (by rfl) rfl rfl (by (try simp only [List.map_toArray, List.map_cons, List.map_nil]); first | done | (simp only [hji10]; rfl) | rfl | (simp only [List.length_drop, List.length_take]; rfl)) ?_
    with_reducible refine (impl_comparePrefixes.calls ((rd_T30 l0_0 (ji10)).f0.f0) ((rd_T30 l0_0 (ji10)).f0.f1) ((rd_T30 l0_0 x8_1).f0.f0) ((rd_T30 l0_0 x8_1).f0.f1) t400 _ A13.out).mono ?_
    rintro e w21 ⟨rfl, hb⟩
    refine ⟨_, rfl, ?_⟩
    replace BK395 := ab_ BK395 hb
    replace BK397 := ab_ BK397 hb
    replace HB := at_ HB hb
    (try clear hb)
    (try clear hb2)
    (try clear hk)
    (try clear hi)
    refine hK.out _ _ ⟨(blk_cell BK397.out 0).trans rfl, (blk_cell BK397.out 1).trans rfl, (blk_cell BK397.out 2).trans rfl, (blk_cell BK395.out 0).trans rfl, (hc_ HB hw399_0), (hc_ HB hw399_1), (hc_ HB hw399_2)⟩ (fun hHeld => ?_)
    clear hK K
    refine nz_ 29 ?_
    refine pz_ 17 30 ba12_18 HT_ ?_
    refine pz_ 18 31 ba12_19 HT_ ?_
    refine pz_ 19 32 ba12_20 HT_ ?_
    refine done_ (done_of HT_.out (by kernel_rfl)) ?_
    try go_wp2
    go_ret
    exact ⟨by first | rfl | (simp [errW_none, errW_some] <;> rfl) | (simp only [← hji10]; first | rfl | (simp [errW_none, errW_some] <;> rfl)) | (simp [*, errW_none, errW_some] <;> rfl), bw112_⟩
   rw [if_neg c14] at H
   have c14b0 : decide (0 ≤ t400) = false := decide_eq_false c14
   clear c14
   have H' := Aside0.mk H
   clear H
   have p396 : 0 ≤ (x8_1 : Int) := oa_
   have q396 : x8_1 < (l0_0.length : Int) := oa_
   obtain ⟨ad396, e396, hx396_0, hx396_1, hx396_2⟩ := at_T30 HR0_0.out x8_1 p396 q396
   cases e396
   replace hx396_0 := (HB.out.cell (World.block_lt_of_cell? w _ hx396_0)).trans hx396_0
   replace hx396_1 := (HB.out.cell (World.block_lt_of_cell? w _ hx396_1)).trans hx396_1
   replace hx396_2 := (HB.out.cell (World.block_lt_of_cell? w _ hx396_2)).trans hx396_2
   replace p396 := eq_true p396
   replace q396 := eq_true q396
   try go_wp2_with ((with_reducible refine gate_dst (N := 4) rfl ?_); refine box_event ?hg (N := 4) ?hd (cs := #[.int .i64 0, .int .i64 0, .int .i64 0]) (t := 30) ?hr ?_; (case hd => rfl); (case hg => rfl); (case hr => first | (go_simp; done) | (go_simp; rfl)); intro gb397 hg w22 hbox hb; have BK397 := Aside0.mk hbox; have GW397 := ge_ HB hg; have GE397 := ge_ HB hg; have NB395_397 := nl_ BK395 hg; have NB397_395 := ng_ BK395 hg; replace HB := at_ HB hb; replace BK395 := ab_ BK395 hb; clear hb hbox hg; have hnb23 := NB397_395.out; have hnc23 := NB395_397.out; have hcz24_0 := cz_ BK397 0 (.int .i64 0); have hcz24_1 := cz_ BK397 1 (.int .i64 0); have hcz24_2 := cz_ BK397 2 (.int .i64 0); have hfz24_0 := fz_ BK397 0; have hfz24_1 := fz_ BK397 1; have hfz24_2 := fz_ BK397 2)
   have n0_ : Aside0 ((((w22.setCell ⟨gb397, 0, none⟩ (.int .i64 ((rd_T30 l0_0 x8_1).f0.f0))).setCell ⟨gb397, 1, none⟩ (.int .i64 ((rd_T30 l0_0 x8_1).f0.f1))).setCell ⟨gb397, 2, none⟩ (.int .i64 ((rd_T30 l0_0 x8_1).f1))).heap[gb395]? = some (.cells #[.slice (some ad396) l0_0.length c0_0] 26 (0, 0))) := ⟨bc_ BK395⟩
   have n1_ : Aside0 ((((w22.setCell ⟨gb397, 0, none⟩ (.int .i64 ((rd_T30 l0_0 x8_1).f0.f0))).setCell ⟨gb397, 1, none⟩ (.int .i64 ((rd_T30 l0_0 x8_1).f0.f1))).setCell ⟨gb397, 2, none⟩ (.int .i64 ((rd_T30 l0_0 x8_1).f1))).heap[gb397]? = some (.cells #[.int .i64 ((rd_T30 l0_0 x8_1).f0.f0), .int .i64 ((rd_T30 l0_0 x8_1).f0.f1), .int .i64 ((rd_T30 l0_0 x8_1).f1)] 30 (0, 0))) := ⟨by refine bd_ ?_; refine blk_put (cs := #[.int .i64 ((rd_T30 l0_0 x8_1).f0.f0), .int .i64 ((rd_T30 l0_0 x8_1).f0.f1), .int .i64 0]) ?_ 2 _ rfl; refine bd_ ?_; refine blk_put (cs := #[.int .i64 ((rd_T30 l0_0 x8_1).f0.f0), .int .i64 0, .int .i64 0]) ?_ 1 _ rfl; refine bd_ ?_; refine blk_put (cs := #[.int .i64 0, .int .i64 0, .int .i64 0]) ?_ 0 _ rfl; refine bd_ ?_; exact BK397.out⟩
   have n2_ : Aside0 (Below w.heap.size w (((w22.setCell ⟨gb397, 0, none⟩ (.int .i64 ((rd_T30 l0_0 x8_1).f0.f0))).setCell ⟨gb397, 1, none⟩ (.int .i64 ((rd_T30 l0_0 x8_1).f0.f1))).setCell ⟨gb397, 2, none⟩ (.int .i64 ((rd_T30 l0_0 x8_1).f1)))) := ⟨bw112_⟩
   (try clear BK395)
   (try clear BK397)
   (try clear HB)
   generalize (((w22.setCell ⟨gb397, 0, none⟩ (.int .i64 ((rd_T30 l0_0 x8_1).f0.f0))).setCell ⟨gb397, 1, none⟩ (.int .i64 ((rd_T30 l0_0 x8_1).f0.f1))).setCell ⟨gb397, 2, none⟩ (.int .i64 ((rd_T30 l0_0 x8_1).f1))) = w25 at n0_ n1_ n2_ ⊢
   have BK395 := n0_
   have BK397 := n1_
   have HB := n2_
   clear n0_ n1_ n2_
   replace BK395 := ad_ BK395
   replace BK397 := ad_ BK397
   replace HB := Aside0.mk (below_drew1 HB.out)
   have p399 : 0 ≤ ((ji10) : Int) := oa_
   have q399 : (ji10) < (l0_0.length : Int) := oa_
   obtain ⟨ad399, e399, hx399_0, hx399_1, hx399_2⟩ := at_T30 HR0_0.out (ji10) p399 q399
   have hw399_2 := hx399_2
   have hw399_1 := hx399_1
   have hw399_0 := hx399_0
   obtain rfl : ad396 = ad399 := (by injection e399)
   replace hx399_0 := (HB.out.cell (World.block_lt_of_cell? w _ hx399_0)).trans hx399_0
   replace hx399_1 := (HB.out.cell (World.block_lt_of_cell? w _ hx399_1)).trans hx399_1
   replace hx399_2 := (HB.out.cell (World.block_lt_of_cell? w _ hx399_2)).trans hx399_2
   replace p399 := eq_true p399
   replace q399 := eq_true q399
   refine start_ (n := 20) (S := fun w' => w'.cell? ⟨gb397, 0, none⟩ = some (.int .i64 ((rd_T30 l0_0 x8_1).f0.f0)) ∧ w'.cell? ⟨gb397, 1, none⟩ = some (.int .i64 ((rd_T30 l0_0 x8_1).f0.f1)) ∧ w'.cell? ⟨gb397, 2, none⟩ = some (.int .i64 ((rd_T30 l0_0 x8_1).f1)) ∧ w'.cell? ⟨gb395, 0, none⟩ = some (.slice (some ad396) l0_0.length c0_0) ∧ w'.cell? (ad396.add (((ji10)).toNat * 3)) = some (.int .i64 ((rd_T30 l0_0 (ji10)).f0.f0)) ∧ w'.cell? ⟨(ad396.add (((ji10)).toNat * 3)).block, (ad396.add (((ji10)).toNat * 3)).off + 1, none⟩ = some (.int .i64 ((rd_T30 l0_0 (ji10)).f0.f1)) ∧ w'.cell? ⟨(ad396.add (((ji10)).toNat * 3)).block, (ad396.add (((ji10)).toNat * 3)).off + 2, none⟩ = some (.int .i64 ((rd_T30 l0_0 (ji10)).f1))) (ds := []) ba12_0 (by kernel_rfl) rfl rfl ⟨(blk_cell BK397.out 0).trans rfl, (blk_cell BK397.out 1).trans rfl, (blk_cell BK397.out 2).trans rfl, (blk_cell BK395.out 0).trans rfl, (hc_ HB hw399_0), (hc_ HB hw399_1), (hc_ HB hw399_2)⟩ (fun hHeld => ?_); refine with_tabW impl_TableOk.tab4 impl_TableOk.bits4 (fun HT_ HW_ => ?_)
   generalize w25.drew = w26 at BK395 BK397 HB hx399_0 hx399_1 hx399_2 hHeld ⊢
   refine pt_ 0 13 ba12_1 HT_ HW_ hHeld ?_
   refine one_ (i := 1) (N := some 14) ba12_2 rfl rfl (one_of HT_.out (by kernel_rfl)) (by decide) (fun K hK => ?_)
   refine gz_ Try.func49 #[.agg #[.int .i64 ((rd_T30 l0_0 x8_1).f0.f0), .int .i64 ((rd_T30 l0_0 x8_1).f0.f1), .int .i64 ((rd_T30 l0_0 x8_1).f1)]] ?_
   with_reducible refine (impl_isRoute.calls ((rd_T30 l0_0 x8_1).f0.f0) ((rd_T30 l0_0 x8_1).f0.f1) ((rd_T30 l0_0 x8_1).f1) true _ A7.out).mono ?_
   rintro e w27 ⟨rfl, hb⟩
   refine ⟨_, rfl, ?_⟩
   replace BK395 := ab_ BK395 hb
   replace BK397 := ab_ BK397 hb
   replace HB := at_ HB hb
   (try clear hb)
   (try clear hb2)
   (try clear hk)
   (try clear hi)
   refine hK.out _ _ ⟨(blk_cell BK397.out 0).trans rfl, (blk_cell BK397.out 1).trans rfl, (blk_cell BK397.out 2).trans rfl, (blk_cell BK395.out 0).trans rfl, (hc_ HB hw399_0), (hc_ HB hw399_1), (hc_ HB hw399_2)⟩ (fun hHeld => ?_)
   clear hK K
   refine nz_ 14 ?_
   refine pz_ 2 15 ba12_3 HT_ ?_
   refine pz_ 3 16 ba12_4 HT_ ?_
   refine pz_ 4 17 ba12_5 HT_ ?_
   refine pz_ 5 18 ba12_6 HT_ ?_
   refine pz_ 6 19 ba12_7 HT_ ?_
   refine pz_ 7 20 ba12_8 HT_ ?_
   refine pz_ 9 22 ba12_9 HT_ ?_
   refine pz_ 10 23 ba12_10 HT_ ?_
   refine pz_ 14 27 ba12_11 HT_ ?_
   refine pt_ 8 21 ba12_12 HT_ HW_ hHeld ?_
   refine pz_ 11 24 ba12_13 HT_ ?_
   refine pz_ 12 25 ba12_14 HT_ ?_
   refine pt_ 13 26 ba12_15 HT_ HW_ hHeld ?_
   refine pt_ 15 28 ba12_16 HT_ HW_ hHeld ?_
   refine one_ (i := 16) (N := some 29) ba12_17 rfl rfl (one_of HT_.out (by kernel_rfl)) (by decide) (fun K hK => ?_)
   refine goes_ Try.func77 (by kernel_rfl) rfl #[.agg #[.int .i64 ((rd_T30 l0_0 (ji10)).f0.f0), .int .i64 ((rd_T30 l0_0 (ji10)).f0.f1)], .agg #[.int .i64 ((rd_T30 l0_0 x8_1).f0.f0), .int .i64 ((rd_T30 l0_0 x8_1).f0.f1)]] (by rfl) rfl rfl (by (try simp only [List.map_toArray, List.map_cons, List.map_nil]); first | done | (simp only [hji10]; rfl) | rfl | (simp only [List.length_drop, List.length_take]; rfl)) ?_
   with_reducible refine (impl_comparePrefixes.calls ((rd_T30 l0_0 (ji10)).f0.f0) ((rd_T30 l0_0 (ji10)).f0.f1) ((rd_T30 l0_0 x8_1).f0.f0) ((rd_T30 l0_0 x8_1).f0.f1) t400 _ A13.out).mono ?_
   rintro e w28 ⟨rfl, hb⟩
   refine ⟨_, rfl, ?_⟩
   replace BK395 := ab_ BK395 hb
   replace BK397 := ab_ BK397 hb
   replace HB := at_ HB hb
   (try clear hb)
   (try clear hb2)
   (try clear hk)
   (try clear hi)
   refine hK.out _ _ ⟨(blk_cell BK397.out 0).trans rfl, (blk_cell BK397.out 1).trans rfl, (blk_cell BK397.out 2).trans rfl, (blk_cell BK395.out 0).trans rfl, (hc_ HB hw399_0), (hc_ HB hw399_1), (hc_ HB hw399_2)⟩ (fun hHeld => ?_)
   clear hK K
   refine nz_ 29 ?_
   refine pz_ 17 30 ba12_18 HT_ ?_
   refine pz_ 18 31 ba12_19 HT_ ?_
   refine pz_ 19 32 ba12_20 HT_ ?_
   refine done_ (done_of HT_.out (by kernel_rfl)) ?_
   try go_wp2
   go_roundg k1
   case measure => have := HK1.out; omega
   case rel => exact ⟨(wrap64 (x8_1 + 1)), er_, H', ⟨by have := HK1.out; omega⟩, ⟨bx_ BK395⟩, ⟨bw112_⟩⟩

end Go.Proofs.Ytjepmdngbafonaa.QFnRoutes
