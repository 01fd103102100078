/- Contracts of functions that the law reaches: what each call returns and what it leaves in memory. Made by this session over the print of the kit. -/
import Derived.Test.YtjepmdngbafonaaQFnSqueezedx0
import Derived.Test.YtjepmdngbafonaaQFnSqueezedx3
import Derived.Test.YtjepmdngbafonaaQFnSqueezedx6
import Derived.Test.YtjepmdngbafonaaQFnSqueezedx13
namespace Go.Proofs.Ytjepmdngbafonaa.QFnSqueezed
open Go.RowKit Go.Proofs.YtjepmdngbafonaaZ.PrintWords Go.Proofs.YtjepmdngbafonaaZ.PrintLast Go.Proofs.YtjepmdngbafonaaZ.PrintMore
attribute [local go_sem] max2_int min2_int max_two min_two max_three min_three max_four min_four   -- for this text's walks alone
set_option linter.unusedVariables false
set_option linter.unusedSimpArgs false
def ba14_0 := bs_ 11 0
def ba14_1 := bs_ 11 1
def ba14_2 := bs_ 11 3
def ba14_3 := bs_ 11 11
def ba14_4 := bs_ 11 15
def ba14_5 := bs_ 11 31
def ba14_6 := bs_ 11 63
def ba14_7 := bs_ 11 127
def ba14_8 := bs_ 11 255
def ba14_9 := bs_ 11 511
def ba14_10 := bs_ 11 1023
def ba14_11 := bs_ 11 2047

/-! ### spec_l01Size: function 61 -/
def spec_l01Size.f (l0 : List Int) (a1 : Int) : Option (Int) := if (wrap64 (2 + (wrap64 ((l0.length : Int) / 16)))) > a1 then (some a1) else (some (wrap64 (2 + (wrap64 ((l0.length : Int) / 16)))))
set_option maxHeartbeats 8000000 in
set_option maxRecDepth 100000 in
theorem spec_l01Size.calls (A0 : Option Addr) (c0 : Nat) (l0 : List Int) (a1 : Int) (r : Int) (w : World) (hr0 : Kd.C (Kd.int .u8) w A0 l0.length l0) (hc0 : l0.length ≤ c0) (h : spec_l01Size.f l0 a1 = some r) :
  Calls Try.prog 61 #[.slice A0 l0.length c0, .int .i64 a1] w fun e w' => e = .returned (.int .i64 r) ∧ Drawn0 w w' := by
 have HR0 := Aside0.mk hr0
 have HC0 := Aside0.mk hc0
 clear hr0 hc0
 have H : (if (wrap64 (2 + (wrap64 ((l0.length : Int) / 16)))) > a1 then (some a1) else (some (wrap64 (2 + (wrap64 ((l0.length : Int) / 16)))))) = some r := h
 clear h
 by_cases c3 : (wrap64 (2 + (wrap64 ((l0.length : Int) / 16)))) > a1
 ·rw [if_pos c3] at H
  have c3b0 : decide (a1 < (wrap64 (2 + (wrap64 ((l0.length : Int) / 16))))) = true := decide_eq_true c3
  clear c3
  obtain rfl := Option.some.inj H
  go_enter Try.func61, Try.ntmps61
  go_wp2
  go_ret
  exact ⟨by first | rfl | (simp; done) | (simp [*]; done), by repeat (first | exact Drawn0.refl _ | apply Drawn0.step)⟩
 rw [if_neg c3] at H
 have c3b0 : decide (a1 < (wrap64 (2 + (wrap64 ((l0.length : Int) / 16))))) = false := decide_eq_false c3
 clear c3
 obtain rfl := Option.some.inj H
 go_enter Try.func61, Try.ntmps61
 go_wp2
 go_ret
 exact ⟨by first | rfl | (simp; done) | (simp [*]; done), by repeat (first | exact Drawn0.refl _ | apply Drawn0.step)⟩

/-! ### spec_DrawSqueeze: function 18 -/
def spec_DrawSqueeze.f (k : Nat) (l0 : List Int) : Option ((List (S30))) := (spec_l01New.f k l0).bind fun bt373 => ((spec_l01Size.f l0 10).bind fun t377 => ((spec_l01Below.f bt373.1 bt373.2.1 bt373.2.2 t377).bind fun bt378 => ((spec_l02DrawTable.f k bt373.1 bt378.2.1 bt378.2.2 bt378.1).bind fun bt381 => (some bt381.1))))
set_option maxHeartbeats 8000000 in
set_option maxRecDepth 100000 in
theorem spec_DrawSqueeze.calls (k : Nat) (A0 : Option Addr) (c0 : Nat) (l0 : List Int) (r : List (S30)) (w : World) (hr0 : Kd.C (Kd.int .u8) w A0 l0.length l0) (hc0 : l0.length ≤ c0) (h : spec_DrawSqueeze.f k l0 = some r) :
  Calls Try.prog 18 #[.slice A0 l0.length c0] w fun e w' => ∃ v0_ : Value, e = .returned (.agg #[v0_]) ∧ Kd.R k30 30 w' w.heap.size (fun _ => True) v0_ r ∧ Below w.heap.size w w' := by
 have hu26 := Try.underlying26
 have HR0 := Aside0.mk hr0
 have HC0 := Aside0.mk hc0
 clear hr0 hc0
 have HB := Aside0.mk (Below.refl w.heap.size w)
 have H : ((spec_l01New.f k l0).bind fun bt373 => ((spec_l01Size.f l0 10).bind fun t377 => ((spec_l01Below.f bt373.1 bt373.2.1 bt373.2.2 t377).bind fun bt378 => ((spec_l02DrawTable.f k bt373.1 bt378.2.1 bt378.2.2 bt378.1).bind fun bt381 => (some bt381.1))))) = some r := h
 clear h
 obtain ⟨⟨t373, t374, t375⟩, A2, H⟩ := ob_ H
 obtain ⟨t377, A3, H⟩ := ob_ H
 obtain ⟨⟨t378, t379, t380⟩, A4, H⟩ := ob_ H
 obtain ⟨⟨t381, t384, t385⟩, A5, H⟩ := ob_ H
 obtain rfl := Option.some.inj H
 go_enter Try.func18, Try.ntmps18
 go_wp2_with (first | ((with_reducible refine gate_dst (N := 2) rfl ?_); refine be_ 2 #[.slice none 0 0] 26 ?_; intro gb372 hg w6 BK372 hb; have GW372 := ge_ HB hg; have GE372 := ge_ HB hg; replace HB := at_ HB hb; clear hb hg) | ((with_reducible refine gate_callee (f := 59) rfl ?_); refine gl_ (some 5) Try.func59 #[.slice A0 l0.length c0] ?_; (with_reducible refine (spec_l01New.calls k _ _ l0 t373 t374 t375 w _ ?side1 ?side2 ?side3 A2.out).mono ?_); (case side1 => exact by_ HB); (case side2 => exact HR0.out); (case side3 => exact HC0.out); rintro e w7 ⟨g376, rfl, hi, hb, hb2⟩; refine ⟨_, rfl, ?_⟩; have HI376 := Aside0.mk hi; have NB376_372 := Aside0.mk (IsS112.ne_blk hi (blk_below (g := gb372) (o := .cells #[.slice none 0 0] 26 (0, 0)) (bx_ BK372) hb2) (by decide)); have NB372_376 := Aside0.mk (Ne.symm (IsS112.ne_blk hi (blk_below (g := gb372) (o := .cells #[.slice none 0 0] 26 (0, 0)) (bx_ BK372) hb2) (by decide))); replace HB := Aside0.mk (hb); replace BK372 := Aside0.mk (blk_below (g := gb372) (o := .cells #[.slice none 0 0] 26 (0, 0)) (bx_ BK372) hb2); clear hb hb2 hi) | ((with_reducible refine gate_callee (f := 61) rfl ?_); refine gl_ (some 9) Try.func61 #[.slice A0 l0.length c0, .int .i64 10] ?_; (with_reducible refine (spec_l01Size.calls _ _ l0 10 t377 _ ?side1 ?side2 A3.out).mono ?_); (case side1 => exact cb_ HR0 HB); (case side2 => exact HC0.out); rintro e w' ⟨rfl, ⟨nd, rfl⟩⟩; refine ⟨_, rfl, ?_⟩; (try (rw [drewN_self w7]; generalize hq_ : World.drewN w7 _ = w7; replace BK372 : Aside0 (w7.heap[gb372]? = some (.cells #[.slice none 0 0] 26 (0, 0))) := ⟨by rw [← hq_]; exact (bx_ BK372)⟩; replace HB : Aside0 (Below w.heap.size w w7) := ⟨by rw [← hq_]; exact (bw112_)⟩; replace HI376 : Aside0 (IsS112 w w7 g376 t373 t374 t375) := ⟨by rw [← hq_]; exact (is112_)⟩; clear hq_))) | ((with_reducible refine gate_callee (f := 44) rfl ?_); refine gl_ (some 10) Try.func44 #[.pointer (some ⟨g376, 0, none⟩), .int .i64 t377] ?_; (with_reducible refine (spec_l01Below.calls g376 t373 t374 t375 t377 t378 t379 t380 w _ ?side1 ?side2 A4.out).mono ?_); (case side1 => exact is112_); (case side2 => exact bw112_); rintro e w8 ⟨rfl, hi, hb, hk⟩; refine ⟨_, rfl, ?_⟩; replace BK372 := kb_ BK372 NB372_376 hk; replace HB := Aside0.mk (hb); replace HI376 := Aside0.mk (hi); clear hb hk hi) | ((with_reducible refine gate_callee (f := 60) rfl ?_); refine gl_ (some 11) Try.func60 #[.pointer (some ⟨g376, 0, none⟩), .int .i64 t378] ?_; (with_reducible refine (spec_l02DrawTable.calls k g376 t373 t379 t380 t378 t381 t384 t385 w _ ?side1 ?side2 A5.out).mono ?_); (case side1 => exact is112_); (case side2 => exact bw112_); rintro e w9 ⟨v382, rfl, ho0, hi, hb, hk⟩; refine ⟨_, rfl, ?_⟩; have HO383 := Aside0.mk (Kd.R_lower ho0 (below_size (bw112_))); replace BK372 := kb_ BK372 NB372_376 hk; replace HB := Aside0.mk (hb); replace HI376 := Aside0.mk (hi); clear hb hk hi ho0; obtain ⟨Ao10, co10, eo10⟩ := Kd.R_slice HO383.out; subst eo10; have hnb11 := NB372_376.out; have hnc11 := NB376_372.out; have hcz12_0 := cz_ BK372 0 (.slice none 0 0); have hfz12_0 := fz_ BK372 0))
 refine bodyPost_ret (results_cell_row rfl _ _ gb372 26 #[.slice Ao10 t381.length co10] (0, 0) _ rfl (by refine bd_ ?_; refine blk_put (cs := #[.slice none 0 0]) ?_ 0 _ rfl; refine bd_ ?_; exact BK372.out) Try.underlying26 rfl (by kernel_rfl)) rfl ?_
 exact ⟨_, by first | rfl | (simp [errW_none, errW_some] <;> rfl) | (simp [*, errW_none, errW_some] <;> rfl), by (with_reducible repeat (first | apply Kd.R_alloc | apply Kd.R_drewN | apply Kd.R_drew)); exact Kd.R_mono (Kd.R_far (Kd.R_types HO383.out BK372.out (by decide)) (fun _ hk => hk.2) _) (fun _ hk => trivial), bw112_⟩

/-! ### impl_Prefix_has: function 105 -/
def impl_Prefix_has.f (a0_0 : Int) (a0_1 : Int) (a1 : Int) : Option (Bool) := (impl_Prefix_size.f a0_0 a0_1).bind fun t387 => ((impl_within.f a1 a0_0 (wrap64 ((wrap64 (a0_0 + t387)) - 1))).bind fun t388 => (some t388))
def impl_Prefix_has.T1 : Bool × List (List Nat × List Nat) := (true, [([], []), ([], []), ([1], [1]), ([], []), ([3], [3]), ([], []), ([5], [5]), ([4, 6], [4, 6]), ([7], [7]), ([0, 2, 8, 6], [0, 2, 8]), ([9, 9, 0, 1, 2, 3, 4, 5, 6, 7, 8, 9], [9])])
def impl_Prefix_has.B1 : List Nat := [0, 0, 2, 0, 8, 0, 32, 120, 248, 511, 1023]
theorem impl_Prefix_has.tab1 : rtab .any (opsOf Try.f105 1) = impl_Prefix_has.T1 := by kernel_rfl
theorem impl_Prefix_has.bits1 : waitsOk impl_Prefix_has.T1.2 impl_Prefix_has.B1 = true := by kernel_rfl
set_option maxHeartbeats 8000000 in
set_option maxRecDepth 100000 in
theorem impl_Prefix_has.calls (a0_0 : Int) (a0_1 : Int) (a1 : Int) (r : Bool) (w : World) (h : impl_Prefix_has.f a0_0 a0_1 a1 = some r) :
  Calls Try.prog 105 #[.agg #[.int .i64 a0_0, .int .i64 a0_1], .int .i64 a1] w fun e w' => e = .returned (.bool r) ∧ Below w.heap.size w w' := by
 have hu28 := Try.underlying28
 have HB := Aside0.mk (Below.refl w.heap.size w)
 have H : ((impl_Prefix_size.f a0_0 a0_1).bind fun t387 => ((impl_within.f a1 a0_0 (wrap64 ((wrap64 (a0_0 + t387)) - 1))).bind fun t388 => (some t388))) = some r := h
 clear h
 obtain ⟨t387, A3, H⟩ := ob_ H
 obtain ⟨t388, A4, H⟩ := ob_ H
 obtain rfl := Option.some.inj H
 go_enter Try.func105, Try.ntmps105
 try go_wp2_with ((with_reducible refine gate_dst (N := 2) rfl ?_); refine be_ 2 #[.int .i64 a0_0, .int .i64 a0_1] 28 ?_; intro gb386 hg w5 BK386 hb; have GW386 := ge_ HB hg; have GE386 := ge_ HB hg; replace HB := at_ HB hb; clear hb hg)
 replace BK386 := ad_ BK386
 replace HB := Aside0.mk (below_drew1 HB.out)
 refine start_ (n := 11) (S := fun w' => w'.cell? ⟨gb386, 0, none⟩ = some (.int .i64 a0_0) ∧ w'.cell? ⟨gb386, 1, none⟩ = some (.int .i64 a0_1)) (ds := []) ba14_0 (by kernel_rfl) rfl rfl ⟨bq5_ BK386 0, bq5_ BK386 1⟩ (fun hHeld => ?_); refine with_tabW impl_Prefix_has.tab1 impl_Prefix_has.bits1 (fun HT_ HW_ => ?_)
 generalize w5.drew = w6 at BK386 HB hHeld ⊢
 refine pz_ 0 5 ba14_1 HT_ ?_
 refine pz_ 1 6 ba14_2 HT_ ?_
 refine pz_ 3 8 ba14_3 HT_ ?_
 refine pt_ 2 7 ba14_4 HT_ HW_ hHeld ?_
 refine pt_ 4 9 ba14_5 HT_ HW_ hHeld ?_
 refine pt_ 5 10 ba14_6 HT_ HW_ hHeld ?_
 refine on_ 6 (some 11) ba14_7 HT_ (fun K hK => ?_)
 refine gz_ Try.func69 #[.agg #[.int .i64 a0_0, .int .i64 a0_1]] ?_
 with_reducible refine (impl_Prefix_size.calls a0_0 a0_1 t387 _ A3.out).mono ?_
 rintro e w7 ⟨rfl, hb⟩
 refine ⟨_, rfl, ?_⟩
 replace BK386 := ab_ BK386 hb
 replace HB := at_ HB hb
 clear hb
 refine hK.out _ _ ⟨bq5_ BK386 0, bq5_ BK386 1⟩ (fun hHeld => ?_)
 clear hK K
 refine nz_ 11 ?_
 refine pz_ 7 12 ba14_8 HT_ ?_
 refine pz_ 8 13 ba14_9 HT_ ?_
 refine on_ 9 (some 14) ba14_10 HT_ (fun K hK => ?_)
 refine gz_ Try.func88 #[.int .i64 a1, .int .i64 a0_0, .int .i64 (wrap64 ((wrap64 (a0_0 + t387)) - 1))] ?_
 with_reducible refine (impl_within.calls a1 a0_0 (wrap64 ((wrap64 (a0_0 + t387)) - 1)) t388 _ A4.out).mono ?_
 rintro e w' ⟨rfl, ⟨nd, rfl⟩⟩
 refine ⟨_, rfl, ?_⟩
 refine hK.out _ _ ⟨bq5_ BK386 0, bq5_ BK386 1⟩ (fun hHeld => ?_)
 clear hK K
 refine nz_ 14 ?_
 refine pz_ 10 4 ba14_11 HT_ ?_
 refine done_ (done_of HT_.out (by kernel_rfl)) ?_
 go_wp2
 go_ret
 exact ⟨by first | rfl | (simp [errW_none, errW_some] <;> rfl) | (simp [*, errW_none, errW_some] <;> rfl), bw112_⟩

/-! ### impl_best: function 94 -/
def impl_best.l0 : Nat → Int → Bool → List (S30) → Int → Int → Int → Int → Int → Option (Int × Int × Int × Bool)
 | 0, _, _, _, _, _, _, _, _ => none
 | k + 1, x1, x7, x11, x12, x13, x391000, x391001, x391002 => if x13 < x12 then (if 0 ≤ x13 then (if x13 < (x11.length : Int) then ((impl_Prefix_has.f ((rd_T30 x11 x13).f0.f0) ((rd_T30 x11 x13).f0.f1) x1).bind fun t393 => (if t393 = true then (if x7 = true then (if ((rd_T30 x11 x13).f0.f1) > x391001 then (impl_best.l0 k x1 true x11 x12 (wrap64 (x13 + 1)) ((rd_T30 x11 x13).f0.f0) ((rd_T30 x11 x13).f0.f1) ((rd_T30 x11 x13).f1)) else (impl_best.l0 k x1 x7 x11 x12 (wrap64 (x13 + 1)) x391000 x391001 x391002)) else (impl_best.l0 k x1 true x11 x12 (wrap64 (x13 + 1)) ((rd_T30 x11 x13).f0.f0) ((rd_T30 x11 x13).f0.f1) ((rd_T30 x11 x13).f1))) else (impl_best.l0 k x1 x7 x11 x12 (wrap64 (x13 + 1)) x391000 x391001 x391002))) else (none)) else (none)) else (some (x391000, x391001, x391002, x7))
def impl_best.f (k : Nat) (l0 : List (S30)) (a1 : Int) : Option (Int × Int × Int × Bool) := impl_best.l0 k a1 false l0 (l0.length : Int) 0 0 0 0
set_option maxHeartbeats 8000000 in
set_option maxRecDepth 100000 in
theorem impl_best.calls (k : Nat) (A0 : Option Addr) (c0 : Nat) (l0 : List (S30)) (a1 : Int) (r1 : Int) (r2 : Int) (r3 : Int) (r4 : Bool) (w : World) (hr0 : Kd.C k30 w A0 l0.length l0) (hc0 : l0.length ≤ c0) (h : impl_best.f k l0 a1 = some (r1, r2, r3, r4)) :
  Calls Try.prog 94 #[.slice A0 l0.length c0, .int .i64 a1] w fun e w' => e = .returned (.tuple #[.agg #[.int .i64 r1, .int .i64 r2, .int .i64 r3], .bool r4]) ∧ Below w.heap.size w w' := by
 have hu30 := Try.underlying30
 have hu28 := Try.underlying28
 have HR0 := Aside0.mk hr0
 have HC0 := Aside0.mk hc0
 clear hr0 hc0
 have HB := Aside0.mk (Below.refl w.heap.size w)
 have H : (impl_best.l0 k a1 false l0 (l0.length : Int) 0 0 0 0) = some (r1, r2, r3, r4) := h
 clear h
 have H' := Aside0.mk H
 clear H
 go_enter Try.func94, Try.ntmps94
 go_wp2_with (first | ((with_reducible refine gate_dst (N := 4) rfl ?_); refine be_ 4 #[.int .i64 0, .int .i64 0, .int .i64 0] 30 ?_; intro gb389 hg w3 BK389 hb; have GW389 := ge_ HB hg; have GE389 := ge_ HB hg; replace HB := at_ HB hb; clear hb hg) | ((with_reducible refine gate_dst (N := 6) rfl ?_); refine be_ 6 #[.int .i64 0, .int .i64 0, .int .i64 0] 30 ?_; intro gb390 hg w4 BK390 hb; have GW390 := ge_ HB hg; have GE390 := ge_ HB hg; have NB389_390 := nl_ BK389 hg; have NB390_389 := ng_ BK389 hg; replace HB := at_ HB hb; replace BK389 := ab_ BK389 hb; clear hb hg; have hnb5 := NB390_389.out; have hnc5 := NB389_390.out; have hcz6_0 := cz_ BK390 0 (.int .i64 0); have hcz6_1 := cz_ BK390 1 (.int .i64 0); have hcz6_2 := cz_ BK390 2 (.int .i64 0); have hfz6_0 := fz_ BK390 0; have hfz6_1 := fz_ BK390 1; have hfz6_2 := fz_ BK390 2))
 go_loopg [7, 13] k (fun kq v7 v13 w' => ∃ (x7_1 : Bool) (x13_1 : Int) (x391000_1 : Int) (x391001_1 : Int) (x391002_1 : Int), v7 = .bool x7_1 ∧ v13 = .int .i64 x13_1 ∧ Aside0 (impl_best.l0 kq a1 x7_1 l0 (l0.length : Int) x13_1 x391000_1 x391001_1 x391002_1 = some (r1, r2, r3, r4)) ∧ Aside0 (kq ≤ k) ∧ Aside0 (w'.heap[gb389]? = some (.cells #[.int .i64 0, .int .i64 0, .int .i64 0] 30 (0, 0))) ∧ Aside0 (w'.heap[gb390]? = some (.cells #[.int .i64 x391000_1, .int .i64 x391001_1, .int .i64 x391002_1] 30 (0, 0))) ∧ Aside0 (Below w.heap.size w w'))
 case atStart => exact ⟨(false), (0), (0), (0), (0), er_, er_, H', ⟨Nat.le_refl _⟩, ⟨bc_ BK389⟩, ⟨by refine bd_ ?_; refine blk_put (cs := #[.int .i64 0, .int .i64 0, .int .i64 0]) ?_ 2 _ rfl; refine bd_ ?_; refine blk_put (cs := #[.int .i64 0, .int .i64 0, .int .i64 0]) ?_ 1 _ rfl; refine bd_ ?_; refine blk_put (cs := #[.int .i64 0, .int .i64 0, .int .i64 0]) ?_ 0 _ rfl; refine bd_ ?_; exact BK390.out⟩, ⟨bw112_⟩⟩
 case round =>
  clear H' hcz6_0 hcz6_1 hcz6_2 hfz6_0 hfz6_1 hfz6_2
  obtain ⟨x7_1, x13_1, x391000_1, x391001_1, x391002_1, rfl, rfl, HA, HK1, BK389, BK390, HB⟩ := hrel
  cases gk with
  | zero => exact absurd HA.out (by simp [impl_best.l0])
  | succ k1 =>
   have H := HA.out
   clear HA
   simp only [impl_best.l0] at H
   by_cases c7 : x13_1 < (l0.length : Int)
   rotate_left
   ·rw [if_neg c7] at H
    have c7b0 : decide (x13_1 < (l0.length : Int)) = false := decide_eq_false c7
    clear c7
    simp only [Option.some.injEq, Prod.mk.injEq] at H
    obtain ⟨rfl, rfl, rfl, rfl⟩ := H
    have hnb43 := NB390_389.out
    have hnc43 := NB389_390.out
    have hcz44_0 := cz_ BK390 0 (.int .i64 x391000_1)
    have hcz44_1 := cz_ BK390 1 (.int .i64 x391001_1)
    have hcz44_2 := cz_ BK390 2 (.int .i64 x391002_1)
    have hfz44_0 := fz_ BK390 0
    have hfz44_1 := fz_ BK390 1
    have hfz44_2 := fz_ BK390 2
    have hcz45_0 := cz_ BK389 0 (.int .i64 0)
    have hcz45_1 := cz_ BK389 1 (.int .i64 0)
    have hcz45_2 := cz_ BK389 2 (.int .i64 0)
    have hfz45_0 := fz_ BK389 0
    have hfz45_1 := fz_ BK389 1
    have hfz45_2 := fz_ BK389 2
    go_wp2
    refine bodyPost_ret (results_ct rfl _ _ gb389 30 #[.int .i64 x391000_1, .int .i64 x391001_1, .int .i64 x391002_1] (0, 0) _ rfl (by refine bd_ ?_; refine blk_put (cs := #[.int .i64 x391000_1, .int .i64 x391001_1, .int .i64 0]) ?_ 2 _ rfl; refine bd_ ?_; refine blk_put (cs := #[.int .i64 x391000_1, .int .i64 0, .int .i64 0]) ?_ 1 _ rfl; refine bd_ ?_; refine blk_put (cs := #[.int .i64 0, .int .i64 0, .int .i64 0]) ?_ 0 _ rfl; refine bd_ ?_; exact BK389.out) Try.underlying30 rfl (by kernel_rfl)) rfl ?_
    exact ⟨by first | rfl | (simp [errW_none, errW_some] <;> rfl) | (simp [*, errW_none, errW_some] <;> rfl), bw112_⟩
   rw [if_pos c7] at H
   have c7b0 : decide (x13_1 < (l0.length : Int)) = true := decide_eq_true c7
   clear c7
   obtain ⟨c8b0, H⟩ := iq_ H
   obtain ⟨c9b0, H⟩ := iq_ H
   obtain ⟨t393, A10, H⟩ := ob_ H
   by_cases c11 : t393 = true
   rotate_left
   ·replace c11 := Bool.eq_false_iff.mpr c11
    subst c11
    rw [if_neg (show ¬ (false = true) by decide)] at H
    have H' := Aside0.mk H
    clear H
    have p391 : 0 ≤ (x13_1 : Int) := oa_
    have q391 : x13_1 < (l0.length : Int) := oa_
    obtain ⟨ad391, e391, hx391_0, hx391_1, hx391_2⟩ := at_T30 HR0.out x13_1 p391 q391
    cases e391
    replace hx391_0 := hc5_ HB hx391_0
    replace hx391_1 := hc5_ HB hx391_1
    replace hx391_2 := hc5_ HB hx391_2
    obtain ⟨p391, q391⟩ := et_ p391 q391
    go_wp2_with (first | ((with_reducible refine gate_dst (N := 9) rfl ?_); refine be_ 9 #[.int .i64 0, .int .i64 0, .int .i64 0] 30 ?_; intro gb392 hg w38 BK392 hb; have GW392 := ge_ HB hg; have GE392 := ge_ HB hg; have NB389_392 := nl_ BK389 hg; have NB392_389 := ng_ BK389 hg; have NB390_392 := nl_ BK390 hg; have NB392_390 := ng_ BK390 hg; replace HB := at_ HB hb; replace BK389 := ab_ BK389 hb; replace BK390 := ab_ BK390 hb; clear hb hg; have hnb39 := NB392_389.out; have hnc39 := NB389_392.out; have hnb40 := NB392_390.out; have hnc40 := NB390_392.out; have hcz41_0 := cz_ BK392 0 (.int .i64 0); have hcz41_1 := cz_ BK392 1 (.int .i64 0); have hcz41_2 := cz_ BK392 2 (.int .i64 0); have hfz41_0 := fz_ BK392 0; have hfz41_1 := fz_ BK392 1; have hfz41_2 := fz_ BK392 2) | ((with_reducible refine gate_callee (f := 105) rfl ?_); refine gl_ (some 20) Try.func105 #[.agg #[.int .i64 ((rd_T30 l0 x13_1).f0.f0), .int .i64 ((rd_T30 l0 x13_1).f0.f1)], .int .i64 a1] ?_; (with_reducible refine (impl_Prefix_has.calls ((rd_T30 l0 x13_1).f0.f0) ((rd_T30 l0 x13_1).f0.f1) a1 false _ A10.out).mono ?_); rintro e w42 ⟨rfl, hb⟩; refine ⟨_, rfl, ?_⟩; replace BK389 := bf_ BK389 NB389_392 hb; replace BK390 := bf_ BK390 NB390_392 hb; replace BK392 := Aside0.mk (blk_below (g := gb392) (o := .cells #[.int .i64 ((rd_T30 l0 x13_1).f0.f0), .int .i64 ((rd_T30 l0 x13_1).f0.f1), .int .i64 ((rd_T30 l0 x13_1).f1)] 30 (0, 0)) (by refine bd_ ?_; refine blk_put (cs := #[.int .i64 ((rd_T30 l0 x13_1).f0.f0), .int .i64 ((rd_T30 l0 x13_1).f0.f1), .int .i64 0]) ?_ 2 _ rfl; refine bd_ ?_; refine blk_put (cs := #[.int .i64 ((rd_T30 l0 x13_1).f0.f0), .int .i64 0, .int .i64 0]) ?_ 1 _ rfl; refine bd_ ?_; refine blk_put (cs := #[.int .i64 0, .int .i64 0, .int .i64 0]) ?_ 0 _ rfl; refine bd_ ?_; exact BK392.out) hb); replace HB := at_ HB hb; clear hb))
    go_roundg k1
    case measure => have := HK1.out; omega
    case rel => exact ⟨(x7_1), (wrap64 (x13_1 + 1)), (x391000_1), (x391001_1), (x391002_1), er_, er_, H', ⟨by have := HK1.out; omega⟩, ⟨bx_ BK389⟩, ⟨bx_ BK390⟩, ⟨bw112_⟩⟩
   subst c11
   rw [if_pos rfl] at H
   by_cases c12 : x7_1 = true
   rotate_left
   ·replace c12 := Bool.eq_false_iff.mpr c12
    subst c12
    rw [if_neg (show ¬ (false = true) by decide)] at H
    have H' := Aside0.mk H
    clear H
    have p391 : 0 ≤ (x13_1 : Int) := oa_
    have q391 : x13_1 < (l0.length : Int) := oa_
    obtain ⟨ad391, e391, hx391_0, hx391_1, hx391_2⟩ := at_T30 HR0.out x13_1 p391 q391
    cases e391
    replace hx391_0 := hc5_ HB hx391_0
    replace hx391_1 := hc5_ HB hx391_1
    replace hx391_2 := hc5_ HB hx391_2
    obtain ⟨p391, q391⟩ := et_ p391 q391
    go_wp2_with (first | ((with_reducible refine gate_dst (N := 9) rfl ?_); refine be_ 9 #[.int .i64 0, .int .i64 0, .int .i64 0] 30 ?_; intro gb392 hg w30 BK392 hb; have GW392 := ge_ HB hg; have GE392 := ge_ HB hg; have NB389_392 := nl_ BK389 hg; have NB392_389 := ng_ BK389 hg; have NB390_392 := nl_ BK390 hg; have NB392_390 := ng_ BK390 hg; replace HB := at_ HB hb; replace BK389 := ab_ BK389 hb; replace BK390 := ab_ BK390 hb; clear hb hg; have hnb31 := NB392_389.out; have hnc31 := NB389_392.out; have hnb32 := NB392_390.out; have hnc32 := NB390_392.out; have hcz33_0 := cz_ BK392 0 (.int .i64 0); have hcz33_1 := cz_ BK392 1 (.int .i64 0); have hcz33_2 := cz_ BK392 2 (.int .i64 0); have hfz33_0 := fz_ BK392 0; have hfz33_1 := fz_ BK392 1; have hfz33_2 := fz_ BK392 2) | ((with_reducible refine gate_callee (f := 105) rfl ?_); refine gl_ (some 20) Try.func105 #[.agg #[.int .i64 ((rd_T30 l0 x13_1).f0.f0), .int .i64 ((rd_T30 l0 x13_1).f0.f1)], .int .i64 a1] ?_; (with_reducible refine (impl_Prefix_has.calls ((rd_T30 l0 x13_1).f0.f0) ((rd_T30 l0 x13_1).f0.f1) a1 true _ A10.out).mono ?_); rintro e w34 ⟨rfl, hb⟩; refine ⟨_, rfl, ?_⟩; replace BK389 := bf_ BK389 NB389_392 hb; replace BK390 := bf_ BK390 NB390_392 hb; replace BK392 := Aside0.mk (blk_below (g := gb392) (o := .cells #[.int .i64 ((rd_T30 l0 x13_1).f0.f0), .int .i64 ((rd_T30 l0 x13_1).f0.f1), .int .i64 ((rd_T30 l0 x13_1).f1)] 30 (0, 0)) (by refine bd_ ?_; refine blk_put (cs := #[.int .i64 ((rd_T30 l0 x13_1).f0.f0), .int .i64 ((rd_T30 l0 x13_1).f0.f1), .int .i64 0]) ?_ 2 _ rfl; refine bd_ ?_; refine blk_put (cs := #[.int .i64 ((rd_T30 l0 x13_1).f0.f0), .int .i64 0, .int .i64 0]) ?_ 1 _ rfl; refine bd_ ?_; refine blk_put (cs := #[.int .i64 0, .int .i64 0, .int .i64 0]) ?_ 0 _ rfl; refine bd_ ?_; exact BK392.out) hb); replace HB := at_ HB hb; clear hb; have hcz35_0 := cz_ BK392 0 (.int .i64 ((rd_T30 l0 x13_1).f0.f0)); have hcz35_1 := cz_ BK392 1 (.int .i64 ((rd_T30 l0 x13_1).f0.f1)); have hcz35_2 := cz_ BK392 2 (.int .i64 ((rd_T30 l0 x13_1).f1)); have hfz35_0 := fz_ BK392 0; have hfz35_1 := fz_ BK392 1; have hfz35_2 := fz_ BK392 2; have hnb36 := NB390_389.out; have hnc36 := NB389_390.out; have hcz37_0 := cz_ BK390 0 (.int .i64 x391000_1); have hcz37_1 := cz_ BK390 1 (.int .i64 x391001_1); have hcz37_2 := cz_ BK390 2 (.int .i64 x391002_1); have hfz37_0 := fz_ BK390 0; have hfz37_1 := fz_ BK390 1; have hfz37_2 := fz_ BK390 2))
    go_roundg k1
    case measure => have := HK1.out; omega
    case rel => exact ⟨(true), (wrap64 (x13_1 + 1)), ((rd_T30 l0 x13_1).f0.f0), ((rd_T30 l0 x13_1).f0.f1), ((rd_T30 l0 x13_1).f1), er_, er_, H', ⟨by have := HK1.out; omega⟩, ⟨bc_ BK389⟩, ⟨by refine bd_ ?_; refine blk_put (cs := #[.int .i64 ((rd_T30 l0 x13_1).f0.f0), .int .i64 ((rd_T30 l0 x13_1).f0.f1), .int .i64 x391002_1]) ?_ 2 _ rfl; refine bd_ ?_; refine blk_put (cs := #[.int .i64 ((rd_T30 l0 x13_1).f0.f0), .int .i64 x391001_1, .int .i64 x391002_1]) ?_ 1 _ rfl; refine bd_ ?_; refine blk_put (cs := #[.int .i64 x391000_1, .int .i64 x391001_1, .int .i64 x391002_1]) ?_ 0 _ rfl; refine bd_ ?_; exact BK390.out⟩, ⟨bw112_⟩⟩
   subst c12
   rw [if_pos rfl] at H
   by_cases c13 : ((rd_T30 l0 x13_1).f0.f1) > x391001_1
   ·rw [if_pos c13] at H
    have c13b0 : decide (x391001_1 < ((rd_T30 l0 x13_1).f0.f1)) = true := decide_eq_true c13
    clear c13
    have H' := Aside0.mk H
    clear H
    have p391 : 0 ≤ (x13_1 : Int) := oa_
    have q391 : x13_1 < (l0.length : Int) := oa_
    obtain ⟨ad391, e391, hx391_0, hx391_1, hx391_2⟩ := at_T30 HR0.out x13_1 p391 q391
    cases e391
    replace hx391_0 := hc5_ HB hx391_0
    replace hx391_1 := hc5_ HB hx391_1
    replace hx391_2 := hc5_ HB hx391_2
    obtain ⟨p391, q391⟩ := et_ p391 q391
    go_wp2_with (first | ((with_reducible refine gate_dst (N := 9) rfl ?_); refine be_ 9 #[.int .i64 0, .int .i64 0, .int .i64 0] 30 ?_; intro gb392 hg w14 BK392 hb; have GW392 := ge_ HB hg; have GE392 := ge_ HB hg; have NB389_392 := nl_ BK389 hg; have NB392_389 := ng_ BK389 hg; have NB390_392 := nl_ BK390 hg; have NB392_390 := ng_ BK390 hg; replace HB := at_ HB hb; replace BK389 := ab_ BK389 hb; replace BK390 := ab_ BK390 hb; clear hb hg; have hnb15 := NB392_389.out; have hnc15 := NB389_392.out; have hnb16 := NB392_390.out; have hnc16 := NB390_392.out; have hcz17_0 := cz_ BK392 0 (.int .i64 0); have hcz17_1 := cz_ BK392 1 (.int .i64 0); have hcz17_2 := cz_ BK392 2 (.int .i64 0); have hfz17_0 := fz_ BK392 0; have hfz17_1 := fz_ BK392 1; have hfz17_2 := fz_ BK392 2) | ((with_reducible refine gate_callee (f := 105) rfl ?_); refine gl_ (some 20) Try.func105 #[.agg #[.int .i64 ((rd_T30 l0 x13_1).f0.f0), .int .i64 ((rd_T30 l0 x13_1).f0.f1)], .int .i64 a1] ?_; (with_reducible refine (impl_Prefix_has.calls ((rd_T30 l0 x13_1).f0.f0) ((rd_T30 l0 x13_1).f0.f1) a1 true _ A10.out).mono ?_); rintro e w18 ⟨rfl, hb⟩; refine ⟨_, rfl, ?_⟩; replace BK389 := bf_ BK389 NB389_392 hb; replace BK390 := bf_ BK390 NB390_392 hb; replace BK392 := Aside0.mk (blk_below (g := gb392) (o := .cells #[.int .i64 ((rd_T30 l0 x13_1).f0.f0), .int .i64 ((rd_T30 l0 x13_1).f0.f1), .int .i64 ((rd_T30 l0 x13_1).f1)] 30 (0, 0)) (by refine bd_ ?_; refine blk_put (cs := #[.int .i64 ((rd_T30 l0 x13_1).f0.f0), .int .i64 ((rd_T30 l0 x13_1).f0.f1), .int .i64 0]) ?_ 2 _ rfl; refine bd_ ?_; refine blk_put (cs := #[.int .i64 ((rd_T30 l0 x13_1).f0.f0), .int .i64 0, .int .i64 0]) ?_ 1 _ rfl; refine bd_ ?_; refine blk_put (cs := #[.int .i64 0, .int .i64 0, .int .i64 0]) ?_ 0 _ rfl; refine bd_ ?_; exact BK392.out) hb); replace HB := at_ HB hb; clear hb; have hcz19_0 := cz_ BK392 0 (.int .i64 ((rd_T30 l0 x13_1).f0.f0)); have hcz19_1 := cz_ BK392 1 (.int .i64 ((rd_T30 l0 x13_1).f0.f1)); have hcz19_2 := cz_ BK392 2 (.int .i64 ((rd_T30 l0 x13_1).f1)); have hfz19_0 := fz_ BK392 0; have hfz19_1 := fz_ BK392 1; have hfz19_2 := fz_ BK392 2; have hnb20 := NB390_389.out; have hnc20 := NB389_390.out; have hcz21_0 := cz_ BK390 0 (.int .i64 x391000_1); have hcz21_1 := cz_ BK390 1 (.int .i64 x391001_1); have hcz21_2 := cz_ BK390 2 (.int .i64 x391002_1); have hfz21_0 := fz_ BK390 0; have hfz21_1 := fz_ BK390 1; have hfz21_2 := fz_ BK390 2))
    go_roundg k1
    case measure => have := HK1.out; omega
    case rel => exact ⟨(true), (wrap64 (x13_1 + 1)), ((rd_T30 l0 x13_1).f0.f0), ((rd_T30 l0 x13_1).f0.f1), ((rd_T30 l0 x13_1).f1), er_, er_, H', ⟨by have := HK1.out; omega⟩, ⟨bc_ BK389⟩, ⟨by refine bd_ ?_; refine blk_put (cs := #[.int .i64 ((rd_T30 l0 x13_1).f0.f0), .int .i64 ((rd_T30 l0 x13_1).f0.f1), .int .i64 x391002_1]) ?_ 2 _ rfl; refine bd_ ?_; refine blk_put (cs := #[.int .i64 ((rd_T30 l0 x13_1).f0.f0), .int .i64 x391001_1, .int .i64 x391002_1]) ?_ 1 _ rfl; refine bd_ ?_; refine blk_put (cs := #[.int .i64 x391000_1, .int .i64 x391001_1, .int .i64 x391002_1]) ?_ 0 _ rfl; refine bd_ ?_; exact BK390.out⟩, ⟨bw112_⟩⟩
   rw [if_neg c13] at H
   have c13b0 : decide (x391001_1 < ((rd_T30 l0 x13_1).f0.f1)) = false := decide_eq_false c13
   clear c13
   have H' := Aside0.mk H
   clear H
   have p391 : 0 ≤ (x13_1 : Int) := oa_
   have q391 : x13_1 < (l0.length : Int) := oa_
   obtain ⟨ad391, e391, hx391_0, hx391_1, hx391_2⟩ := at_T30 HR0.out x13_1 p391 q391
   cases e391
   replace hx391_0 := hc5_ HB hx391_0
   replace hx391_1 := hc5_ HB hx391_1
   replace hx391_2 := hc5_ HB hx391_2
   obtain ⟨p391, q391⟩ := et_ p391 q391
   go_wp2_with (first | ((with_reducible refine gate_dst (N := 9) rfl ?_); refine be_ 9 #[.int .i64 0, .int .i64 0, .int .i64 0] 30 ?_; intro gb392 hg w22 BK392 hb; have GW392 := ge_ HB hg; have GE392 := ge_ HB hg; have NB389_392 := nl_ BK389 hg; have NB392_389 := ng_ BK389 hg; have NB390_392 := nl_ BK390 hg; have NB392_390 := ng_ BK390 hg; replace HB := at_ HB hb; replace BK389 := ab_ BK389 hb; replace BK390 := ab_ BK390 hb; clear hb hg; have hnb23 := NB392_389.out; have hnc23 := NB389_392.out; have hnb24 := NB392_390.out; have hnc24 := NB390_392.out; have hcz25_0 := cz_ BK392 0 (.int .i64 0); have hcz25_1 := cz_ BK392 1 (.int .i64 0); have hcz25_2 := cz_ BK392 2 (.int .i64 0); have hfz25_0 := fz_ BK392 0; have hfz25_1 := fz_ BK392 1; have hfz25_2 := fz_ BK392 2) | ((with_reducible refine gate_callee (f := 105) rfl ?_); refine gl_ (some 20) Try.func105 #[.agg #[.int .i64 ((rd_T30 l0 x13_1).f0.f0), .int .i64 ((rd_T30 l0 x13_1).f0.f1)], .int .i64 a1] ?_; (with_reducible refine (impl_Prefix_has.calls ((rd_T30 l0 x13_1).f0.f0) ((rd_T30 l0 x13_1).f0.f1) a1 true _ A10.out).mono ?_); rintro e w26 ⟨rfl, hb⟩; refine ⟨_, rfl, ?_⟩; replace BK389 := bf_ BK389 NB389_392 hb; replace BK390 := bf_ BK390 NB390_392 hb; replace BK392 := Aside0.mk (blk_below (g := gb392) (o := .cells #[.int .i64 ((rd_T30 l0 x13_1).f0.f0), .int .i64 ((rd_T30 l0 x13_1).f0.f1), .int .i64 ((rd_T30 l0 x13_1).f1)] 30 (0, 0)) (by refine bd_ ?_; refine blk_put (cs := #[.int .i64 ((rd_T30 l0 x13_1).f0.f0), .int .i64 ((rd_T30 l0 x13_1).f0.f1), .int .i64 0]) ?_ 2 _ rfl; refine bd_ ?_; refine blk_put (cs := #[.int .i64 ((rd_T30 l0 x13_1).f0.f0), .int .i64 0, .int .i64 0]) ?_ 1 _ rfl; refine bd_ ?_; refine blk_put (cs := #[.int .i64 0, .int .i64 0, .int .i64 0]) ?_ 0 _ rfl; refine bd_ ?_; exact BK392.out) hb); replace HB := at_ HB hb; clear hb; have hcz27_0 := cz_ BK392 0 (.int .i64 ((rd_T30 l0 x13_1).f0.f0)); have hcz27_1 := cz_ BK392 1 (.int .i64 ((rd_T30 l0 x13_1).f0.f1)); have hcz27_2 := cz_ BK392 2 (.int .i64 ((rd_T30 l0 x13_1).f1)); have hfz27_0 := fz_ BK392 0; have hfz27_1 := fz_ BK392 1; have hfz27_2 := fz_ BK392 2; have hnb28 := NB390_389.out; have hnc28 := NB389_390.out; have hcz29_0 := cz_ BK390 0 (.int .i64 x391000_1); have hcz29_1 := cz_ BK390 1 (.int .i64 x391001_1); have hcz29_2 := cz_ BK390 2 (.int .i64 x391002_1); have hfz29_0 := fz_ BK390 0; have hfz29_1 := fz_ BK390 1; have hfz29_2 := fz_ BK390 2))
   go_roundg k1
   case measure => have := HK1.out; omega
   case rel => exact ⟨(true), (wrap64 (x13_1 + 1)), (x391000_1), (x391001_1), (x391002_1), er_, er_, H', ⟨by have := HK1.out; omega⟩, ⟨bx_ BK389⟩, ⟨bx_ BK390⟩, ⟨bw112_⟩⟩

/-! ### impl_Prefix_covers: function 78 -/
def impl_Prefix_covers.f (a0_0 : Int) (a0_1 : Int) (a1_0 : Int) (a1_1 : Int) : Option (Bool) := if a0_1 ≤ a1_1 then ((impl_Prefix_has.f a0_0 a0_1 a1_0).bind fun t396 => (some t396)) else (some false)
set_option maxHeartbeats 8000000 in
set_option maxRecDepth 100000 in
theorem impl_Prefix_covers.calls (a0_0 : Int) (a0_1 : Int) (a1_0 : Int) (a1_1 : Int) (r : Bool) (w : World) (h : impl_Prefix_covers.f a0_0 a0_1 a1_0 a1_1 = some r) :
  Calls Try.prog 78 #[.agg #[.int .i64 a0_0, .int .i64 a0_1], .agg #[.int .i64 a1_0, .int .i64 a1_1]] w fun e w' => e = .returned (.bool r) ∧ Below w.heap.size w w' := by
 have hu28 := Try.underlying28
 have HB := Aside0.mk (Below.refl w.heap.size w)
 have H : (if a0_1 ≤ a1_1 then ((impl_Prefix_has.f a0_0 a0_1 a1_0).bind fun t396 => (some t396)) else (some false)) = some r := h
 clear h
 by_cases c3 : a0_1 ≤ a1_1
 rotate_left
 ·rw [if_neg c3] at H
  have c3b0 : decide (a0_1 ≤ a1_1) = false := decide_eq_false c3
  clear c3
  obtain rfl := Option.some.inj H
  go_enter Try.func78, Try.ntmps78
  go_wp2_with (first | ((with_reducible refine gate_dst (N := 2) rfl ?_); refine be_ 2 #[.int .i64 a0_0, .int .i64 a0_1] 28 ?_; intro gb394 hg w11 BK394 hb; have GW394 := ge_ HB hg; have GE394 := ge_ HB hg; replace HB := at_ HB hb; clear hb hg) | ((with_reducible refine gate_dst (N := 3) rfl ?_); refine be_ 3 #[.int .i64 a1_0, .int .i64 a1_1] 28 ?_; intro gb395 hg w12 BK395 hb; have GW395 := ge_ HB hg; have GE395 := ge_ HB hg; have NB394_395 := nl_ BK394 hg; have NB395_394 := ng_ BK394 hg; replace HB := at_ HB hb; replace BK394 := ab_ BK394 hb; clear hb hg; have hnb13 := NB394_395.out; have hnc13 := NB395_394.out; have hcz14_0 := cz_ BK394 0 (.int .i64 a0_0); have hcz14_1 := cz_ BK394 1 (.int .i64 a0_1); have hfz14_0 := fz_ BK394 0; have hfz14_1 := fz_ BK394 1; have hcz15_0 := cz_ BK395 0 (.int .i64 a1_0); have hcz15_1 := cz_ BK395 1 (.int .i64 a1_1); have hfz15_0 := fz_ BK395 0; have hfz15_1 := fz_ BK395 1))
  go_ret
  exact ⟨by first | rfl | (simp [errW_none, errW_some] <;> rfl) | (simp [*, errW_none, errW_some] <;> rfl), bw112_⟩
 rw [if_pos c3] at H
 have c3b0 : decide (a0_1 ≤ a1_1) = true := decide_eq_true c3
 clear c3
 obtain ⟨t396, A4, H⟩ := ob_ H
 obtain rfl := Option.some.inj H
 go_enter Try.func78, Try.ntmps78
 go_wp2_with (first | ((with_reducible refine gate_dst (N := 2) rfl ?_); refine be_ 2 #[.int .i64 a0_0, .int .i64 a0_1] 28 ?_; intro gb394 hg w5 BK394 hb; have GW394 := ge_ HB hg; have GE394 := ge_ HB hg; replace HB := at_ HB hb; clear hb hg) | ((with_reducible refine gate_dst (N := 3) rfl ?_); refine be_ 3 #[.int .i64 a1_0, .int .i64 a1_1] 28 ?_; intro gb395 hg w6 BK395 hb; have GW395 := ge_ HB hg; have GE395 := ge_ HB hg; have NB394_395 := nl_ BK394 hg; have NB395_394 := ng_ BK394 hg; replace HB := at_ HB hb; replace BK394 := ab_ BK394 hb; clear hb hg; have hnb7 := NB394_395.out; have hnc7 := NB395_394.out; have hcz8_0 := cz_ BK394 0 (.int .i64 a0_0); have hcz8_1 := cz_ BK394 1 (.int .i64 a0_1); have hfz8_0 := fz_ BK394 0; have hfz8_1 := fz_ BK394 1; have hcz9_0 := cz_ BK395 0 (.int .i64 a1_0); have hcz9_1 := cz_ BK395 1 (.int .i64 a1_1); have hfz9_0 := fz_ BK395 0; have hfz9_1 := fz_ BK395 1) | (go_at_call 105; (with_reducible refine (impl_Prefix_has.calls a0_0 a0_1 a1_0 t396 _ A4.out).mono ?_); rintro e w10 ⟨rfl, hb⟩; replace BK394 := ab_ BK394 hb; replace BK395 := ab_ BK395 hb; replace HB := at_ HB hb; clear hb))
 go_ret
 exact ⟨by first | rfl | (simp [errW_none, errW_some] <;> rfl) | (simp [*, errW_none, errW_some] <;> rfl), bw112_⟩

end Go.Proofs.Ytjepmdngbafonaa.QFnSqueezed
