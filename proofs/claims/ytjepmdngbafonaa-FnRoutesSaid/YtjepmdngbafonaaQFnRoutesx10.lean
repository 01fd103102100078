/- Contracts of functions that the law reaches: what each call returns and what it leaves in memory. Made by this session over the print of the kit. -/
import Derived.Test.YtjepmdngbafonaaQFnRoutesx0
import Derived.Test.YtjepmdngbafonaaQFnRoutesx2
import Derived.Test.YtjepmdngbafonaaQFnRoutesx6
import Derived.Test.YtjepmdngbafonaaQFnRoutesx7
import Derived.Test.YtjepmdngbafonaaQFnRoutesx9
namespace Go.Proofs.Ytjepmdngbafonaa.QFnRoutes
open Go.RowKit Go.Proofs.YtjepmdngbafonaaR.PrintWords Go.Proofs.YtjepmdngbafonaaR.PrintLast Go.Proofs.YtjepmdngbafonaaR.PrintMore
attribute [local go_sem] max2_int min2_int max_two min_two max_three min_three max_four min_four   -- for this text's walks alone
set_option linter.unusedVariables false
set_option linter.unusedSimpArgs false
def ba10_0 : Array Bool := bs_ 11 0
def ba10_1 : Array Bool := bs_ 11 1
def ba10_2 : Array Bool := bs_ 11 5
def ba10_3 : Array Bool := bs_ 11 13
def ba10_4 : Array Bool := bs_ 11 15
def ba10_5 : Array Bool := bs_ 11 31
def ba10_6 : Array Bool := bs_ 11 63
def ba10_7 : Array Bool := bs_ 11 127
def ba10_8 : Array Bool := bs_ 11 255
def ba10_9 : Array Bool := bs_ 11 511
def ba10_10 : Array Bool := bs_ 11 1023
def ba10_11 : Array Bool := bs_ 11 2047
def ba10_12 : Array Bool := bs_ 12 0
def ba10_13 : Array Bool := bs_ 12 2
def ba10_14 : Array Bool := bs_ 12 18
def ba10_15 : Array Bool := bs_ 12 50
def ba10_16 : Array Bool := bs_ 12 51
def ba10_17 : Array Bool := bs_ 12 55
def ba10_18 : Array Bool := bs_ 12 63
def ba10_19 : Array Bool := bs_ 12 127
def ba10_20 : Array Bool := bs_ 12 255
def ba10_21 : Array Bool := bs_ 12 511
def ba10_22 : Array Bool := bs_ 12 1023
def ba10_23 : Array Bool := bs_ 12 2047
def ba10_24 : Array Bool := bs_ 12 4095

/-! ### spec_l01Size: function 61 -/
def spec_l01Size.f (l0 : List Int) (a1 : Int) : Option (Int) := if (wrap64 (2 + (wrap64 ((l0.length : Int) / 16)))) > a1 then (some a1) else (some (wrap64 (2 + (wrap64 ((l0.length : Int) / 16)))))
set_option maxHeartbeats 8000000 in
set_option maxRecDepth 100000 in
theorem spec_l01Size.calls (A0 : Option Addr) (c0 : Nat) (l0 : List Int) (a1 : Int) (r : Int) (w : World) (hr0 : Kd.C (Kd.int .u8) w A0 l0.length l0) (hc0 : l0.length ≤ c0) (h : spec_l01Size.f l0 a1 = some r) :
  Calls Try.prog 61 #[.slice A0 l0.length c0, .int .i64 a1] w fun e w' => e = .returned (.int .i64 r) ∧ Drawn0 w w' := by
 have HR0 := Aside0.mk hr0
 have HC0 := Aside0.mk hc0
 clear hr0 hc0
 have H : (if (wrap64 (2 + (wrap64 ((l0.length : Int) / 16)))) > a1 then (some a1) else (some (wrap64 (2 + (wrap64 ((l0.length : Int) / 16)))))) = some r := h
 clear h
 by_cases c3 : (wrap64 (2 + (wrap64 ((l0.length : Int) / 16)))) > a1
 ·rw [if_pos c3] at H
  have c3b0 : decide (a1 < (wrap64 (2 + (wrap64 ((l0.length : Int) / 16))))) = true := decide_eq_true c3
  clear c3
  obtain rfl := Option.some.inj H
  go_enter Try.func61, Try.ntmps61
  go_wp2
  go_ret
  exact ⟨by first | rfl | (simp; done) | (simp [*]; done), by repeat (first | exact Drawn0.refl _ | apply Drawn0.step)⟩
 rw [if_neg c3] at H
 have c3b0 : decide (a1 < (wrap64 (2 + (wrap64 ((l0.length : Int) / 16))))) = false := decide_eq_false c3
 clear c3
 obtain rfl := Option.some.inj H
 go_enter Try.func61, Try.ntmps61
 go_wp2
 go_ret
 exact ⟨by first | rfl | (simp; done) | (simp [*]; done), by repeat (first | exact Drawn0.refl _ | apply Drawn0.step)⟩

/-! ### spec_l02DrawOne: function 41 -/
def spec_l02DrawOne.f (k : Nat) (l0 : List Int) : Option ((List (S30)) × List Int × Int × Int) := (spec_l01New.f k l0).bind fun bt327 => ((spec_l01Size.f l0 12).bind fun t331 => ((spec_l01Below.f bt327.1 bt327.2.1 bt327.2.2 t331).bind fun bt332 => ((spec_l01Once.f bt327.1 bt332.2.1 bt332.2.2 60).bind fun bt335 => (if bt335.1 = true then ((spec_l02DrawTable.f k bt327.1 bt335.2.1 bt335.2.2 180).bind fun bt338 => (some (bt338.1, bt327.1, bt338.2.1, bt338.2.2))) else ((spec_l02DrawTable.f k bt327.1 bt335.2.1 bt335.2.2 bt332.1).bind fun bt343 => (some (bt343.1, bt327.1, bt343.2.1, bt343.2.2)))))))
theorem spec_l02DrawOne.mono : ∀ a0 k, LeO (spec_l02DrawOne.f k a0) (spec_l02DrawOne.f (k + 1) a0) := by
 intro a0 k
 unfold spec_l02DrawOne.f
 repeat' first | (with_reducible first | exact spec_l01New.mono _ _ | exact spec_l02DrawTable.mono _ _ _ _ _ | exact LeO.refl _ | exact LeO.none _ | refine LeO.ite ?_ ?_ | refine LeO.bind ?_ (fun _ => ?_)) | exact spec_l01New.mono _ _ | exact spec_l02DrawTable.mono _ _ _ _ _ | exact LeO.none _ | refine LeO.ite ?_ ?_ | refine LeO.bind ?_ (fun _ => ?_)
set_option maxHeartbeats 8000000 in
set_option maxRecDepth 100000 in
theorem spec_l02DrawOne.calls (k : Nat) (A0 : Option Addr) (c0 : Nat) (l0 : List Int) (r1 : List (S30)) (r2 : List Int) (r3 : Int) (r4 : Int) (w : World) (hr0 : Kd.C (Kd.int .u8) w A0 l0.length l0) (hc0 : l0.length ≤ c0) (h : spec_l02DrawOne.f k l0 = some (r1, r2, r3, r4)) :
  Calls Try.prog 41 #[.slice A0 l0.length c0] w fun e w' => ∃ v0_ : Value, ∃ g_ : Nat, e = .returned (.tuple #[.pointer (some ⟨g_, 0, none⟩), .agg #[v0_]]) ∧ Kd.R k30 30 w' w.heap.size (fun _ => True) v0_ r1 ∧ IsS112 w w' g_ r2 r3 r4 ∧ Below w.heap.size w w' := by
 have hu26 := Try.underlying26
 have HR0 := Aside0.mk hr0
 have HC0 := Aside0.mk hc0
 clear hr0 hc0
 have HB := Aside0.mk (Below.refl w.heap.size w)
 have H : ((spec_l01New.f k l0).bind fun bt327 => ((spec_l01Size.f l0 12).bind fun t331 => ((spec_l01Below.f bt327.1 bt327.2.1 bt327.2.2 t331).bind fun bt332 => ((spec_l01Once.f bt327.1 bt332.2.1 bt332.2.2 60).bind fun bt335 => (if bt335.1 = true then ((spec_l02DrawTable.f k bt327.1 bt335.2.1 bt335.2.2 180).bind fun bt338 => (some (bt338.1, bt327.1, bt338.2.1, bt338.2.2))) else ((spec_l02DrawTable.f k bt327.1 bt335.2.1 bt335.2.2 bt332.1).bind fun bt343 => (some (bt343.1, bt327.1, bt343.2.1, bt343.2.2)))))))) = some (r1, r2, r3, r4) := h
 clear h
 replace H := Option.bind_eq_some_iff.mp H
 obtain ⟨⟨t327, t328, t329⟩, A20, H⟩ := H
 have A2 := Aside0.mk A20
 clear A20
 replace H := Option.bind_eq_some_iff.mp H
 obtain ⟨t331, A30, H⟩ := H
 have A3 := Aside0.mk A30
 clear A30
 replace H := Option.bind_eq_some_iff.mp H
 obtain ⟨⟨t332, t333, t334⟩, A40, H⟩ := H
 have A4 := Aside0.mk A40
 clear A40
 replace H := Option.bind_eq_some_iff.mp H
 obtain ⟨⟨t335, t336, t337⟩, A50, H⟩ := H
 have A5 := Aside0.mk A50
 clear A50
 by_cases c6 : t335 = true
 ·subst c6
  rw [if_pos rfl] at H
  replace H := Option.bind_eq_some_iff.mp H
  obtain ⟨⟨t338, t341, t342⟩, A70, H⟩ := H
  have A7 := Aside0.mk A70
  clear A70
  simp only [Option.some.injEq, Prod.mk.injEq] at H
  obtain ⟨rfl, rfl, rfl, rfl⟩ := H
  go_enter Try.func41, Try.ntmps41
  go_wp2_with (first | ((with_reducible refine gate_dst (N := 3) rfl ?_); refine box_event ?hg (N := 3) ?hd (cs := #[.slice none 0 0]) (t := 26) ?hr ?_; (case hd => rfl); (case hg => rfl); (case hr => first | (go_simp; done) | (go_simp; rfl)); intro gb326 hg w8 hbox hb; have BK326 := Aside0.mk hbox; have GW326 := ge_ HB hg; have GE326 := ge_ HB hg; replace HB := at_ HB hb; clear hb hbox hg) | ((with_reducible refine gate_callee (f := 59) rfl ?_); refine gl_ (some 7) Try.func59 #[.slice A0 l0.length c0] ?_; (with_reducible refine (spec_l01New.calls k _ _ l0 t327 t328 t329 w _ ?side1 ?side2 ?side3 A2.out).mono ?_); (case side1 => exact by_ HB); (case side2 => exact HR0.out); (case side3 => exact HC0.out); rintro e w9 ⟨g330, rfl, hi, hb, hb2⟩; refine ⟨_, rfl, ?_⟩; have HI330 := Aside0.mk hi; have NB330_326 := Aside0.mk (IsS112.ne_blk hi (blk_below (g := gb326) (o := .cells #[.slice none 0 0] 26 (0, 0)) (bx_ BK326) hb2) (by decide)); have NB326_330 := Aside0.mk (Ne.symm (IsS112.ne_blk hi (blk_below (g := gb326) (o := .cells #[.slice none 0 0] 26 (0, 0)) (bx_ BK326) hb2) (by decide))); replace HB := Aside0.mk (hb); replace BK326 := Aside0.mk (blk_below (g := gb326) (o := .cells #[.slice none 0 0] 26 (0, 0)) (bx_ BK326) hb2); (try clear hb); (try clear hb2); (try clear hk); (try clear hi)) | ((with_reducible refine gate_callee (f := 61) rfl ?_); refine gl_ (some 10) Try.func61 #[.slice A0 l0.length c0, .int .i64 12] ?_; (with_reducible refine (spec_l01Size.calls _ _ l0 12 t331 _ ?side1 ?side2 A3.out).mono ?_); (case side1 => exact cb_ HR0 HB); (case side2 => exact HC0.out); rintro e w' ⟨rfl, ⟨nd, rfl⟩⟩; refine ⟨_, rfl, ?_⟩; (try (rw [drewN_self w9]; generalize hq_ : World.drewN w9 _ = w9; replace BK326 : Aside0 (w9.heap[gb326]? = some (.cells #[.slice none 0 0] 26 (0, 0))) := ⟨by rw [← hq_]; exact (bx_ BK326)⟩; replace HB : Aside0 (Below w.heap.size w w9) := ⟨by rw [← hq_]; exact (bw112_)⟩; replace HI330 : Aside0 (IsS112 w w9 g330 t327 t328 t329) := ⟨by rw [← hq_]; exact (is112_)⟩; clear hq_))) | ((with_reducible refine gate_callee (f := 44) rfl ?_); refine gl_ (some 11) Try.func44 #[.pointer (some ⟨g330, 0, none⟩), .int .i64 t331] ?_; (with_reducible refine (spec_l01Below.calls g330 t327 t328 t329 t331 t332 t333 t334 w _ ?side1 ?side2 A4.out).mono ?_); (case side1 => exact is112_); (case side2 => exact bw112_); rintro e w10 ⟨rfl, hi, hb, hk⟩; refine ⟨_, rfl, ?_⟩; replace BK326 := kb_ BK326 NB326_330 hk; replace HB := Aside0.mk (hb); replace HI330 := Aside0.mk (hi); (try clear hb); (try clear hb2); (try clear hk); (try clear hi)) | ((with_reducible refine gate_callee (f := 81) rfl ?_); refine gl_ (some 13) Try.func81 #[.pointer (some ⟨g330, 0, none⟩), .int .i64 60] ?_; (with_reducible refine (spec_l01Once.calls g330 t327 t333 t334 60 true t336 t337 w _ ?side1 ?side2 A5.out).mono ?_); (case side1 => exact is112_); (case side2 => exact bw112_); rintro e w11 ⟨rfl, hi, hb, hk⟩; refine ⟨_, rfl, ?_⟩; replace BK326 := kb_ BK326 NB326_330 hk; replace HB := Aside0.mk (hb); replace HI330 := Aside0.mk (hi); (try clear hb); (try clear hb2); (try clear hk); (try clear hi)) | ((with_reducible refine gate_callee (f := 60) rfl ?_); refine gl_ (some 17) Try.func60 #[.pointer (some ⟨g330, 0, none⟩), .int .i64 180] ?_; (with_reducible refine (spec_l02DrawTable.calls k g330 t327 t336 t337 180 t338 t341 t342 w _ ?side1 ?side2 A7.out).mono ?_); (case side1 => exact is112_); (case side2 => exact bw112_); rintro e w12 ⟨v339, rfl, ho0, hi, hb, hk⟩; refine ⟨_, rfl, ?_⟩; have HO340 := Aside0.mk (Kd.R_lower ho0 (below_size (bw112_))); replace BK326 := kb_ BK326 NB326_330 hk; replace HB := Aside0.mk (hb); replace HI330 := Aside0.mk (hi); (try clear hb); (try clear hb2); (try clear hk); (try clear hi); (try clear ho0); obtain ⟨Ao13, co13, eo13⟩ := Kd.R_slice HO340.out; subst eo13; have hnb14 := NB326_330.out; have hnc14 := NB330_326.out; have hcz15_0 := cz_ BK326 0 (.slice none 0 0); have hfz15_0 := fz_ BK326 0))
  refine bodyPost_ret (results_tc rfl _ _ gb326 26 #[.slice Ao13 t338.length co13] (0, 0) _ rfl (by refine bd_ ?_; refine blk_put (cs := #[.slice none 0 0]) ?_ 0 _ rfl; refine bd_ ?_; exact BK326.out) Try.underlying26 rfl (by kernel_rfl)) rfl ?_
  exact ⟨_, _, by first | rfl | (simp [errW_none, errW_some] <;> rfl) | (simp [*, errW_none, errW_some] <;> rfl), by (with_reducible repeat (first | apply Kd.R_alloc | apply Kd.R_drewN | apply Kd.R_drew)); exact Kd.R_mono (Kd.R_far (p := ⟨gb326, 0, none⟩) (Kd.R_types HO340.out BK326.out (by decide)) (fun _ hk => hk.2) (.slice Ao13 t338.length co13)) (fun _ hk => trivial), is112_, bw112_⟩
 replace c6 := Bool.eq_false_iff.mpr c6
 subst c6
 rw [if_neg (show ¬ (false = true) by decide)] at H
 replace H := Option.bind_eq_some_iff.mp H
 obtain ⟨⟨t343, t346, t347⟩, A160, H⟩ := H
 have A16 := Aside0.mk A160
 clear A160
 simp only [Option.some.injEq, Prod.mk.injEq] at H
 obtain ⟨rfl, rfl, rfl, rfl⟩ := H
 go_enter Try.func41, Try.ntmps41
 go_wp2_with (first | ((with_reducible refine gate_dst (N := 3) rfl ?_); refine box_event ?hg (N := 3) ?hd (cs := #[.slice none 0 0]) (t := 26) ?hr ?_; (case hd => rfl); (case hg => rfl); (case hr => first | (go_simp; done) | (go_simp; rfl)); intro gb326 hg w17 hbox hb; have BK326 := Aside0.mk hbox; have GW326 := ge_ HB hg; have GE326 := ge_ HB hg; replace HB := at_ HB hb; clear hb hbox hg) | ((with_reducible refine gate_callee (f := 59) rfl ?_); refine gl_ (some 7) Try.func59 #[.slice A0 l0.length c0] ?_; (with_reducible refine (spec_l01New.calls k _ _ l0 t327 t328 t329 w _ ?side1 ?side2 ?side3 A2.out).mono ?_); (case side1 => exact by_ HB); (case side2 => exact HR0.out); (case side3 => exact HC0.out); rintro e w18 ⟨g330, rfl, hi, hb, hb2⟩; refine ⟨_, rfl, ?_⟩; have HI330 := Aside0.mk hi; have NB330_326 := Aside0.mk (IsS112.ne_blk hi (blk_below (g := gb326) (o := .cells #[.slice none 0 0] 26 (0, 0)) (bx_ BK326) hb2) (by decide)); have NB326_330 := Aside0.mk (Ne.symm (IsS112.ne_blk hi (blk_below (g := gb326) (o := .cells #[.slice none 0 0] 26 (0, 0)) (bx_ BK326) hb2) (by decide))); replace HB := Aside0.mk (hb); replace BK326 := Aside0.mk (blk_below (g := gb326) (o := .cells #[.slice none 0 0] 26 (0, 0)) (bx_ BK326) hb2); (try clear hb); (try clear hb2); (try clear hk); (try clear hi)) | ((with_reducible refine gate_callee (f := 61) rfl ?_); refine gl_ (some 10) Try.func61 #[.slice A0 l0.length c0, .int .i64 12] ?_; (with_reducible refine (spec_l01Size.calls _ _ l0 12 t331 _ ?side1 ?side2 A3.out).mono ?_); (case side1 => exact cb_ HR0 HB); (case side2 => exact HC0.out); rintro e w' ⟨rfl, ⟨nd, rfl⟩⟩; refine ⟨_, rfl, ?_⟩; (try (rw [drewN_self w18]; generalize hq_ : World.drewN w18 _ = w18; replace BK326 : Aside0 (w18.heap[gb326]? = some (.cells #[.slice none 0 0] 26 (0, 0))) := ⟨by rw [← hq_]; exact (bx_ BK326)⟩; replace HB : Aside0 (Below w.heap.size w w18) := ⟨by rw [← hq_]; exact (bw112_)⟩; replace HI330 : Aside0 (IsS112 w w18 g330 t327 t328 t329) := ⟨by rw [← hq_]; exact (is112_)⟩; clear hq_))) | ((with_reducible refine gate_callee (f := 44) rfl ?_); refine gl_ (some 11) Try.func44 #[.pointer (some ⟨g330, 0, none⟩), .int .i64 t331] ?_; (with_reducible refine (spec_l01Below.calls g330 t327 t328 t329 t331 t332 t333 t334 w _ ?side1 ?side2 A4.out).mono ?_); (case side1 => exact is112_); (case side2 => exact bw112_); rintro e w19 ⟨rfl, hi, hb, hk⟩; refine ⟨_, rfl, ?_⟩; replace BK326 := kb_ BK326 NB326_330 hk; replace HB := Aside0.mk (hb); replace HI330 := Aside0.mk (hi); (try clear hb); (try clear hb2); (try clear hk); (try clear hi)) | ((with_reducible refine gate_callee (f := 81) rfl ?_); refine gl_ (some 13) Try.func81 #[.pointer (some ⟨g330, 0, none⟩), .int .i64 60] ?_; (with_reducible refine (spec_l01Once.calls g330 t327 t333 t334 60 false t336 t337 w _ ?side1 ?side2 A5.out).mono ?_); (case side1 => exact is112_); (case side2 => exact bw112_); rintro e w20 ⟨rfl, hi, hb, hk⟩; refine ⟨_, rfl, ?_⟩; replace BK326 := kb_ BK326 NB326_330 hk; replace HB := Aside0.mk (hb); replace HI330 := Aside0.mk (hi); (try clear hb); (try clear hb2); (try clear hk); (try clear hi)) | ((with_reducible refine gate_callee (f := 60) rfl ?_); refine gl_ (some 17) Try.func60 #[.pointer (some ⟨g330, 0, none⟩), .int .i64 t332] ?_; (with_reducible refine (spec_l02DrawTable.calls k g330 t327 t336 t337 t332 t343 t346 t347 w _ ?side1 ?side2 A16.out).mono ?_); (case side1 => exact is112_); (case side2 => exact bw112_); rintro e w21 ⟨v344, rfl, ho0, hi, hb, hk⟩; refine ⟨_, rfl, ?_⟩; have HO345 := Aside0.mk (Kd.R_lower ho0 (below_size (bw112_))); replace BK326 := kb_ BK326 NB326_330 hk; replace HB := Aside0.mk (hb); replace HI330 := Aside0.mk (hi); (try clear hb); (try clear hb2); (try clear hk); (try clear hi); (try clear ho0); obtain ⟨Ao22, co22, eo22⟩ := Kd.R_slice HO345.out; subst eo22; have hnb23 := NB326_330.out; have hnc23 := NB330_326.out; have hcz24_0 := cz_ BK326 0 (.slice none 0 0); have hfz24_0 := fz_ BK326 0))
 refine bodyPost_ret (results_tc rfl _ _ gb326 26 #[.slice Ao22 t343.length co22] (0, 0) _ rfl (by refine bd_ ?_; refine blk_put (cs := #[.slice none 0 0]) ?_ 0 _ rfl; refine bd_ ?_; exact BK326.out) Try.underlying26 rfl (by kernel_rfl)) rfl ?_
 exact ⟨_, _, by first | rfl | (simp [errW_none, errW_some] <;> rfl) | (simp [*, errW_none, errW_some] <;> rfl), by (with_reducible repeat (first | apply Kd.R_alloc | apply Kd.R_drewN | apply Kd.R_drew)); exact Kd.R_mono (Kd.R_far (p := ⟨gb326, 0, none⟩) (Kd.R_types HO345.out BK326.out (by decide)) (fun _ hk => hk.2) (.slice Ao22 t343.length co22)) (fun _ hk => trivial), is112_, bw112_⟩

/-! ### spec_l02DrawOwn: function 42 -/
def spec_l02DrawOwn.j0 : Nat → Bool → List Int → Int → Int → List (S30) → Option (Int × Int × Int × Int)
 | 0, _, _, _, _, _ => none
 | k + 1, x13, x1000, x1001, x1002, x349000 => if x13 = true then ((spec_l01Below.f x1000 x1001 x1002 (x349000.length : Int)).bind fun bt353 => (if 0 ≤ bt353.1 then (if bt353.1 < (x349000.length : Int) then (some ((rd_T30 x349000 bt353.1).f0.f0, (rd_T30 x349000 bt353.1).f0.f1, bt353.2.1, bt353.2.2)) else (none)) else (none))) else ((spec_l01DrawPrefix.f x1000 x1001 x1002).bind fun bt357 => (some (bt357.1, bt357.2.1, bt357.2.2.1, bt357.2.2.2)))
def spec_l02DrawOwn.f (k : Nat) (s0_0 : List Int) (s0_1 : Int) (s0_2 : Int) (l1_0 : List (S30)) : Option (Int × Int × Int × Int) := if (l1_0.length : Int) > 0 then ((spec_l01Once.f s0_0 s0_1 s0_2 3).bind fun bt350 => (spec_l02DrawOwn.j0 k (!bt350.1) s0_0 bt350.2.1 bt350.2.2 l1_0)) else (spec_l02DrawOwn.j0 k false s0_0 s0_1 s0_2 l1_0)
theorem spec_l02DrawOwn.mono_l : ∀ k, (∀ y0 y1 y2 y3 y4, LeO (spec_l02DrawOwn.j0 k y0 y1 y2 y3 y4) (spec_l02DrawOwn.j0 (k + 1) y0 y1 y2 y3 y4))
 | 0 => fun _ _ _ _ _ r h => by simp [spec_l02DrawOwn.j0] at h
 | k + 1 => by
  have ih0 := spec_l02DrawOwn.mono_l k
  ·intro y0 y1 y2 y3 y4
   unfold spec_l02DrawOwn.j0
   repeat' first | (with_reducible first | exact ih0 _ _ _ _ _ | exact LeO.refl _ | exact LeO.none _ | refine LeO.ite ?_ ?_ | refine LeO.bind ?_ (fun _ => ?_)) | exact ih0 _ _ _ _ _ | exact LeO.none _ | refine LeO.ite ?_ ?_ | refine LeO.bind ?_ (fun _ => ?_)
theorem spec_l02DrawOwn.mono : ∀ a0 a1 a2 a3 k, LeO (spec_l02DrawOwn.f k a0 a1 a2 a3) (spec_l02DrawOwn.f (k + 1) a0 a1 a2 a3) := by
 intro a0 a1 a2 a3 k
 have ih0 := spec_l02DrawOwn.mono_l k
 unfold spec_l02DrawOwn.f
 repeat' first | (with_reducible first | exact ih0 _ _ _ _ _ | exact LeO.refl _ | exact LeO.none _ | refine LeO.ite ?_ ?_ | refine LeO.bind ?_ (fun _ => ?_)) | exact ih0 _ _ _ _ _ | exact LeO.none _ | refine LeO.ite ?_ ?_ | refine LeO.bind ?_ (fun _ => ?_)
def spec_l02DrawOwn.T2 : Bool × List (List Nat × List Nat) := (true, [([], []), ([0], [0]), ([], []), ([], []), ([3], [3]), ([4], [4]), ([2, 5], [2, 5]), ([1, 6], [1, 6]), ([7], [7]), ([8], [8]), ([9, 6, 0, 1, 2, 3, 4, 5, 6, 7, 8, 9], [9])])
def spec_l02DrawOwn.B2 : List Nat := [0, 1, 0, 0, 8, 24, 60, 127, 255, 511, 1023]
theorem spec_l02DrawOwn.tab2 : rtab .any (opsOf Try.f42 2) = spec_l02DrawOwn.T2 := by kernel_rfl
theorem spec_l02DrawOwn.bits2 : waitsOk spec_l02DrawOwn.T2.2 spec_l02DrawOwn.B2 = true := by kernel_rfl
set_option maxHeartbeats 8000000 in
set_option maxRecDepth 100000 in
theorem spec_l02DrawOwn.calls (k : Nat) (g : Nat) (s0_0 : List Int) (s0_1 : Int) (s0_2 : Int) (A1_0 : Option Addr) (c1_0 : Nat) (l1_0 : List (S30)) (r1 : Int) (r2 : Int) (r3 : Int) (r4 : Int) (w0 w : World) (hI : IsS112 w0 w g s0_0 s0_1 s0_2) (hB : Below w0.heap.size w0 w) (hr1_0 : ∀ W_, KeepBut w W_ g none → Kd.C k30 W_ A1_0 l1_0.length l1_0) (hc1_0 : l1_0.length ≤ c1_0) (h : spec_l02DrawOwn.f k s0_0 s0_1 s0_2 l1_0 = some (r1, r2, r3, r4)) :
  Calls Try.prog 42 #[.pointer (some ⟨g, 0, none⟩), .agg #[.slice A1_0 l1_0.length c1_0]] w fun e w' => e = .returned (.agg #[.int .i64 r1, .int .i64 r2]) ∧ IsS112 w0 w' g s0_0 r3 r4 ∧ Below w0.heap.size w0 w' ∧ KeepBut w w' g none := by
 have hu26 := Try.underlying26
 have hu28 := Try.underlying28
 have HR1_0 := Aside0.mk hr1_0
 have HC1_0 := Aside0.mk hc1_0
 clear hr1_0 hc1_0
 have HI0 := Aside0.mk hI
 have HK := Aside0.mk (KeepBut.refl w g none)
 have HL := Aside0.mk hB.size
 clear hI
 have HW0 := Aside0.mk hB.size
 have HB := Aside0.mk hB
 clear hB
 have H : (if (l1_0.length : Int) > 0 then ((spec_l01Once.f s0_0 s0_1 s0_2 3).bind fun bt350 => (spec_l02DrawOwn.j0 k (!bt350.1) s0_0 bt350.2.1 bt350.2.2 l1_0)) else (spec_l02DrawOwn.j0 k false s0_0 s0_1 s0_2 l1_0)) = some (r1, r2, r3, r4) := h
 clear h
 have HC3 := Aside0.mk H
 clear H
 go_enter Try.func42, Try.ntmps42
 go_upto_region 1 with (first | ((with_reducible refine gate_dst (N := 3) rfl ?_); refine box_event ?hg (N := 3) ?hd (cs := #[.slice A1_0 l1_0.length c1_0]) (t := 26) ?hr ?_; (case hd => rfl); (case hg => rfl); (case hr => first | (go_simp; done) | (go_simp; rfl)); intro gb348 hg w4 hbox hb; have BK348 := Aside0.mk hbox; have GW348 := gw_ HK hg; have GE348 := gv_ HW0 HK hg; have NB0_348 := Aside0.mk ((by rw [hg]; exact Nat.ne_of_lt (IsS112.lt (show IsS112 w0 _ g s0_0 s0_1 s0_2 from is112_)) : g ≠ gb348)); have NB348_0 := Aside0.mk ((by rw [hg]; exact Nat.ne_of_gt (IsS112.lt (show IsS112 w0 _ g s0_0 s0_1 s0_2 from is112_)) : gb348 ≠ g)); replace HB := bs112_ hb; replace HK := kt_ HK (KeepBut.of_below hb g none); replace HI0 := Aside0.mk (IsS112.below is112_ hb); clear hb hbox hg) | ((with_reducible refine gate_dst (N := 4) rfl ?_); refine box_event ?hg (N := 4) ?hd (cs := #[.int .i64 0, .int .i64 0]) (t := 28) ?hr ?_; (case hd => rfl); (case hg => rfl); (case hr => first | (go_simp; done) | (go_simp; rfl)); intro gb349 hg w5 hbox hb; have BK349 := Aside0.mk hbox; have GW349 := gw_ HK hg; have GE349 := gv_ HW0 HK hg; have NB348_349 := nl_ BK348 hg; have NB349_348 := ng_ BK348 hg; have NB0_349 := Aside0.mk ((by rw [hg]; exact Nat.ne_of_lt (IsS112.lt (show IsS112 w0 _ g s0_0 s0_1 s0_2 from is112_)) : g ≠ gb349)); have NB349_0 := Aside0.mk ((by rw [hg]; exact Nat.ne_of_gt (IsS112.lt (show IsS112 w0 _ g s0_0 s0_1 s0_2 from is112_)) : gb349 ≠ g)); replace HB := bs112_ hb; replace HK := kt_ HK (KeepBut.of_below hb g none); replace BK348 := ab_ BK348 hb; replace HI0 := Aside0.mk (IsS112.below is112_ hb); clear hb hbox hg))
 (try simp only [Act.put, List.setIfInBounds_toArray, List.set_cons_zero, List.set_cons_succ])
 go_cut [13] (fun v13 wc => ∃ (kq : Nat) (x13_2 : Bool) (x1001_2 : Int) (x1002_2 : Int), v13 = .bool x13_2 ∧ Aside0 (spec_l02DrawOwn.j0 kq x13_2 s0_0 x1001_2 x1002_2 l1_0 = some (r1, r2, r3, r4)) ∧ Aside0 (kq ≤ k) ∧ Aside0 (wc.heap[gb348]? = some (.cells #[(.slice A1_0 l1_0.length c1_0)] 26 (0, 0))) ∧ Aside0 (wc.heap[gb349]? = some (.cells #[.int .i64 0, .int .i64 0] 28 (0, 0))) ∧ Aside0 (IsS112 w0 wc g s0_0 x1001_2 x1002_2) ∧ Aside0 (KeepBut w wc g none) ∧ Aside0 (Below w0.heap.size w0 wc))
 case first =>
  have H := HC3.out
  clear HC3
  by_cases c6 : (l1_0.length : Int) > 0
  rotate_left
  ·rw [if_neg c6] at H
   have c6b0 : decide (0 < (l1_0.length : Int)) = false := decide_eq_false c6
   have c6b1 : decide (0 < l1_0.length) = false := decide_eq_false (by omega)
   clear c6
   (first | rw [c6b0] | (simp only [i64_w, i32_w]; rw [c6b0]) | skip)
   have H' := Aside0.mk H
   clear H
   have hnb12 := NB348_349.out
   have hnc12 := NB349_348.out
   have hnb13 := NB348_0.out
   have hnc13 := NB0_348.out
   have hcz14_0 := cz_ BK348 0 (.slice A1_0 l1_0.length c1_0)
   have hfz14_0 := fz_ BK348 0
   go_wp2
   go_meet
   case rel => exact ⟨_, (false), (s0_1), (s0_2), er_, H', ⟨by first | omega | exact Nat.le_refl _⟩, ⟨bx_ BK348⟩, ⟨bx_ BK349⟩, ⟨is112_⟩, ⟨kx_ HK⟩, ⟨bw112_⟩⟩
  rw [if_pos c6] at H
  have c6b0 : decide (0 < (l1_0.length : Int)) = true := decide_eq_true c6
  have c6b1 : decide (0 < l1_0.length) = true := decide_eq_true (by omega)
  clear c6
  (first | rw [c6b0] | (simp only [i64_w, i32_w]; rw [c6b0]) | skip)
  replace H := Option.bind_eq_some_iff.mp H
  obtain ⟨⟨t350, t351, t352⟩, A70, H⟩ := H
  have A7 := Aside0.mk A70
  clear A70
  have H' := Aside0.mk H
  clear H
  have hnb8 := NB348_349.out
  have hnc8 := NB349_348.out
  have hnb9 := NB348_0.out
  have hnc9 := NB0_348.out
  have hcz10_0 := cz_ BK348 0 (.slice A1_0 l1_0.length c1_0)
  have hfz10_0 := fz_ BK348 0
  go_wp2_with (go_at_call 81; (with_reducible refine (spec_l01Once.calls g s0_0 s0_1 s0_2 3 t350 t351 t352 w0 _ ?side1 ?side2 A7.out).mono ?_); (case side1 => exact is112_); (case side2 => exact bw112_); rintro e w11 ⟨rfl, hi, hb, hk⟩; replace BK348 := kb_ BK348 NB348_0 hk; replace BK349 := kb_ BK349 NB349_0 hk; replace HK := kt_ HK hk; replace HB := Aside0.mk (hb); replace HI0 := Aside0.mk (hi); (try clear hb); (try clear hb2); (try clear hk); (try clear hi))
  go_meet
  case rel => exact ⟨_, (!t350), (t351), (t352), er_, H', ⟨by first | omega | exact Nat.le_refl _⟩, ⟨bx_ BK348⟩, ⟨bx_ BK349⟩, ⟨is112_⟩, ⟨kx_ HK⟩, ⟨bw112_⟩⟩
 case rest =>
  clear HC3
  try clear c1
  try clear p2
  try clear c4
  try clear c6
  try clear c6b0
  try clear c6b1
  try clear c8
  try clear c9
  try clear c12
  try clear c13
  try clear hcz10_0
  try clear hcz14_0
  try clear hfz10_0
  try clear hfz14_0
  obtain ⟨kq, x13_2, x1001_2, x1002_2, rfl, HA, HJ2, BK348, BK349, HI0, HK, HB⟩ := hcut
  cases kq with
  | zero => exact absurd HA.out (by simp [spec_l02DrawOwn.j0])
  | succ kj2 =>
   have H := HA.out
   clear HA
   simp only [spec_l02DrawOwn.j0] at H
   by_cases c15 : x13_2 = true
   rotate_left
   ·replace c15 := Bool.eq_false_iff.mpr c15
    subst c15
    rw [if_neg (show ¬ (false = true) by decide)] at H
    replace H := Option.bind_eq_some_iff.mp H
    obtain ⟨⟨t357, t358, t359, t360⟩, A230, H⟩ := H
    have A23 := Aside0.mk A230
    clear A230
    simp only [Option.some.injEq, Prod.mk.injEq] at H
    obtain ⟨rfl, rfl, rfl, rfl⟩ := H
    go_wp2_with ((with_reducible refine gate_callee (f := 86) rfl ?_); refine gl_ (some 25) Try.func86 #[.pointer (some ⟨g, 0, none⟩)] ?_; (with_reducible refine (spec_l01DrawPrefix.calls g s0_0 x1001_2 x1002_2 t357 t358 t359 t360 w0 _ ?side1 ?side2 A23.out).mono ?_); (case side1 => exact is112_); (case side2 => exact bw112_); rintro e w24 ⟨rfl, hi, hb, hk⟩; refine ⟨_, rfl, ?_⟩; replace BK348 := kb_ BK348 NB348_0 hk; replace BK349 := kb_ BK349 NB349_0 hk; replace HK := kt_ HK hk; replace HB := Aside0.mk (hb); replace HI0 := Aside0.mk (hi); (try clear hb); (try clear hb2); (try clear hk); (try clear hi); have hnb25 := NB349_348.out; have hnc25 := NB348_349.out; have hnb26 := NB349_0.out; have hnc26 := NB0_349.out; have hcz27_0 := cz_ BK349 0 (.int .i64 0); have hcz27_1 := cz_ BK349 1 (.int .i64 0); have hfz27_0 := fz_ BK349 0; have hfz27_1 := fz_ BK349 1)
    refine bodyPost_ret (results_cell_row rfl _ _ gb349 28 #[.int .i64 t357, .int .i64 t358] (0, 0) _ rfl (by refine bd_ ?_; refine blk_put (cs := #[.int .i64 t357, .int .i64 0]) ?_ 1 _ rfl; refine bd_ ?_; refine blk_put (cs := #[.int .i64 0, .int .i64 0]) ?_ 0 _ rfl; refine bd_ ?_; exact BK349.out) Try.underlying28 rfl (by kernel_rfl)) rfl ?_
    exact ⟨by first | rfl | (simp [errW_none, errW_some] <;> rfl) | (simp [*, errW_none, errW_some] <;> rfl), is112_, bw112_, kx_ HK⟩
   subst c15
   rw [if_pos rfl] at H
   replace H := Option.bind_eq_some_iff.mp H
   obtain ⟨⟨t353, t354, t355⟩, A160, H⟩ := H
   have A16 := Aside0.mk A160
   clear A160
   obtain ⟨c17b0, H⟩ := iq_ H
   obtain ⟨c18b0, H⟩ := iq_ H
   simp only [Option.some.injEq, Prod.mk.injEq] at H
   obtain ⟨rfl, rfl, rfl, rfl⟩ := H
   try go_wp2
   replace BK348 := ad_ BK348
   replace BK349 := ad_ BK349
   replace HI0 := Aside0.mk (IsS112.drew HI0.out)
   replace HK := Aside0.mk (keep_drew HK.out)
   replace HB := Aside0.mk (below_drew1 HB.out)
   have p356 : 0 ≤ (t353 : Int) := oa_
   have q356 : t353 < (l1_0.length : Int) := oa_
   obtain ⟨ad356, e356, hx356_0, hx356_1, hx356_2⟩ := at_T30 (Kd.C_foot_now HR1_0.out HK.out) t353 p356 q356
   have hw356_2 := hx356_2
   have hw356_1 := hx356_1
   have hw356_0 := hx356_0
   cases e356
   have hne356_2 := (show (⟨(ad356.add ((t353).toNat * 3)).block, (ad356.add ((t353).toNat * 3)).off + 2, none⟩ : Addr).block ≠ g from by first | (rw [add_block]; exact Kd.foot_ne HR1_0.out (by omega) (by decide)) | (show (Addr.add _ _).block ≠ _; rw [add_block]; exact Kd.foot_ne HR1_0.out (by omega) (by decide)) | exact Kd.foot_ne HR1_0.out (by omega) (by decide) | (dsimp only; exact Kd.foot_ne HR1_0.out (by omega) (by decide)))
   have hlt356_2 := (Kd.foot_lt HR1_0.out (by omega) (by decide))
   have hne356_1 := (show (⟨(ad356.add ((t353).toNat * 3)).block, (ad356.add ((t353).toNat * 3)).off + 1, none⟩ : Addr).block ≠ g from by first | (rw [add_block]; exact Kd.foot_ne HR1_0.out (by omega) (by decide)) | (show (Addr.add _ _).block ≠ _; rw [add_block]; exact Kd.foot_ne HR1_0.out (by omega) (by decide)) | exact Kd.foot_ne HR1_0.out (by omega) (by decide) | (dsimp only; exact Kd.foot_ne HR1_0.out (by omega) (by decide)))
   have hlt356_1 := (Kd.foot_lt HR1_0.out (by omega) (by decide))
   have hne356_0 := (show ((ad356.add ((t353).toNat * 3)) : Addr).block ≠ g from by first | (rw [add_block]; exact Kd.foot_ne HR1_0.out (by omega) (by decide)) | (show (Addr.add _ _).block ≠ _; rw [add_block]; exact Kd.foot_ne HR1_0.out (by omega) (by decide)) | exact Kd.foot_ne HR1_0.out (by omega) (by decide) | (dsimp only; exact Kd.foot_ne HR1_0.out (by omega) (by decide)))
   have hlt356_0 := (Kd.foot_lt HR1_0.out (by omega) (by decide))
   replace p356 := eq_true p356
   replace q356 := eq_true q356
   refine start_ (n := 11) (S := fun w' => w'.cell? ⟨gb348, 0, none⟩ = some (.slice (some ad356) l1_0.length c1_0) ∧ w'.cell? (ad356.add ((t353).toNat * 3)) = some (.int .i64 ((rd_T30 l1_0 t353).f0.f0)) ∧ w'.cell? ⟨(ad356.add ((t353).toNat * 3)).block, (ad356.add ((t353).toNat * 3)).off + 1, none⟩ = some (.int .i64 ((rd_T30 l1_0 t353).f0.f1)) ∧ w'.cell? ⟨(ad356.add ((t353).toNat * 3)).block, (ad356.add ((t353).toNat * 3)).off + 2, none⟩ = some (.int .i64 ((rd_T30 l1_0 t353).f1))) (ds := []) ba10_0 (by kernel_rfl) rfl rfl ⟨(blk_cell BK348.out 0).trans rfl, hx356_0, hx356_1, hx356_2⟩ (fun hHeld => ?_); refine with_tabW spec_l02DrawOwn.tab2 spec_l02DrawOwn.bits2 (fun HT_ HW_ => ?_)
   generalize wc.drew = w19 at BK348 BK349 HI0 HK HB hx356_0 hx356_1 hx356_2 hHeld ⊢
   refine pz_ 0 14 ba10_1 HT_ ?_
   refine pz_ 2 16 ba10_2 HT_ ?_
   refine pz_ 3 17 ba10_3 HT_ ?_
   refine pt_ 1 15 ba10_4 HT_ HW_ hHeld ?_
   refine pt_ 4 18 ba10_5 HT_ HW_ hHeld ?_
   refine pz_ 5 19 ba10_6 HT_ ?_
   refine one_ (i := 6) (N := some 20) ba10_7 rfl rfl (one_of HT_.out (by kernel_rfl)) (by decide) (fun K hK => ?_)
   refine gz_ Try.func44 #[.pointer (some ⟨g, 0, none⟩), .int .i64 (l1_0.length : Int)] ?_
   with_reducible refine (spec_l01Below.calls g s0_0 x1001_2 x1002_2 (l1_0.length : Int) t353 t354 t355 w0 _ ?side1 ?side2 A16.out).mono ?_
   (case side1 => exact is112_)
   (case side2 => exact bw112_)
   rintro e w20 ⟨rfl, hi, hb, hk⟩
   have HS1_ := keep_cell hk (hHeld.2.1) (by first | (rw [add_block]; exact hne356_0) | (show (Addr.add _ _).block ≠ _; rw [add_block]; exact hne356_0) | exact hne356_0)
   have HS2_ := keep_cell hk (hHeld.2.2.1) (by first | (rw [add_block]; exact hne356_1) | (show (Addr.add _ _).block ≠ _; rw [add_block]; exact hne356_1) | exact hne356_1)
   have HS3_ := keep_cell hk (hHeld.2.2.2) (by first | (rw [add_block]; exact hne356_2) | (show (Addr.add _ _).block ≠ _; rw [add_block]; exact hne356_2) | exact hne356_2)
   refine ⟨_, rfl, ?_⟩
   replace BK348 := kb_ BK348 NB348_0 hk
   replace BK349 := kb_ BK349 NB349_0 hk
   replace HK := kt_ HK hk
   replace HB := Aside0.mk (hb)
   replace HI0 := Aside0.mk (hi)
   (try clear hb)
   (try clear hb2)
   (try clear hk)
   (try clear hi)
   refine hK.out _ _ ⟨(blk_cell BK348.out 0).trans rfl, HS1_, HS2_, HS3_⟩ (fun hHeld => ?_)
   clear hK K
   refine nz_ 20 ?_
   refine pz_ 7 21 ba10_8 HT_ ?_
   refine pz_ 8 22 ba10_9 HT_ ?_
   refine pt_ 9 23 ba10_10 HT_ HW_ hHeld ?_
   refine one_ (i := 10) (N := none) ba10_11 rfl rfl (one_of HT_.out (by kernel_rfl)) (by decide) (fun K hK => ?_)
   have hs21 : w20.cell? ⟨gb349, 0, none⟩ = some (.int .i64 0) := (blk_cell BK349.out 0).trans rfl
   have hfs21 := fz_ BK349 0
   have hns21_0 := NB348_349.out
   have hms21_0 := NB349_348.out
   have hs22 : w20.cell? ⟨gb349, 1, none⟩ = some (.int .i64 0) := (blk_cell BK349.out 1).trans rfl
   have hfs22 := fz_ BK349 1
   have hns22_0 := NB348_349.out
   have hms22_0 := NB349_348.out
   refine skip_ (w1 := ?_) (by rfl) rfl ?_ ?_
   rotate_left; · go_simp; rfl
   refine hK.out _ _ ⟨((cell_far (p := ⟨gb349, _, none⟩) NB348_349.out _).trans (((cell_far (p := ⟨gb349, _, none⟩) NB348_349.out _).trans (hHeld.1)))), ((cell_far (p := ⟨gb349, _, none⟩) (by first | exact Nat.ne_of_lt (Nat.lt_of_lt_of_le hlt356_0 GW349.out) | (rw [add_block]; exact Nat.ne_of_lt (Nat.lt_of_lt_of_le hlt356_0 GW349.out)) | (show (Addr.add _ _).block ≠ _; rw [add_block]; exact Nat.ne_of_lt (Nat.lt_of_lt_of_le hlt356_0 GW349.out)) | (dsimp only; exact Nat.ne_of_lt (Nat.lt_of_lt_of_le hlt356_0 GW349.out))) _).trans (((cell_far (p := ⟨gb349, _, none⟩) (by first | exact Nat.ne_of_lt (Nat.lt_of_lt_of_le hlt356_0 GW349.out) | (rw [add_block]; exact Nat.ne_of_lt (Nat.lt_of_lt_of_le hlt356_0 GW349.out)) | (show (Addr.add _ _).block ≠ _; rw [add_block]; exact Nat.ne_of_lt (Nat.lt_of_lt_of_le hlt356_0 GW349.out)) | (dsimp only; exact Nat.ne_of_lt (Nat.lt_of_lt_of_le hlt356_0 GW349.out))) _).trans (hHeld.2.1)))), ((cell_far (p := ⟨gb349, _, none⟩) (by first | exact Nat.ne_of_lt (Nat.lt_of_lt_of_le hlt356_1 GW349.out) | (rw [add_block]; exact Nat.ne_of_lt (Nat.lt_of_lt_of_le hlt356_1 GW349.out)) | (show (Addr.add _ _).block ≠ _; rw [add_block]; exact Nat.ne_of_lt (Nat.lt_of_lt_of_le hlt356_1 GW349.out)) | (dsimp only; exact Nat.ne_of_lt (Nat.lt_of_lt_of_le hlt356_1 GW349.out))) _).trans (((cell_far (p := ⟨gb349, _, none⟩) (by first | exact Nat.ne_of_lt (Nat.lt_of_lt_of_le hlt356_1 GW349.out) | (rw [add_block]; exact Nat.ne_of_lt (Nat.lt_of_lt_of_le hlt356_1 GW349.out)) | (show (Addr.add _ _).block ≠ _; rw [add_block]; exact Nat.ne_of_lt (Nat.lt_of_lt_of_le hlt356_1 GW349.out)) | (dsimp only; exact Nat.ne_of_lt (Nat.lt_of_lt_of_le hlt356_1 GW349.out))) _).trans (hHeld.2.2.1)))), ((cell_far (p := ⟨gb349, _, none⟩) (by first | exact Nat.ne_of_lt (Nat.lt_of_lt_of_le hlt356_2 GW349.out) | (rw [add_block]; exact Nat.ne_of_lt (Nat.lt_of_lt_of_le hlt356_2 GW349.out)) | (show (Addr.add _ _).block ≠ _; rw [add_block]; exact Nat.ne_of_lt (Nat.lt_of_lt_of_le hlt356_2 GW349.out)) | (dsimp only; exact Nat.ne_of_lt (Nat.lt_of_lt_of_le hlt356_2 GW349.out))) _).trans (((cell_far (p := ⟨gb349, _, none⟩) (by first | exact Nat.ne_of_lt (Nat.lt_of_lt_of_le hlt356_2 GW349.out) | (rw [add_block]; exact Nat.ne_of_lt (Nat.lt_of_lt_of_le hlt356_2 GW349.out)) | (show (Addr.add _ _).block ≠ _; rw [add_block]; exact Nat.ne_of_lt (Nat.lt_of_lt_of_le hlt356_2 GW349.out)) | (dsimp only; exact Nat.ne_of_lt (Nat.lt_of_lt_of_le hlt356_2 GW349.out))) _).trans (hHeld.2.2.2))))⟩ (fun hHeld => ?_)
   clear hK K
   refine done_ (done_of HT_.out (by kernel_rfl)) ?_
   try go_wp2
   refine bodyPost_ret (results_cell_row rfl _ _ gb349 28 #[.int .i64 ((rd_T30 l1_0 t353).f0.f0), .int .i64 ((rd_T30 l1_0 t353).f0.f1)] (0, 0) _ rfl (by refine bd_ ?_; refine blk_put (cs := #[.int .i64 ((rd_T30 l1_0 t353).f0.f0), .int .i64 0]) ?_ 1 _ rfl; refine bd_ ?_; refine blk_put (cs := #[.int .i64 0, .int .i64 0]) ?_ 0 _ rfl; refine bd_ ?_; exact BK349.out) Try.underlying28 rfl (by kernel_rfl)) rfl ?_
   exact ⟨by first | rfl | (simp [errW_none, errW_some] <;> rfl) | (simp [*, errW_none, errW_some] <;> rfl), is112_, bw112_, kx_ HK⟩

/-! ### spec_DrawPutRoute: function 9 -/
def spec_DrawPutRoute.f (k : Nat) (l0 : List Int) : Option ((List (S30)) × Int × Int × Int) := (spec_l02DrawOne.f k l0).bind fun bt367 => ((spec_l02DrawOwn.f k bt367.2.1 bt367.2.2.1 bt367.2.2.2 bt367.1).bind fun bt371 => ((spec_l01Below.f bt367.2.1 bt371.2.2.1 bt371.2.2.2 1000).bind fun bt375 => ((spec_l01PickInt.f bt367.2.1 bt375.2.1 bt375.2.2 (([0, 1, 2, bt375.1, 999, 1000, (-1)] : List Int))).bind fun bt381 => (some (bt367.1, bt371.1, bt371.2.1, bt381.1)))))
theorem spec_DrawPutRoute.mono : ∀ a0 k, LeO (spec_DrawPutRoute.f k a0) (spec_DrawPutRoute.f (k + 1) a0) := by
 intro a0 k
 unfold spec_DrawPutRoute.f
 repeat' first | (with_reducible first | exact spec_l02DrawOne.mono _ _ | exact spec_l02DrawOwn.mono _ _ _ _ _ | exact LeO.refl _ | exact LeO.none _ | refine LeO.ite ?_ ?_ | refine LeO.bind ?_ (fun _ => ?_)) | exact spec_l02DrawOne.mono _ _ | exact spec_l02DrawOwn.mono _ _ _ _ _ | exact LeO.none _ | refine LeO.ite ?_ ?_ | refine LeO.bind ?_ (fun _ => ?_)
def spec_DrawPutRoute.T2 : Bool × List (List Nat × List Nat) := (true, [([], []), ([], []), ([], []), ([1, 2], [1, 2]), ([], []), ([], []), ([5, 3], [5]), ([6], [6]), ([4, 7, 6], [4, 7]), ([3, 8], [3, 8]), ([0, 8, 0], [0]), ([9, 10, 0, 1, 2, 3, 4, 5, 6, 7, 8, 9, 10], [9])])
def spec_DrawPutRoute.B2 : List Nat := [0, 0, 0, 6, 0, 0, 46, 110, 254, 510, 511, 2047]
theorem spec_DrawPutRoute.tab2 : rtab .any (opsOf Try.f9 2) = spec_DrawPutRoute.T2 := by kernel_rfl
theorem spec_DrawPutRoute.bits2 : waitsOk spec_DrawPutRoute.T2.2 spec_DrawPutRoute.B2 = true := by kernel_rfl
set_option maxHeartbeats 8000000 in
set_option maxRecDepth 100000 in
theorem spec_DrawPutRoute.calls (k : Nat) (A0 : Option Addr) (c0 : Nat) (l0 : List Int) (r1 : List (S30)) (r2 : Int) (r3 : Int) (r4 : Int) (w : World) (hr0 : Kd.C (Kd.int .u8) w A0 l0.length l0) (hc0 : l0.length ≤ c0) (h : spec_DrawPutRoute.f k l0 = some (r1, r2, r3, r4)) :
  Calls Try.prog 9 #[.slice A0 l0.length c0] w fun e w' => ∃ v0_ : Value, e = .returned (.tuple #[.agg #[v0_], .agg #[.int .i64 r2, .int .i64 r3, .int .i64 r4]]) ∧ Kd.R k30 30 w' w.heap.size (fun _ => True) v0_ r1 ∧ Below w.heap.size w w' := by
 have hu26 := Try.underlying26
 have hu30 := Try.underlying30
 have HR0 := Aside0.mk hr0
 have HC0 := Aside0.mk hc0
 clear hr0 hc0
 have HB := Aside0.mk (Below.refl w.heap.size w)
 have H : ((spec_l02DrawOne.f k l0).bind fun bt367 => ((spec_l02DrawOwn.f k bt367.2.1 bt367.2.2.1 bt367.2.2.2 bt367.1).bind fun bt371 => ((spec_l01Below.f bt367.2.1 bt371.2.2.1 bt371.2.2.2 1000).bind fun bt375 => ((spec_l01PickInt.f bt367.2.1 bt375.2.1 bt375.2.2 (([0, 1, 2, bt375.1, 999, 1000, (-1)] : List Int))).bind fun bt381 => (some (bt367.1, bt371.1, bt371.2.1, bt381.1)))))) = some (r1, r2, r3, r4) := h
 clear h
 replace H := Option.bind_eq_some_iff.mp H
 obtain ⟨⟨t367, t363, t364, t365⟩, A20, H⟩ := H
 have A2 := Aside0.mk A20
 clear A20
 replace H := Option.bind_eq_some_iff.mp H
 obtain ⟨⟨t371, t372, t373, t374⟩, A30, H⟩ := H
 have A3 := Aside0.mk A30
 clear A30
 replace H := Option.bind_eq_some_iff.mp H
 obtain ⟨⟨t375, t376, t377⟩, A40, H⟩ := H
 have A4 := Aside0.mk A40
 clear A40
 obtain ⟨y378, hy378⟩ : ∃ y_ : List Int, y_ = (([0, 1, 2, t375, 999, 1000, (-1)] : List Int)) := ⟨_, rfl⟩
 replace H : ((spec_l01PickInt.f t363 t376 t377 y378).bind fun bt381 => (some (t367, t371, t372, bt381.1))) = some (r1, r2, r3, r4) := by first | (rw [hy378]; with_reducible exact H) | (have H2_ := (Option.bind_some _ _).symm.trans H; rw [hy378]; with_reducible exact H2_) | (have H2_ := (Option.bind_some _ _).symm.trans H; with_reducible exact H2_) | with_reducible exact H | (rw [hy378]; exact H) | exact H
 have Ny378 := Aside0.mk hy378
 clear hy378
 replace H := Option.bind_eq_some_iff.mp H
 obtain ⟨⟨t381, t382, t383⟩, A50, H⟩ := H
 have A5 := Aside0.mk A50
 clear A50
 simp only [Option.some.injEq, Prod.mk.injEq] at H
 obtain ⟨rfl, rfl, rfl, rfl⟩ := H
 go_enter Try.func9, Try.ntmps9
 try go_wp2_with (first | ((with_reducible refine gate_dst (N := 2) rfl ?_); refine box_ev2 ?hg (N := 2) ?hd (cs := #[.slice none 0 0]) (t := 26) ?hr ?_; (case hd => rfl); (case hg => rfl); (case hr => first | (go_simp; done) | (go_simp; rfl)); intro gb361 hg w6 hbox hb hz_; have HL := Aside0.mk (low_box (w := w) (fun _ _ _ h_ => h_) hg hbox hb hz_); clear hz_; have BK361 := Aside0.mk hbox; have GW361 := ge_ HB hg; have GE361 := ge_ HB hg; replace HB := at_ HB hb; clear hb hbox hg) | ((with_reducible refine gate_dst (N := 3) rfl ?_); refine box_ev2 ?hg (N := 3) ?hd (cs := #[.int .i64 0, .int .i64 0, .int .i64 0]) (t := 30) ?hr ?_; (case hd => rfl); (case hg => rfl); (case hr => first | (go_simp; done) | (go_simp; rfl)); intro gb362 hg w7 hbox hb hz_; replace HL := Aside0.mk (low_box HL.out hg hbox hb hz_); clear hz_; have BK362 := Aside0.mk hbox; have GW362 := ge_ HB hg; have GE362 := ge_ HB hg; have NB361_362 := nl_ BK361 hg; have NB362_361 := ng_ BK361 hg; replace HB := at_ HB hb; replace BK361 := ab_ BK361 hb; clear hb hbox hg) | ((with_reducible refine gate_callee (f := 41) rfl ?_); refine gl_ (some 8) Try.func41 #[.slice A0 l0.length c0] ?_; (with_reducible refine (spec_l02DrawOne.calls k _ _ l0 t367 t363 t364 t365 _ ?side1 ?side2 A2.out).mono ?_); (case side1 => exact cb_ HR0 HB); (case side2 => exact HC0.out); rintro e w8 ⟨v368, g366, rfl, ho0, hi, hb⟩; refine ⟨_, rfl, ?_⟩; have HO369 := Aside0.mk (Kd.R_lower (Kd.R_newB ho0 (g := gb362) (o := .cells #[.int .i64 0, .int .i64 0, .int .i64 0] 30 (0, 0)) (bx_ BK362)) (bz_ HB)); have HI366 := Aside0.mk (IsS112.low hi HB HL); have NB366_361 := Aside0.mk (IsS112.ne_blk hi (bb_ BK361 hb) (by decide)); have NB361_366 := Aside0.mk (Ne.symm (IsS112.ne_blk hi (bb_ BK361 hb) (by decide))); have NB366_362 := Aside0.mk (IsS112.ne_blk hi (bb_ BK362 hb) (by decide)); have NB362_366 := Aside0.mk (Ne.symm (IsS112.ne_blk hi (bb_ BK362 hb) (by decide))); replace HB := at_ HB hb; replace BK361 := ab_ BK361 hb; replace BK362 := ab_ BK362 hb; (try clear hb); (try clear hb2); (try clear hk); (try clear hi); (try clear ho0)) | ((with_reducible refine gate_dst (N := 5) rfl ?_); refine box_event ?hg (N := 5) ?hd (cs := #[.slice none 0 0]) (t := 26) ?hr ?_; (case hd => rfl); (case hg => rfl); (case hr => first | (go_simp; done) | (go_simp; rfl)); intro gb370 hg w9 hbox hb; have BK370 := Aside0.mk hbox; have GW370 := Aside0.mk ((by rw [hg]; exact (below_size (bw112_)) : w.heap.size ≤ gb370)); have GE370 := Aside0.mk ((by rw [hg]; exact (below_size (bw112_)) : w.heap.size ≤ gb370)); have NB361_370 := nl_ BK361 hg; have NB370_361 := ng_ BK361 hg; have NB362_370 := nl_ BK362 hg; have NB370_362 := ng_ BK362 hg; have NB366_370 := Aside0.mk ((by rw [hg]; exact Nat.ne_of_lt (IsS112.lt (show IsS112 w _ g366 t363 t364 t365 from is112_)) : g366 ≠ gb370)); have NB370_366 := Aside0.mk ((by rw [hg]; exact Nat.ne_of_gt (IsS112.lt (show IsS112 w _ g366 t363 t364 t365 from is112_)) : gb370 ≠ g366)); replace HO369 := rb_ HO369 hb; replace HB := bs112_ hb; replace BK361 := ab_ BK361 hb; replace BK362 := ab_ BK362 hb; replace HI366 := Aside0.mk (IsS112.below is112_ hb); clear hb hbox hg; obtain ⟨Ao10, co10, eo10⟩ := Kd.R_slice HO369.out; subst eo10; have hnb11 := NB370_361.out; have hnc11 := NB361_370.out; have hnb12 := NB370_362.out; have hnc12 := NB362_370.out; have hnb13 := NB370_366.out; have hnc13 := NB366_370.out; have hcz14_0 := cz_ BK370 0 (.slice none 0 0); have hfz14_0 := fz_ BK370 0))
 have n0_ : Aside0 (Kd.R k30 30 (w9.setCell ⟨gb370, 0, none⟩ (.slice Ao10 t367.length co10)) w.heap.size (fun k_ => k_ ≠ gb362) (.slice Ao10 t367.length co10) t367) := ⟨by (with_reducible repeat (first | apply Kd.R_alloc | apply Kd.R_drewN | apply Kd.R_drew)); exact Kd.R_mono (Kd.R_far (p := ⟨gb370, 0, none⟩) (Kd.R_types HO369.out BK370.out (by decide)) (fun _ hk => hk.2) (.slice Ao10 t367.length co10)) (fun _ hk => hk.1.2)⟩
 have n1_ : Aside0 ((w9.setCell ⟨gb370, 0, none⟩ (.slice Ao10 t367.length co10)).heap[gb361]? = some (.cells #[.slice none 0 0] 26 (0, 0))) := ⟨bc_ BK361⟩
 have n2_ : Aside0 ((w9.setCell ⟨gb370, 0, none⟩ (.slice Ao10 t367.length co10)).heap[gb362]? = some (.cells #[.int .i64 0, .int .i64 0, .int .i64 0] 30 (0, 0))) := ⟨bc_ BK362⟩
 have n3_ : Aside0 ((w9.setCell ⟨gb370, 0, none⟩ (.slice Ao10 t367.length co10)).heap[gb370]? = some (.cells #[.slice Ao10 t367.length co10] 26 (0, 0))) := ⟨by refine bd_ ?_; refine blk_put (cs := #[.slice none 0 0]) ?_ 0 _ rfl; refine bd_ ?_; exact BK370.out⟩
 have n4_ : Aside0 (IsS112 w (w9.setCell ⟨gb370, 0, none⟩ (.slice Ao10 t367.length co10)) g366 t363 t364 t365) := ⟨is112_⟩
 have n5_ : Aside0 (Below w.heap.size w (w9.setCell ⟨gb370, 0, none⟩ (.slice Ao10 t367.length co10))) := ⟨bw112_⟩
 (try clear HO369)
 (try clear BK361)
 (try clear BK362)
 (try clear BK370)
 (try clear HI366)
 (try clear HB)
 generalize (w9.setCell ⟨gb370, 0, none⟩ (.slice Ao10 t367.length co10)) = w15 at n0_ n1_ n2_ n3_ n4_ n5_ ⊢
 have HO369 := n0_
 have BK361 := n1_
 have BK362 := n2_
 have BK370 := n3_
 have HI366 := n4_
 have HB := n5_
 clear n0_ n1_ n2_ n3_ n4_ n5_
 replace HO369 := Aside0.mk (Kd.R_drew HO369.out)
 replace BK361 := ad_ BK361
 replace BK362 := ad_ BK362
 replace BK370 := ad_ BK370
 replace HI366 := Aside0.mk (IsS112.drew HI366.out)
 replace HB := Aside0.mk (below_drew1 HB.out)
 refine start_ (n := 12) (S := fun w' => w'.cell? ⟨gb370, 0, none⟩ = some (.slice Ao10 t367.length co10)) (ds := []) ba10_12 (by kernel_rfl) rfl rfl ((blk_cell BK370.out 0).trans rfl) (fun hHeld => ?_); refine with_tabW spec_DrawPutRoute.tab2 spec_DrawPutRoute.bits2 (fun HT_ HW_ => ?_)
 generalize w15.drew = w16 at HO369 BK361 BK362 BK370 HI366 HB hHeld ⊢
 refine pz_ 1 12 ba10_13 HT_ ?_
 refine pz_ 4 15 ba10_14 HT_ ?_
 refine pz_ 5 16 ba10_15 HT_ ?_
 refine take_ (i := 0) (N := some 11) (v := ?_) (a' := ?_) ba10_16 rfl rfl (take_ofW HT_.out HW_.out (by kernel_rfl)) (fun _ _ _ h => h) (Or.inl ⟨by rfl, ?_⟩) hHeld ?_ ?_
 rotate_left; · intro w' s0; go_simp; with_reducible rfl
 rotate_left; · simp only [Act.put, List.setIfInBounds_toArray, List.set_cons_zero, List.set_cons_succ, i64_w, i32_w]; rfl
 refine take_ (i := 2) (N := some 13) (v := ?_) (a' := ?_) ba10_17 rfl rfl (take_ofW HT_.out HW_.out (by kernel_rfl)) (fun _ _ _ h => h) (Or.inl ⟨by rfl, ?_⟩) hHeld ?_ ?_
 rotate_left; · intro w' s0; go_simp; with_reducible rfl
 rotate_left; · simp only [Act.put, List.setIfInBounds_toArray, List.set_cons_zero, List.set_cons_succ, i64_w, i32_w]; rfl
 refine one_ (i := 3) (N := some 14) ba10_18 rfl rfl (one_of HT_.out (by kernel_rfl)) (by decide) (fun K hK => ?_)
 refine gz_ Try.func42 #[.pointer (some ⟨g366, 0, none⟩), .agg #[.slice Ao10 t367.length co10]] ?_
 with_reducible refine (spec_l02DrawOwn.calls k g366 t363 t364 t365 _ _ t367 t371 t372 t373 t374 w _ ?side1 ?side2 ?side3 ?side4 A3.out).mono ?_
 (case side1 => exact is112_)
 (case side2 => exact bw112_)
 (case side3 => exact Kd.C_foot_own (IsS112.apart (show IsS112 w _ g366 t363 t364 t365 from is112_) (hd_ HO369) (by decide)) (fun _ h_ => h_.2))
 (case side4 => exact (Kd.R_reads' HO369.out).2.1)
 rintro e w17 ⟨rfl, hi, hb, hk⟩
 refine ⟨_, rfl, ?_⟩
 replace BK361 := kb_ BK361 NB361_366 hk
 replace BK362 := kb_ BK362 NB362_366 hk
 replace HO369 := ak112_ HO369 (show IsS112 w _ g366 t363 t364 t365 from is112_) hk
 replace BK370 := kb_ BK370 NB370_366 hk
 replace HB := Aside0.mk (hb)
 replace HI366 := Aside0.mk (hi)
 (try clear hb)
 (try clear hb2)
 (try clear hk)
 (try clear hi)
 refine hK.out _ _ ((blk_cell BK370.out 0).trans rfl) (fun hHeld => ?_)
 clear hK K
 refine nz_ 14 ?_
 refine one_ (i := 6) (N := some 17) ba10_19 rfl rfl (one_of HT_.out (by kernel_rfl)) (by decide) (fun K hK => ?_)
 refine gz_ Try.func44 #[.pointer (some ⟨g366, 0, none⟩), .int .i64 1000] ?_
 with_reducible refine (spec_l01Below.calls g366 t363 t373 t374 1000 t375 t376 t377 w _ ?side1 ?side2 A4.out).mono ?_
 (case side1 => exact is112_)
 (case side2 => exact bw112_)
 rintro e w18 ⟨rfl, hi, hb, hk⟩
 refine ⟨_, rfl, ?_⟩
 replace BK361 := kb_ BK361 NB361_366 hk
 replace BK362 := kb_ BK362 NB362_366 hk
 replace HO369 := ak112_ HO369 (show IsS112 w _ g366 t363 t373 t374 from is112_) hk
 replace BK370 := kb_ BK370 NB370_366 hk
 replace HB := Aside0.mk (hb)
 replace HI366 := Aside0.mk (hi)
 (try clear hb)
 (try clear hb2)
 (try clear hk)
 (try clear hi)
 refine hK.out _ _ ((blk_cell BK370.out 0).trans rfl) (fun hHeld => ?_)
 clear hK K
 refine nz_ 17 ?_
 refine one_ (i := 7) (N := some 18) ba10_20 rfl rfl (one_of HT_.out (by kernel_rfl)) (by decide) (fun K hK => ?_)
 refine Kd.R_lit_step (Kd.int .i64) _ 3 ?hg (N := 18) ?hd (xs := ([0, 1, 2, t375, 999, 1000, (-1)] : List Int)) (inner := [.int .i64 0, .int .i64 1, .int .i64 2, .int .i64 t375, .int .i64 999, .int .i64 1000, .int .i64 (-1)]) (ok := fun _ => True) (okp := fun _ => True) ?hr ?hp (fun _ hk => hk) trivial (Below.refl _ _) (Nat.le_refl _) (by simp) ?_; (case hd => rfl); (case hg => rfl); (case hr => first | (go_simp; done) | (go_simp; rfl)); (case hp => exact (Reps.one (show Kd.M (Kd.int .i64) _ _ _ 0 [.int .i64 0] from rfl) (Reps.one (show Kd.M (Kd.int .i64) _ _ _ 1 [.int .i64 1] from rfl) (Reps.one (show Kd.M (Kd.int .i64) _ _ _ 2 [.int .i64 2] from rfl) (Reps.one (show Kd.M (Kd.int .i64) _ _ _ t375 [.int .i64 t375] from rfl) (Reps.one (show Kd.M (Kd.int .i64) _ _ _ 999 [.int .i64 999] from rfl) (Reps.one (show Kd.M (Kd.int .i64) _ _ _ 1000 [.int .i64 1000] from rfl) (Reps.one (show Kd.M (Kd.int .i64) _ _ _ (-1) [.int .i64 (-1)] from rfl) (Reps.none _ _)))))))))
 intro v379 w19 ho20 hb hg_ hnew_
 clear hg_ hnew_
 (first | rw [← Ny378.out] at ho20 | (simp only [Int.reduceToNat] at ho20; rw [← Ny378.out] at ho20))
 have HO380 := Aside0.mk (Kd.R_lower ho20 (below_size (bw112_)))
 replace HO369 := rb_ HO369 hb
 replace BK361 := ab_ BK361 hb
 replace BK362 := ab_ BK362 hb
 replace BK370 := ab_ BK370 hb
 replace HB := bs112_ hb
 replace HI366 := Aside0.mk (IsS112.below is112_ hb)
 clear hb ho20
 obtain ⟨Ao21, co21, eo21⟩ := Kd.R_slice HO380.out
 (first | subst eo21 | (injection eo21 with f1_ f2_ f3_; have f4_ := f1_.symm; have f5_ := f3_.symm; clear f1_ f2_ f3_; subst f4_; subst f5_))
 refine hK.out _ _ ((blk_cell BK370.out 0).trans rfl) (fun hHeld => ?_)
 clear hK K
 refine nz_ 18 ?_
 refine one_ (i := 8) (N := some 19) ba10_21 rfl rfl (one_of HT_.out (by kernel_rfl)) (by decide) (fun K hK => ?_)
 refine gz_ Try.func43 #[.pointer (some ⟨g366, 0, none⟩), .slice Ao21 y378.length co21] ?_
 with_reducible refine (spec_l01PickInt.calls g366 t363 t376 t377 _ _ y378 t381 t382 t383 w _ ?side1 ?side2 ?side3 ?side4 ?side5 A5.out).mono ?_
 (case side1 => exact is112_)
 (case side2 => exact bw112_)
 (case side3 => exact rc_ HO380)
 (case side4 => exact (Kd.R_reads' HO380.out).2.1)
 (case side5 => exact far_slice (IsS112.own_ne HI366.out HO380.out (by decide)))
 rintro e w22 ⟨rfl, hi, hb, hk⟩
 refine ⟨_, rfl, ?_⟩
 replace BK361 := kb_ BK361 NB361_366 hk
 replace BK362 := kb_ BK362 NB362_366 hk
 replace HO369 := ak112_ HO369 (show IsS112 w _ g366 t363 t376 t377 from is112_) hk
 replace BK370 := kb_ BK370 NB370_366 hk
 replace HO380 := ak112_ HO380 (show IsS112 w _ g366 t363 t376 t377 from is112_) hk
 replace HB := Aside0.mk (hb)
 replace HI366 := Aside0.mk (hi)
 (try clear hb)
 (try clear hb2)
 (try clear hk)
 (try clear hi)
 refine hK.out _ _ ((blk_cell BK370.out 0).trans rfl) (fun hHeld => ?_)
 clear hK K
 refine nz_ 19 ?_
 refine pz_ 9 20 ba10_22 HT_ ?_
 refine one_ (i := 10) (N := none) ba10_23 rfl rfl (one_of HT_.out (by kernel_rfl)) (by decide) (fun K hK => ?_)
 have hs23 : w22.cell? ⟨gb361, 0, none⟩ = some (.slice none 0 0) := (blk_cell BK361.out 0).trans rfl
 have hfs23 := fz_ BK361 0
 have hns23_1 := NB362_361.out
 have hns23_2 := NB370_361.out
 have hms23_1 := NB361_362.out
 have hms23_2 := NB361_370.out
 refine skip_ (w1 := ?_) (by rfl) rfl ?_ ?_
 rotate_left; · go_simp; rfl
 refine hK.out _ _ (((cell_far (p := ⟨gb361, _, none⟩) NB370_361.out _).trans (hHeld))) (fun hHeld => ?_)
 clear hK K
 refine one_ (i := 11) (N := none) ba10_24 rfl rfl (one_of HT_.out (by kernel_rfl)) (by decide) (fun K hK => ?_)
 have hs24 : w22.cell? ⟨gb362, 0, none⟩ = some (.int .i64 0) := (blk_cell BK362.out 0).trans rfl
 have hfs24 := fz_ BK362 0
 have hns24_0 := NB361_362.out
 have hns24_2 := NB370_362.out
 have hms24_0 := NB362_361.out
 have hms24_2 := NB362_370.out
 have hs25 : w22.cell? ⟨gb362, 1, none⟩ = some (.int .i64 0) := (blk_cell BK362.out 1).trans rfl
 have hfs25 := fz_ BK362 1
 have hns25_0 := NB361_362.out
 have hns25_2 := NB370_362.out
 have hms25_0 := NB362_361.out
 have hms25_2 := NB362_370.out
 have hs26 : w22.cell? ⟨gb362, 2, none⟩ = some (.int .i64 0) := (blk_cell BK362.out 2).trans rfl
 have hfs26 := fz_ BK362 2
 have hns26_0 := NB361_362.out
 have hns26_2 := NB370_362.out
 have hms26_0 := NB362_361.out
 have hms26_2 := NB362_370.out
 refine skip_ (w1 := ?_) (by rfl) rfl ?_ ?_
 rotate_left; · go_simp; rfl
 refine hK.out _ _ (((cell_far (p := ⟨gb362, _, none⟩) NB370_362.out _).trans (((cell_far (p := ⟨gb362, _, none⟩) NB370_362.out _).trans (((cell_far (p := ⟨gb362, _, none⟩) NB370_362.out _).trans (hHeld))))))) (fun hHeld => ?_)
 clear hK K
 refine done_ (done_of HT_.out (by kernel_rfl)) ?_
 try go_wp2
 refine bodyPost_ret (results_cc rfl _ _ gb361 gb362 26 30 #[.slice Ao10 t367.length co10] #[.int .i64 t371, .int .i64 t372, .int .i64 t381] (0, 0) (0, 0) _ _ rfl (by refine bd_ ?_; refine blk_far ?_ NB361_362.out _; refine bd_ ?_; refine blk_far ?_ NB361_362.out _; refine bd_ ?_; refine blk_far ?_ NB361_362.out _; refine bd_ ?_; refine blk_put (cs := #[.slice none 0 0]) ?_ 0 _ rfl; refine bd_ ?_; exact BK361.out) Try.underlying26 rfl (by kernel_rfl) rfl (by refine bd_ ?_; refine blk_put (cs := #[.int .i64 t371, .int .i64 t372, .int .i64 0]) ?_ 2 _ rfl; refine bd_ ?_; refine blk_put (cs := #[.int .i64 t371, .int .i64 0, .int .i64 0]) ?_ 1 _ rfl; refine bd_ ?_; refine blk_put (cs := #[.int .i64 0, .int .i64 0, .int .i64 0]) ?_ 0 _ rfl; refine bd_ ?_; refine blk_far ?_ NB362_361.out _; refine bd_ ?_; exact BK362.out) Try.underlying30 rfl (by kernel_rfl)) rfl ?_
 exact ⟨_, by first | rfl | (simp [errW_none, errW_some] <;> rfl) | (simp [*, errW_none, errW_some] <;> rfl), by (with_reducible repeat (first | apply Kd.R_alloc | apply Kd.R_drewN | apply Kd.R_drew)); exact Kd.R_mono (Kd.R_far (p := ⟨gb362, 2, none⟩) (Kd.R_far (p := ⟨gb362, 1, none⟩) (Kd.R_far (p := ⟨gb362, 0, none⟩) (Kd.R_far (p := ⟨gb361, 0, none⟩) (Kd.R_mono (Kd.R_types HO369.out BK361.out (by decide)) (fun k_ hk => (⟨hk, hk.1⟩ : _ ∧ k_ ≠ gb362))) (fun _ hk => hk.1.2) (.slice Ao10 t367.length co10)) (fun _ hk => hk.2) (.int .i64 t371)) (fun _ hk => hk.2) (.int .i64 t372)) (fun _ hk => hk.2) (.int .i64 t381)) (fun _ hk => trivial), bw112_⟩

/-! ### impl_Prefix_size: function 69 -/
def impl_Prefix_size.f (a0_0 : Int) (a0_1 : Int) : Option (Int) := if 0 ≤ (wrap64 (16 - a0_1)) then (some (shl .i64 1 (wrap64 (16 - a0_1)))) else (none)
set_option maxHeartbeats 8000000 in
set_option maxRecDepth 100000 in
theorem impl_Prefix_size.calls (a0_0 : Int) (a0_1 : Int) (r : Int) (w : World) (h : impl_Prefix_size.f a0_0 a0_1 = some r) :
  Calls Try.prog 69 #[.agg #[.int .i64 a0_0, .int .i64 a0_1]] w fun e w' => e = .returned (.int .i64 r) ∧ Below w.heap.size w w' := by
 have hu28 := Try.underlying28
 have HB := Aside0.mk (Below.refl w.heap.size w)
 have H : (if 0 ≤ (wrap64 (16 - a0_1)) then (some (shl .i64 1 (wrap64 (16 - a0_1)))) else (none)) = some r := h
 clear h
 obtain ⟨ji2, hji2⟩ : ∃ j_ : Int, (wrap64 (16 - a0_1)) = j_ := ⟨_, rfl⟩
 first | rw [hji2] at H | simp only [hji2] at H
 have hji2w : (IntKind.i64.wrap (16 - a0_1)) = ji2 := (i64_w _).trans hji2
 by_cases c3 : 0 ≤ (ji2)
 rotate_left
 ·rw [if_neg c3] at H
  exact absurd H (by simp)
 rw [if_pos c3] at H
 have c3b0 := eq_true c3
 have c3b1 : decide (0 ≤ (ji2)) = true := decide_eq_true c3
 clear c3
 obtain ⟨ji4, hji4⟩ : ∃ j_ : Int, (shl .i64 1 (ji2)) = j_ := ⟨_, rfl⟩
 first | rw [hji4] at H | simp only [hji4] at H
 have hji4_ : (IntKind.i64.wrap (1 * 2 ^ min (ji2).toNat 64)) = ji4 := hji4
 have hji4z : (ji2) ≤ 64 → (IntKind.i64.wrap (1 * 2 ^ (ji2).toNat)) = ji4 := shl_small hji4
 have hji4u : (IntKind.i64.wrap (2 ^ min (ji2).toNat 64)) = ji4 := by have h_ := hji4_; rw [Int.one_mul] at h_; exact h_
 have hji4v : (ji2) ≤ 64 → (IntKind.i64.wrap (2 ^ (ji2).toNat)) = ji4 := fun hle_ => by have h_ := hji4z hle_; rw [Int.one_mul] at h_; exact h_
 have hji4y : (wrap64 (1 * 2 ^ min (ji2).toNat 64)) = ji4 := (i64_w _).symm.trans hji4_
 have hji4x : (ji2) ≤ 64 → (wrap64 (1 * 2 ^ (ji2).toNat)) = ji4 := fun h_ => (i64_w _).symm.trans (hji4z h_)
 obtain rfl := Option.some.inj H
 go_enter Try.func69, Try.ntmps69
 go_wp2_with ((with_reducible refine gate_dst (N := 1) rfl ?_); refine box_event ?hg (N := 1) ?hd (cs := #[.int .i64 a0_0, .int .i64 a0_1]) (t := 28) ?hr ?_; (case hd => rfl); (case hg => rfl); (case hr => first | (go_simp; done) | (go_simp; rfl)); intro gb384 hg w5 hbox hb; have BK384 := Aside0.mk hbox; have GW384 := ge_ HB hg; have GE384 := ge_ HB hg; replace HB := at_ HB hb; clear hb hbox hg; have hcz6_0 := cz_ BK384 0 (.int .i64 a0_0); have hcz6_1 := cz_ BK384 1 (.int .i64 a0_1); have hfz6_0 := fz_ BK384 0; have hfz6_1 := fz_ BK384 1)
 go_ret
 exact ⟨by first | rfl | (simp [errW_none, errW_some] <;> rfl) | (simp only [← hji2, ← hji4]; first | rfl | (simp [errW_none, errW_some] <;> rfl)) | (simp [*, errW_none, errW_some] <;> rfl), bw112_⟩

/-! ### impl_within: function 88 -/
def impl_within.f (a0 : Int) (a1 : Int) (a2 : Int) : Option (Bool) := if a0 ≥ a1 then (some (decide (a0 ≤ a2))) else (some false)
set_option maxHeartbeats 8000000 in
set_option maxRecDepth 100000 in
theorem impl_within.calls (a0 : Int) (a1 : Int) (a2 : Int) (r : Bool) (w : World) (h : impl_within.f a0 a1 a2 = some r) :
  Calls Try.prog 88 #[.int .i64 a0, .int .i64 a1, .int .i64 a2] w fun e w' => e = .returned (.bool r) ∧ Drawn0 w w' := by
 have H : (if a0 ≥ a1 then (some (decide (a0 ≤ a2))) else (some false)) = some r := h
 clear h
 by_cases c4 : a0 ≥ a1
 ·rw [if_pos c4] at H
  have c4b0 : decide (a1 ≤ a0) = true := decide_eq_true c4
  clear c4
  obtain rfl := Option.some.inj H
  go_enter Try.func88, Try.ntmps88
  go_wp2
  go_ret
  exact ⟨by first | rfl | (simp; done) | (simp [*]; done), by repeat (first | exact Drawn0.refl _ | apply Drawn0.step)⟩
 rw [if_neg c4] at H
 have c4b0 : decide (a1 ≤ a0) = false := decide_eq_false c4
 clear c4
 obtain rfl := Option.some.inj H
 go_enter Try.func88, Try.ntmps88
 go_wp2
 go_ret
 exact ⟨by first | rfl | (simp; done) | (simp [*]; done), by repeat (first | exact Drawn0.refl _ | apply Drawn0.step)⟩

/-! ### impl_isAddr: function 84 -/
def impl_isAddr.f (a0 : Int) : Option (Bool) := (impl_within.f a0 0 65535).bind fun t385 => (some t385)
set_option maxHeartbeats 8000000 in
set_option maxRecDepth 100000 in
theorem impl_isAddr.calls (a0 : Int) (r : Bool) (w : World) (h : impl_isAddr.f a0 = some r) :
  Calls Try.prog 84 #[.int .i64 a0] w fun e w' => e = .returned (.bool r) ∧ Drawn0 w w' := by
 have H : ((impl_within.f a0 0 65535).bind fun t385 => (some t385)) = some r := h
 clear h
 replace H := Option.bind_eq_some_iff.mp H
 obtain ⟨t385, A20, H⟩ := H
 have A2 := Aside0.mk A20
 clear A20
 obtain rfl := Option.some.inj H
 go_enter Try.func84, Try.ntmps84
 go_wp2_with ((with_reducible refine gate_callee (f := 88) rfl ?_); refine gl_ (some 4) Try.func88 #[.int .i64 a0, .int .i64 0, .int .i64 65535] ?_; (with_reducible refine (impl_within.calls a0 0 65535 t385 _ A2.out).mono ?_); rintro e w' ⟨rfl, ⟨nd, rfl⟩⟩; refine ⟨_, rfl, ?_⟩)
 go_ret
 exact ⟨by first | rfl | (simp; done) | (simp [*]; done), by repeat (first | exact Drawn0.refl _ | apply Drawn0.step)⟩

end Go.Proofs.Ytjepmdngbafonaa.QFnRoutes
