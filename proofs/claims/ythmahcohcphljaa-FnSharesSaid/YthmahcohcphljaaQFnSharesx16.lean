/- Contracts of functions that the law reaches: what each call returns and what it leaves in memory. Made by this session over the print of the kit. -/
import Derived.Test.YthmahcohcphljaaQFnSharesx0
import Derived.Test.YthmahcohcphljaaQFnSharesx12
import Derived.Test.YthmahcohcphljaaQFnSharesx14
import Derived.Test.YthmahcohcphljaaQFnSharesx15
namespace Go.Proofs.Ythmahcohcphljaa.QFnShares
open Go.RowKit Go.Proofs.YthmahcohcphljaaS.PrintWords Go.Proofs.YthmahcohcphljaaS.PrintLast Go.Proofs.YthmahcohcphljaaS.PrintMore
attribute [local go_sem] max2_int min2_int max_two min_two max_three min_three max_four min_four   -- for this text's walks alone
set_option linter.unusedVariables false
set_option linter.unusedSimpArgs false
def ba16_0 : Array Bool := bs_ 4 0
def ba16_1 : Array Bool := bs_ 4 1
def ba16_2 : Array Bool := bs_ 4 5
def ba16_3 : Array Bool := bs_ 4 7
def ba16_4 : Array Bool := bs_ 4 15
def ba16_5 : Array Bool := bs_ 17 0
def ba16_6 : Array Bool := bs_ 17 2
def ba16_7 : Array Bool := bs_ 17 18
def ba16_8 : Array Bool := bs_ 17 146
def ba16_9 : Array Bool := bs_ 17 402
def ba16_10 : Array Bool := bs_ 17 403
def ba16_11 : Array Bool := bs_ 17 407
def ba16_12 : Array Bool := bs_ 17 439
def ba16_13 : Array Bool := bs_ 17 447
def ba16_14 : Array Bool := bs_ 17 511
def ba16_15 : Array Bool := bs_ 17 1023
def ba16_16 : Array Bool := bs_ 17 2047
def ba16_17 : Array Bool := bs_ 17 4095
def ba16_18 : Array Bool := bs_ 17 8191
def ba16_19 : Array Bool := bs_ 17 16383
def ba16_20 : Array Bool := bs_ 17 32767
def ba16_21 : Array Bool := bs_ 17 65535
def ba16_22 : Array Bool := bs_ 17 131071

/-! ### spec_l03Draw: function 65 -/
def spec_l03Draw.j0 : Nat → List Int → Int → Int → Int → List (S76) → Option (Int × (List (S76)) × List Int × Int × Int)
 | 0, _, _, _, _, _ => none
 | k + 1, x426000, x426001, x426002, x440000, x440001 => (spec_l01Once.f x426000 x426001 x426002 20).bind fun bt449 => (if bt449.1 = true then ((spec_l03Bend.f x426000 bt449.2.1 bt449.2.2 x440000 x440001).bind fun bt452 => (some (bt452.1, bt452.2.1, x426000, bt452.2.2.1, bt452.2.2.2))) else (some (x440000, x440001, x426000, bt449.2.1, bt449.2.2)))
def spec_l03Draw.f (k : Nat) (l0 : List Int) : Option (Int × (List (S76)) × List Int × Int × Int) := (spec_l01New.f k l0).bind fun bt422 => ((spec_l01Size.f l0 9).bind fun t426 => ((spec_l01Below.f bt422.1 bt422.2.1 bt422.2.2 t426).bind fun bt427 => ((spec_l01Below.f bt422.1 bt427.2.1 bt427.2.2 (wrap64 ((wrap64 (3 * (wrap64 (1 + bt427.1)))) + 1))).bind fun bt430 => ((spec_l03DrawGraph.f k bt422.1 bt430.2.1 bt430.2.2 (wrap64 (1 + bt427.1)) bt430.1).bind fun bt433 => ((spec_l01Once.f bt422.1 bt433.2.2.1 bt433.2.2.2 25).bind fun bt440 => (if bt440.1 = true then ((spec_l03DrawGraph.f k bt422.1 bt440.2.1 bt440.2.2 10 50).bind fun bt443 => (spec_l03Draw.j0 k bt422.1 bt443.2.2.1 bt443.2.2.2 bt443.1 bt443.2.1)) else (spec_l03Draw.j0 k bt422.1 bt440.2.1 bt440.2.2 bt433.1 bt433.2.1)))))))
theorem spec_l03Draw.mono_l : ∀ k, (∀ y0 y1 y2 y3 y4, LeO (spec_l03Draw.j0 k y0 y1 y2 y3 y4) (spec_l03Draw.j0 (k + 1) y0 y1 y2 y3 y4))
 | 0 => fun _ _ _ _ _ r h => by simp [spec_l03Draw.j0] at h
 | k + 1 => by
  have ih0 := spec_l03Draw.mono_l k
  ·intro y0 y1 y2 y3 y4
   unfold spec_l03Draw.j0
   repeat' first | (with_reducible first | exact ih0 _ _ _ _ _ | exact spec_l01New.mono _ _ | exact spec_l03DrawGraph.mono _ _ _ _ _ _ | exact LeO.refl _ | exact LeO.none _ | refine LeO.ite ?_ ?_ | refine LeO.bind ?_ (fun _ => ?_)) | exact ih0 _ _ _ _ _ | exact spec_l01New.mono _ _ | exact spec_l03DrawGraph.mono _ _ _ _ _ _ | exact LeO.none _ | refine LeO.ite ?_ ?_ | refine LeO.bind ?_ (fun _ => ?_)
theorem spec_l03Draw.mono : ∀ a0 k, LeO (spec_l03Draw.f k a0) (spec_l03Draw.f (k + 1) a0) := by
 intro a0 k
 have ih0 := spec_l03Draw.mono_l k
 unfold spec_l03Draw.f
 repeat' first | (with_reducible first | exact ih0 _ _ _ _ _ | exact spec_l01New.mono _ _ | exact spec_l03DrawGraph.mono _ _ _ _ _ _ | exact LeO.refl _ | exact LeO.none _ | refine LeO.ite ?_ ?_ | refine LeO.bind ?_ (fun _ => ?_)) | exact ih0 _ _ _ _ _ | exact spec_l01New.mono _ _ | exact spec_l03DrawGraph.mono _ _ _ _ _ _ | exact LeO.none _ | refine LeO.ite ?_ ?_ | refine LeO.bind ?_ (fun _ => ?_)
set_option maxHeartbeats 8000000 in
set_option maxRecDepth 100000 in
theorem spec_l03Draw.calls (k : Nat) (A0 : Option Addr) (c0 : Nat) (l0 : List Int) (r1 : Int) (r2 : List (S76)) (r3 : List Int) (r4 : Int) (r5 : Int) (w : World) (hr0 : Kd.C (Kd.int .u8) w A0 l0.length l0) (hc0 : l0.length ≤ c0) (h : spec_l03Draw.f k l0 = some (r1, r2, r3, r4, r5)) :
  Calls Try.prog 65 #[.slice A0 l0.length c0] w fun e w' => ∃ v1_ : Value, ∃ g_ : Nat, e = .returned (.tuple #[.pointer (some ⟨g_, 0, none⟩), .agg #[.int .i64 r1, v1_]]) ∧ Kd.R k76 76 w' w.heap.size (fun _ => True) v1_ r2 ∧ IsS115 w w' g_ r3 r4 r5 ∧ Below w.heap.size w w' := by
 have hu30 := Try.underlying30
 have HR0 := Aside0.mk hr0
 have HC0 := Aside0.mk hc0
 clear hr0 hc0
 have HB := Aside0.mk (Below.refl w.heap.size w)
 have H : ((spec_l01New.f k l0).bind fun bt422 => ((spec_l01Size.f l0 9).bind fun t426 => ((spec_l01Below.f bt422.1 bt422.2.1 bt422.2.2 t426).bind fun bt427 => ((spec_l01Below.f bt422.1 bt427.2.1 bt427.2.2 (wrap64 ((wrap64 (3 * (wrap64 (1 + bt427.1)))) + 1))).bind fun bt430 => ((spec_l03DrawGraph.f k bt422.1 bt430.2.1 bt430.2.2 (wrap64 (1 + bt427.1)) bt430.1).bind fun bt433 => ((spec_l01Once.f bt422.1 bt433.2.2.1 bt433.2.2.2 25).bind fun bt440 => (if bt440.1 = true then ((spec_l03DrawGraph.f k bt422.1 bt440.2.1 bt440.2.2 10 50).bind fun bt443 => (spec_l03Draw.j0 k bt422.1 bt443.2.2.1 bt443.2.2.2 bt443.1 bt443.2.1)) else (spec_l03Draw.j0 k bt422.1 bt440.2.1 bt440.2.2 bt433.1 bt433.2.1)))))))) = some (r1, r2, r3, r4, r5) := h
 clear h
 replace H := Option.bind_eq_some_iff.mp H
 obtain ⟨⟨t422, t423, t424⟩, A20, H⟩ := H
 have A2 := Aside0.mk A20
 clear A20
 replace H := Option.bind_eq_some_iff.mp H
 obtain ⟨t426, A30, H⟩ := H
 have A3 := Aside0.mk A30
 clear A30
 replace H := Option.bind_eq_some_iff.mp H
 obtain ⟨⟨t427, t428, t429⟩, A40, H⟩ := H
 have A4 := Aside0.mk A40
 clear A40
 replace H := Option.bind_eq_some_iff.mp H
 obtain ⟨⟨t430, t431, t432⟩, A50, H⟩ := H
 have A5 := Aside0.mk A50
 clear A50
 replace H := Option.bind_eq_some_iff.mp H
 obtain ⟨⟨t433, t434, t437, t438⟩, A60, H⟩ := H
 have A6 := Aside0.mk A60
 clear A60
 replace H := Option.bind_eq_some_iff.mp H
 obtain ⟨⟨t440, t441, t442⟩, A70, H⟩ := H
 have A7 := Aside0.mk A70
 clear A70
 have HC8 := Aside0.mk H
 clear H
 go_enter Try.func65, Try.ntmps65
 go_upto_if 23 with (first | ((with_reducible refine gate_dst (N := 3) rfl ?_); refine box_event ?hg (N := 3) ?hd (cs := #[.int .i64 0, .slice none 0 0]) (t := 30) ?hr ?_; (case hd => rfl); (case hg => rfl); (case hr => first | (go_simp; done) | (go_simp; rfl)); intro gb421 hg w9 hbox hb; have BK421 := Aside0.mk hbox; have GW421 := ge_ HB hg; have GE421 := ge_ HB hg; replace HB := at_ HB hb; clear hb hbox hg) | ((with_reducible refine gate_callee (f := 81) rfl ?_); refine gl_ (some 8) Try.func81 #[.slice A0 l0.length c0] ?_; (with_reducible refine (spec_l01New.calls k _ _ l0 t422 t423 t424 w _ ?side1 ?side2 ?side3 A2.out).mono ?_); (case side1 => exact by_ HB); (case side2 => exact HR0.out); (case side3 => exact HC0.out); rintro e w10 ⟨g425, rfl, hi, hb, hb2⟩; refine ⟨_, rfl, ?_⟩; have HI425 := Aside0.mk hi; have NB425_421 := Aside0.mk (IsS115.ne_blk hi (blk_below (g := gb421) (o := .cells #[.int .i64 0, .slice none 0 0] 30 (0, 0)) (bx_ BK421) hb2) (by decide)); have NB421_425 := Aside0.mk (Ne.symm (IsS115.ne_blk hi (blk_below (g := gb421) (o := .cells #[.int .i64 0, .slice none 0 0] 30 (0, 0)) (bx_ BK421) hb2) (by decide))); replace HB := Aside0.mk (hb); replace BK421 := Aside0.mk (blk_below (g := gb421) (o := .cells #[.int .i64 0, .slice none 0 0] 30 (0, 0)) (bx_ BK421) hb2); (try clear hb); (try clear hb2); (try clear hk); (try clear hi)) | ((with_reducible refine gate_callee (f := 82) rfl ?_); refine gl_ (some 11) Try.func82 #[.slice A0 l0.length c0, .int .i64 9] ?_; (with_reducible refine (spec_l01Size.calls _ _ l0 9 t426 _ ?side1 ?side2 A3.out).mono ?_); (case side1 => exact cb_ HR0 HB); (case side2 => exact HC0.out); rintro e w' ⟨rfl, ⟨nd, rfl⟩⟩; refine ⟨_, rfl, ?_⟩; (try (rw [drewN_self w10]; generalize hq_ : World.drewN w10 _ = w10; replace BK421 : Aside0 (w10.heap[gb421]? = some (.cells #[.int .i64 0, .slice none 0 0] 30 (0, 0))) := ⟨by rw [← hq_]; exact (bx_ BK421)⟩; replace HB : Aside0 (Below w.heap.size w w10) := ⟨by rw [← hq_]; exact (bw115_)⟩; replace HI425 : Aside0 (IsS115 w w10 g425 t422 t423 t424) := ⟨by rw [← hq_]; exact (is115_)⟩; clear hq_))) | ((with_reducible refine gate_callee (f := 68) rfl ?_); refine gl_ (some 12) Try.func68 #[.pointer (some ⟨g425, 0, none⟩), .int .i64 t426] ?_; (with_reducible refine (spec_l01Below.calls g425 t422 t423 t424 t426 t427 t428 t429 w _ ?side1 ?side2 A4.out).mono ?_); (case side1 => exact is115_); (case side2 => exact bw115_); rintro e w11 ⟨rfl, hi, hb, hk⟩; refine ⟨_, rfl, ?_⟩; replace BK421 := kb_ BK421 NB421_425 hk; replace HB := Aside0.mk (hb); replace HI425 := Aside0.mk (hi); (try clear hb); (try clear hb2); (try clear hk); (try clear hi)) | ((with_reducible refine gate_callee (f := 68) rfl ?_); refine gl_ (some 20) Try.func68 #[.pointer (some ⟨g425, 0, none⟩), .int .i64 (wrap64 ((wrap64 (3 * (wrap64 (1 + t427)))) + 1))] ?_; (with_reducible refine (spec_l01Below.calls g425 t422 t428 t429 (wrap64 ((wrap64 (3 * (wrap64 (1 + t427)))) + 1)) t430 t431 t432 w _ ?side1 ?side2 A5.out).mono ?_); (case side1 => exact is115_); (case side2 => exact bw115_); rintro e w12 ⟨rfl, hi, hb, hk⟩; refine ⟨_, rfl, ?_⟩; replace BK421 := kb_ BK421 NB421_425 hk; replace HB := Aside0.mk (hb); replace HI425 := Aside0.mk (hi); (try clear hb); (try clear hb2); (try clear hk); (try clear hi)) | ((with_reducible refine gate_callee (f := 83) rfl ?_); refine gl_ (some 21) Try.func83 #[.pointer (some ⟨g425, 0, none⟩), .int .i64 (wrap64 (1 + t427)), .int .i64 t430] ?_; (with_reducible refine (spec_l03DrawGraph.calls k g425 t422 t431 t432 (wrap64 (1 + t427)) t430 t433 t434 t437 t438 w _ ?side1 ?side2 A6.out).mono ?_); (case side1 => exact is115_); (case side2 => exact bw115_); rintro e w13 ⟨v435, rfl, ho0, hi, hb, hk⟩; refine ⟨_, rfl, ?_⟩; have HO436 := Aside0.mk (Kd.R_lower ho0 (below_size (bw115_))); replace BK421 := kb_ BK421 NB421_425 hk; replace HB := Aside0.mk (hb); replace HI425 := Aside0.mk (hi); (try clear hb); (try clear hb2); (try clear hk); (try clear hi); (try clear ho0)) | ((with_reducible refine gate_dst (N := 6) rfl ?_); refine box_event ?hg (N := 6) ?hd (cs := #[.int .i64 0, .slice none 0 0]) (t := 30) ?hr ?_; (case hd => rfl); (case hg => rfl); (case hr => first | (go_simp; done) | (go_simp; rfl)); intro gb439 hg w14 hbox hb; have BK439 := Aside0.mk hbox; have GW439 := Aside0.mk ((by rw [hg]; exact (below_size (bw115_)) : w.heap.size ≤ gb439)); have GE439 := Aside0.mk ((by rw [hg]; exact (below_size (bw115_)) : w.heap.size ≤ gb439)); have NB421_439 := nl_ BK421 hg; have NB439_421 := ng_ BK421 hg; have NB425_439 := Aside0.mk ((by rw [hg]; exact Nat.ne_of_lt (IsS115.lt (show IsS115 w _ g425 t422 t437 t438 from is115_)) : g425 ≠ gb439)); have NB439_425 := Aside0.mk ((by rw [hg]; exact Nat.ne_of_gt (IsS115.lt (show IsS115 w _ g425 t422 t437 t438 from is115_)) : gb439 ≠ g425)); replace HO436 := rb_ HO436 hb; replace HB := bs115_ hb; replace BK421 := ab_ BK421 hb; replace HI425 := Aside0.mk (IsS115.below is115_ hb); clear hb hbox hg; have hnb15 := NB439_421.out; have hnc15 := NB421_439.out; have hnb16 := NB439_425.out; have hnc16 := NB425_439.out; have hcz17_0 := cz_ BK439 0 (.int .i64 0); have hcz17_1 := cz_ BK439 1 (.slice none 0 0); have hfz17_0 := fz_ BK439 0; have hfz17_1 := fz_ BK439 1; obtain ⟨Ao18, co18, eo18⟩ := Kd.R_slice HO436.out; subst eo18) | ((with_reducible refine gate_callee (f := 84) rfl ?_); refine gl_ (some 23) Try.func84 #[.pointer (some ⟨g425, 0, none⟩), .int .i64 25] ?_; (with_reducible refine (spec_l01Once.calls g425 t422 t437 t438 25 t440 t441 t442 w _ ?side1 ?side2 A7.out).mono ?_); (case side1 => exact is115_); (case side2 => exact bw115_); rintro e w19 ⟨rfl, hi, hb, hk⟩; refine ⟨_, rfl, ?_⟩; replace BK421 := kc_ BK421 NB421_425 hk; replace HO436 := Aside0.mk (Kd.R_mono (Kd.R_keep (IsS115.apart (show IsS115 w _ g425 t422 t437 t438 from is115_) (hs_ HO436 BK439) (by decide)) hk (fun _ h => h.2)) (fun _ h => h.1)); replace BK439 := Aside0.mk (KeepBut.blk hk (g' := gb439) (o := .cells #[.int .i64 t433, .slice Ao18 t434.length co18] 30 (0, 0)) (by refine bd_ ?_; refine blk_put (cs := #[.int .i64 t433, .slice none 0 0]) ?_ 1 _ rfl; refine bd_ ?_; refine blk_put (cs := #[.int .i64 0, .slice none 0 0]) ?_ 0 _ rfl; refine bd_ ?_; exact BK439.out) NB439_425.out (by simp)); replace HB := Aside0.mk (hb); replace HI425 := Aside0.mk (hi); (try clear hb); (try clear hb2); (try clear hk); (try clear hi)))
 (try simp only [Act.put, List.setIfInBounds_toArray, List.set_cons_zero, List.set_cons_succ])
 go_cut [] (fun wc => ∃ (kq : Nat) (x426001_7 : Int) (x426002_7 : Int) (x440000_7 : Int) (x440001_7 : List (S76)) (u440001 : Value), Aside0 (spec_l03Draw.j0 kq t422 x426001_7 x426002_7 x440000_7 x440001_7 = some (r1, r2, r3, r4, r5)) ∧ Aside0 (kq ≤ k) ∧ Aside0 (Kd.R k76 76 wc w.heap.size (fun _ => True) u440001 x440001_7) ∧ Aside0 (wc.heap[gb421]? = some (.cells #[.int .i64 0, (.slice none 0 0)] 30 (0, 0))) ∧ Aside0 (wc.heap[gb439]? = some (.cells #[.int .i64 x440000_7, u440001] 30 (0, 0))) ∧ Aside0 (IsS115 w wc g425 t422 x426001_7 x426002_7) ∧ Aside0 (Below w.heap.size w wc))
 case first =>
  have H := HC8.out
  clear HC8
  by_cases c20 : t440 = true
  rotate_left
  ·replace c20 := Bool.eq_false_iff.mpr c20
   subst c20
   rw [if_neg (show ¬ (false = true) by decide)] at H
   have H' := Aside0.mk H
   clear H
   go_wp2
   go_meet
   case rel => exact ⟨_, (t441), (t442), (t433), (t434), (.slice Ao18 t434.length co18), H', ⟨by first | omega | exact Nat.le_refl _⟩, ⟨hd_ HO436⟩, ⟨bx_ BK421⟩, ⟨bx_ BK439⟩, ⟨is115_⟩, ⟨bw115_⟩⟩
  subst c20
  rw [if_pos rfl] at H
  replace H := Option.bind_eq_some_iff.mp H
  obtain ⟨⟨t443, t444, t447, t448⟩, A210, H⟩ := H
  have A21 := Aside0.mk A210
  clear A210
  have H' := Aside0.mk H
  clear H
  go_wp2_with ((with_reducible refine gate_callee (f := 83) rfl ?_); refine gl_ (some 25) Try.func83 #[.pointer (some ⟨g425, 0, none⟩), .int .i64 10, .int .i64 50] ?_; (with_reducible refine (spec_l03DrawGraph.calls k g425 t422 t441 t442 10 50 t443 t444 t447 t448 w _ ?side1 ?side2 A21.out).mono ?_); (case side1 => exact is115_); (case side2 => exact bw115_); rintro e w22 ⟨v445, rfl, ho0, hi, hb, hk⟩; refine ⟨_, rfl, ?_⟩; have HO446 := Aside0.mk (Kd.R_lower (Kd.R_new' ho0 (Kd.R_lt (hd_ HO436))) (below_size (bw115_))); replace BK421 := kb_ BK421 NB421_425 hk; replace BK439 := kb_ BK439 NB439_425 hk; replace HO436 := Aside0.mk (Kd.R_mono (Kd.R_told (Kd.R_oldK (IsS115.apart (show IsS115 w _ g425 t422 t441 t442 from is115_) (hd_ HO436) (by decide)) hk) (Kd.R_base ho0)) (fun _ h_ => h_.1)); replace HB := Aside0.mk (hb); replace HI425 := Aside0.mk (hi); (try clear hb); (try clear hb2); (try clear hk); (try clear hi); (try clear ho0); have hnb23 := NB439_421.out; have hnc23 := NB421_439.out; have hnb24 := NB439_425.out; have hnc24 := NB425_439.out; have hcz25_0 := cz_ BK439 0 (.int .i64 t433); have hcz25_1 := cz_ BK439 1 (.slice Ao18 t434.length co18); have hfz25_0 := fz_ BK439 0; have hfz25_1 := fz_ BK439 1; obtain ⟨Ao26, co26, eo26⟩ := Kd.R_slice HO446.out; subst eo26)
  go_meet
  case rel => exact ⟨_, (t447), (t448), (t443), (t444), (.slice Ao26 t444.length co26), H', ⟨by first | omega | exact Nat.le_refl _⟩, ⟨by (with_reducible repeat (first | apply Kd.R_alloc | apply Kd.R_drewN | apply Kd.R_drew)); exact Kd.R_mono (Kd.R_far (p := ⟨gb439, 1, none⟩) (Kd.R_far (p := ⟨gb439, 0, none⟩) (Kd.R_types HO446.out BK439.out (by decide)) (fun _ hk => hk.2) (.int .i64 t443)) (fun _ hk => hk.2) (.slice Ao26 t444.length co26)) (fun _ hk => trivial)⟩, ⟨bc_ BK421⟩, ⟨by refine bd_ ?_; refine blk_put (cs := #[.int .i64 t443, .slice Ao18 t434.length co18]) ?_ 1 _ rfl; refine bd_ ?_; refine blk_put (cs := #[.int .i64 t433, .slice Ao18 t434.length co18]) ?_ 0 _ rfl; refine bd_ ?_; exact BK439.out⟩, ⟨is115_⟩, ⟨bw115_⟩⟩
 case rest =>
  clear HC8
  try clear c1
  try clear c2
  try clear p2
  try clear c6
  try clear p6
  try clear c8
  try clear c15
  try clear c16
  try clear c20
  try clear c23
  try clear c24
  try clear hcz17_0
  try clear hcz17_1
  try clear hcz25_0
  try clear hcz25_1
  try clear hfz17_0
  try clear hfz17_1
  try clear hfz25_0
  try clear hfz25_1
  obtain ⟨kq, x426001_7, x426002_7, x440000_7, x440001_7, u440001, HA, HJ7, HO_440001, BK421, BK439, HI425, HB⟩ := hcut
  cases kq with
  | zero => exact absurd HA.out (by simp [spec_l03Draw.j0])
  | succ kj7 =>
   have H := HA.out
   clear HA
   simp only [spec_l03Draw.j0] at H
   replace H := Option.bind_eq_some_iff.mp H
   obtain ⟨⟨t449, t450, t451⟩, A270, H⟩ := H
   have A27 := Aside0.mk A270
   clear A270
   by_cases c28 : t449 = true
   rotate_left
   ·replace c28 := Bool.eq_false_iff.mpr c28
    subst c28
    rw [if_neg (show ¬ (false = true) by decide)] at H
    simp only [Option.some.injEq, Prod.mk.injEq] at H
    obtain ⟨rfl, rfl, rfl, rfl, rfl⟩ := H
    try go_wp2_with ((with_reducible refine gate_callee (f := 84) rfl ?_); refine gl_ (some 27) Try.func84 #[.pointer (some ⟨g425, 0, none⟩), .int .i64 20] ?_; (with_reducible refine (spec_l01Once.calls g425 t422 x426001_7 x426002_7 20 false t450 t451 w _ ?side1 ?side2 A27.out).mono ?_); (case side1 => exact is115_); (case side2 => exact bw115_); rintro e w42 ⟨rfl, hi, hb, hk⟩; refine ⟨_, rfl, ?_⟩; replace HO_440001 := ak115_ HO_440001 (show IsS115 w _ g425 t422 x426001_7 x426002_7 from is115_) hk; replace BK421 := kb_ BK421 NB421_425 hk; replace BK439 := kb_ BK439 NB439_425 hk; replace HB := Aside0.mk (hb); replace HI425 := Aside0.mk (hi); (try clear hb); (try clear hb2); (try clear hk); (try clear hi))
    replace HO_440001 := Aside0.mk (Kd.R_drew HO_440001.out)
    replace BK421 := ad_ BK421
    replace BK439 := ad_ BK439
    replace HI425 := Aside0.mk (IsS115.drew HI425.out)
    replace HB := Aside0.mk (below_drew1 HB.out)
    obtain ⟨Ao45, co45, eo45⟩ := Kd.R_slice HO_440001.out
    (first | subst eo45 | (injection eo45 with f1_ f2_ f3_; have f4_ := f1_.symm; have f5_ := f3_.symm; clear f1_ f2_ f3_; subst f4_; subst f5_))
    refine start_ (n := 4) (S := fun w' => w'.cell? ⟨gb439, 0, none⟩ = some (.int .i64 x440000_7) ∧ w'.cell? ⟨gb439, 1, none⟩ = some (.slice Ao45 x440001_7.length co45)) (ds := []) ba16_0 (by kernel_rfl) rfl rfl ⟨(blk_cell BK439.out 0).trans rfl, (blk_cell BK439.out 1).trans rfl⟩ (fun hHeld => ?_)
    generalize w42.drew = w43 at HO_440001 BK421 BK439 HI425 HB hHeld ⊢
    refine pure_ (i := 0) (N := some 31) (v := ?_) (a' := ?_) ba16_1 rfl rfl (by kernel_rfl) (fun _ _ _ h => h) (Or.inl ⟨by rfl, ?_⟩) ?_ ?_
    rotate_left; · intro w'; go_simp; with_reducible rfl
    rotate_left; · simp only [Act.put, List.setIfInBounds_toArray, List.set_cons_zero, List.set_cons_succ, i64_w, i32_w]; rfl
    refine pure_ (i := 2) (N := some 2) (v := ?_) (a' := ?_) ba16_2 rfl rfl (by kernel_rfl) (fun _ _ _ h => h) (Or.inl ⟨by rfl, ?_⟩) ?_ ?_
    rotate_left; · intro w'; go_simp; with_reducible rfl
    rotate_left; · simp only [Act.put, List.setIfInBounds_toArray, List.set_cons_zero, List.set_cons_succ, i64_w, i32_w]; rfl
    refine take_ (i := 1) (N := some 32) (v := ?_) (a' := ?_) ba16_3 rfl rfl (by kernel_rfl) (fun _ _ _ h => h) (Or.inl ⟨by rfl, ?_⟩) hHeld ?_ ?_
    rotate_left; · rintro w' ⟨s0, s1⟩; go_simp; with_reducible rfl
    rotate_left; · simp only [Act.put, List.setIfInBounds_toArray, List.set_cons_zero, List.set_cons_succ, i64_w, i32_w]; rfl
    refine one_ (i := 3) (N := none) ba16_4 rfl rfl (by kernel_rfl) (by decide) (fun K hK => ?_)
    have hs44 : w43.cell? ⟨gb421, 0, none⟩ = some (.int .i64 0) := (blk_cell BK421.out 0).trans rfl
    have hfs44 := fz_ BK421 0
    have hns44_1 := NB439_421.out
    have hms44_1 := NB421_439.out
    have hs46 : w43.cell? ⟨gb421, 1, none⟩ = some (.slice none 0 0) := (blk_cell BK421.out 1).trans rfl
    have hfs46 := fz_ BK421 1
    have hns46_1 := NB439_421.out
    have hms46_1 := NB421_439.out
    refine skip_ (w1 := ?_) (by rfl) rfl ?_ ?_
    rotate_left; · go_simp; rfl
    refine hK.out _ _ ⟨((cell_far (p := ⟨gb421, _, none⟩) NB439_421.out _).trans (((cell_far (p := ⟨gb421, _, none⟩) NB439_421.out _).trans (hHeld.1)))), ((cell_far (p := ⟨gb421, _, none⟩) NB439_421.out _).trans (((cell_far (p := ⟨gb421, _, none⟩) NB439_421.out _).trans (hHeld.2))))⟩ (fun hHeld => ?_)
    clear hK K
    refine done_ (by kernel_rfl) ?_
    try go_wp2
    refine bodyPost_ret (results_tc rfl _ _ gb421 30 #[.int .i64 x440000_7, .slice Ao45 x440001_7.length co45] (0, 0) _ rfl (by refine bd_ ?_; refine blk_put (cs := #[.int .i64 x440000_7, .slice none 0 0]) ?_ 1 _ rfl; refine bd_ ?_; refine blk_put (cs := #[.int .i64 0, .slice none 0 0]) ?_ 0 _ rfl; refine bd_ ?_; exact BK421.out) Try.underlying30 rfl (by kernel_rfl)) rfl ?_
    exact ⟨_, _, by first | rfl | (simp [errW_none, errW_some] <;> rfl) | (simp [*, errW_none, errW_some] <;> rfl), by (with_reducible repeat (first | apply Kd.R_alloc | apply Kd.R_drewN | apply Kd.R_drew)); exact Kd.R_mono (Kd.R_far (p := ⟨gb421, 1, none⟩) (Kd.R_far (p := ⟨gb421, 0, none⟩) (Kd.R_types HO_440001.out BK421.out (by decide)) (fun _ hk => hk.2) (.int .i64 x440000_7)) (fun _ hk => hk.2) (.slice Ao45 x440001_7.length co45)) (fun _ hk => trivial), is115_, bw115_⟩
   subst c28
   rw [if_pos rfl] at H
   replace H := Option.bind_eq_some_iff.mp H
   obtain ⟨⟨t452, t453, t456, t457⟩, A290, H⟩ := H
   have A29 := Aside0.mk A290
   clear A290
   simp only [Option.some.injEq, Prod.mk.injEq] at H
   obtain ⟨rfl, rfl, rfl, rfl, rfl⟩ := H
   try go_wp2_with (first | ((with_reducible refine gate_callee (f := 84) rfl ?_); refine gl_ (some 27) Try.func84 #[.pointer (some ⟨g425, 0, none⟩), .int .i64 20] ?_; (with_reducible refine (spec_l01Once.calls g425 t422 x426001_7 x426002_7 20 true t450 t451 w _ ?side1 ?side2 A27.out).mono ?_); (case side1 => exact is115_); (case side2 => exact bw115_); rintro e w30 ⟨rfl, hi, hb, hk⟩; refine ⟨_, rfl, ?_⟩; replace HO_440001 := ak115_ HO_440001 (show IsS115 w _ g425 t422 x426001_7 x426002_7 from is115_) hk; replace BK421 := kb_ BK421 NB421_425 hk; replace BK439 := kb_ BK439 NB439_425 hk; replace HB := Aside0.mk (hb); replace HI425 := Aside0.mk (hi); (try clear hb); (try clear hb2); (try clear hk); (try clear hi); have hnb31 := NB439_421.out; have hnc31 := NB421_439.out; have hnb32 := NB439_425.out; have hnc32 := NB425_439.out; have hcz33_0 := cz_ BK439 0 (.int .i64 x440000_7); have hcz33_1 := cz_ BK439 1 (u440001); have hfz33_0 := fz_ BK439 0; have hfz33_1 := fz_ BK439 1; obtain ⟨Ao34, co34, eo34⟩ := Kd.R_slice HO_440001.out; subst eo34) | ((with_reducible refine gate_callee (f := 85) rfl ?_); refine gl_ (some 30) Try.func85 #[.pointer (some ⟨g425, 0, none⟩), .agg #[.int .i64 x440000_7, .slice Ao34 x440001_7.length co34]] ?_; (with_reducible refine (spec_l03Bend.calls g425 t422 t450 t451 x440000_7 (fun k_ => some k_ = (.slice Ao34 x440001_7.length co34 : Value).ownBlock) (.slice Ao34 x440001_7.length co34) x440001_7 t452 t453 t456 t457 w _ ?side1 ?side2 ?side3 A29.out).mono ?_); (case side1 => exact is115_); (case side2 => exact bw115_); (case side3 => exact Kd.R_tight rfl HO_440001.out); rintro e w35 ⟨v454, rfl, ho0, hi, hb, hkp⟩; refine ⟨_, rfl, ?_⟩; have HO455 := Aside0.mk (Kd.R_mono (ok' := fun k_ => True) ho0 (fun k_ hk_ => trivial)); replace BK421 := bk_ BK421 hkp (fun hs_ => Or.elim hs_ (fun hs_ => (Kd.R_ne HO_440001.out BK421.out (by decide)) hs_) (fun e_ => NB421_425.out e_)); replace BK439 := bk_ BK439 hkp (fun hs_ => Or.elim hs_ (fun hs_ => (Kd.R_ne HO_440001.out BK439.out (by decide)) hs_) (fun e_ => NB439_425.out e_)); replace HI425 := Aside0.mk (hi); replace HB := Aside0.mk (hb); clear HO_440001; (try clear hb); (try clear hkp); (try clear ho0); have hcz36_0 := cz_ BK439 0 (.int .i64 x440000_7); have hcz36_1 := cz_ BK439 1 (.slice Ao34 x440001_7.length co34); have hfz36_0 := fz_ BK439 0; have hfz36_1 := fz_ BK439 1; obtain ⟨Ao37, co37, eo37⟩ := Kd.R_slice HO455.out; subst eo37))
   have n0_ : Aside0 (Kd.R k76 76 ((w35.setCell ⟨gb439, 0, none⟩ (.int .i64 t452)).setCell ⟨gb439, 1, none⟩ (.slice Ao37 t453.length co37)) w.heap.size (fun _ => True) (.slice Ao37 t453.length co37) t453) := ⟨by (with_reducible repeat (first | apply Kd.R_alloc | apply Kd.R_drewN | apply Kd.R_drew)); exact Kd.R_mono (Kd.R_far (p := ⟨gb439, 1, none⟩) (Kd.R_far (p := ⟨gb439, 0, none⟩) (Kd.R_types HO455.out BK439.out (by decide)) (fun _ hk => hk.2) (.int .i64 t452)) (fun _ hk => hk.2) (.slice Ao37 t453.length co37)) (fun _ hk => trivial)⟩
   have n1_ : Aside0 (((w35.setCell ⟨gb439, 0, none⟩ (.int .i64 t452)).setCell ⟨gb439, 1, none⟩ (.slice Ao37 t453.length co37)).heap[gb421]? = some (.cells #[.int .i64 0, .slice none 0 0] 30 (0, 0))) := ⟨bc_ BK421⟩
   have n2_ : Aside0 (((w35.setCell ⟨gb439, 0, none⟩ (.int .i64 t452)).setCell ⟨gb439, 1, none⟩ (.slice Ao37 t453.length co37)).heap[gb439]? = some (.cells #[.int .i64 t452, .slice Ao37 t453.length co37] 30 (0, 0))) := ⟨by refine bd_ ?_; refine blk_put (cs := #[.int .i64 t452, .slice Ao34 x440001_7.length co34]) ?_ 1 _ rfl; refine bd_ ?_; refine blk_put (cs := #[.int .i64 x440000_7, .slice Ao34 x440001_7.length co34]) ?_ 0 _ rfl; refine bd_ ?_; exact BK439.out⟩
   have n3_ : Aside0 (IsS115 w ((w35.setCell ⟨gb439, 0, none⟩ (.int .i64 t452)).setCell ⟨gb439, 1, none⟩ (.slice Ao37 t453.length co37)) g425 t422 t456 t457) := ⟨is115_⟩
   have n4_ : Aside0 (Below w.heap.size w ((w35.setCell ⟨gb439, 0, none⟩ (.int .i64 t452)).setCell ⟨gb439, 1, none⟩ (.slice Ao37 t453.length co37))) := ⟨bw115_⟩
   (try clear HO455)
   (try clear BK421)
   (try clear BK439)
   (try clear HI425)
   (try clear HB)
   generalize ((w35.setCell ⟨gb439, 0, none⟩ (.int .i64 t452)).setCell ⟨gb439, 1, none⟩ (.slice Ao37 t453.length co37)) = w38 at n0_ n1_ n2_ n3_ n4_ ⊢
   have HO455 := n0_
   have BK421 := n1_
   have BK439 := n2_
   have HI425 := n3_
   have HB := n4_
   clear n0_ n1_ n2_ n3_ n4_
   replace HO455 := Aside0.mk (Kd.R_drew HO455.out)
   replace BK421 := ad_ BK421
   replace BK439 := ad_ BK439
   replace HI425 := Aside0.mk (IsS115.drew HI425.out)
   replace HB := Aside0.mk (below_drew1 HB.out)
   refine start_ (n := 4) (S := fun w' => w'.cell? ⟨gb439, 0, none⟩ = some (.int .i64 t452) ∧ w'.cell? ⟨gb439, 1, none⟩ = some (.slice Ao37 t453.length co37)) (ds := []) ba16_0 (by kernel_rfl) rfl rfl ⟨(blk_cell BK439.out 0).trans rfl, (blk_cell BK439.out 1).trans rfl⟩ (fun hHeld => ?_)
   generalize w38.drew = w39 at HO455 BK421 BK439 HI425 HB hHeld ⊢
   refine pure_ (i := 0) (N := some 31) (v := ?_) (a' := ?_) ba16_1 rfl rfl (by kernel_rfl) (fun _ _ _ h => h) (Or.inl ⟨by rfl, ?_⟩) ?_ ?_
   rotate_left; · intro w'; go_simp; with_reducible rfl
   rotate_left; · simp only [Act.put, List.setIfInBounds_toArray, List.set_cons_zero, List.set_cons_succ, i64_w, i32_w]; rfl
   refine pure_ (i := 2) (N := some 2) (v := ?_) (a' := ?_) ba16_2 rfl rfl (by kernel_rfl) (fun _ _ _ h => h) (Or.inl ⟨by rfl, ?_⟩) ?_ ?_
   rotate_left; · intro w'; go_simp; with_reducible rfl
   rotate_left; · simp only [Act.put, List.setIfInBounds_toArray, List.set_cons_zero, List.set_cons_succ, i64_w, i32_w]; rfl
   refine take_ (i := 1) (N := some 32) (v := ?_) (a' := ?_) ba16_3 rfl rfl (by kernel_rfl) (fun _ _ _ h => h) (Or.inl ⟨by rfl, ?_⟩) hHeld ?_ ?_
   rotate_left; · rintro w' ⟨s0, s1⟩; go_simp; with_reducible rfl
   rotate_left; · simp only [Act.put, List.setIfInBounds_toArray, List.set_cons_zero, List.set_cons_succ, i64_w, i32_w]; rfl
   refine one_ (i := 3) (N := none) ba16_4 rfl rfl (by kernel_rfl) (by decide) (fun K hK => ?_)
   have hs40 : w39.cell? ⟨gb421, 0, none⟩ = some (.int .i64 0) := (blk_cell BK421.out 0).trans rfl
   have hfs40 := fz_ BK421 0
   have hns40_1 := NB439_421.out
   have hms40_1 := NB421_439.out
   have hs41 : w39.cell? ⟨gb421, 1, none⟩ = some (.slice none 0 0) := (blk_cell BK421.out 1).trans rfl
   have hfs41 := fz_ BK421 1
   have hns41_1 := NB439_421.out
   have hms41_1 := NB421_439.out
   refine skip_ (w1 := ?_) (by rfl) rfl ?_ ?_
   rotate_left; · go_simp; rfl
   refine hK.out _ _ ⟨((cell_far (p := ⟨gb421, _, none⟩) NB439_421.out _).trans (((cell_far (p := ⟨gb421, _, none⟩) NB439_421.out _).trans (hHeld.1)))), ((cell_far (p := ⟨gb421, _, none⟩) NB439_421.out _).trans (((cell_far (p := ⟨gb421, _, none⟩) NB439_421.out _).trans (hHeld.2))))⟩ (fun hHeld => ?_)
   clear hK K
   refine done_ (by kernel_rfl) ?_
   try go_wp2
   refine bodyPost_ret (results_tc rfl _ _ gb421 30 #[.int .i64 t452, .slice Ao37 t453.length co37] (0, 0) _ rfl (by refine bd_ ?_; refine blk_put (cs := #[.int .i64 t452, .slice none 0 0]) ?_ 1 _ rfl; refine bd_ ?_; refine blk_put (cs := #[.int .i64 0, .slice none 0 0]) ?_ 0 _ rfl; refine bd_ ?_; exact BK421.out) Try.underlying30 rfl (by kernel_rfl)) rfl ?_
   exact ⟨_, _, by first | rfl | (simp [errW_none, errW_some] <;> rfl) | (simp [*, errW_none, errW_some] <;> rfl), by (with_reducible repeat (first | apply Kd.R_alloc | apply Kd.R_drewN | apply Kd.R_drew)); exact Kd.R_mono (Kd.R_far (p := ⟨gb421, 1, none⟩) (Kd.R_far (p := ⟨gb421, 0, none⟩) (Kd.R_types HO455.out BK421.out (by decide)) (fun _ hk => hk.2) (.int .i64 t452)) (fun _ hk => hk.2) (.slice Ao37 t453.length co37)) (fun _ hk => trivial), is115_, bw115_⟩

/-! ### spec_l03DrawNode: function 66 -/
def spec_l03DrawNode.j0 : Nat → Bool → List Int → Int → Int → Int → List (S76) → Option (Int × Int × Int)
 | 0, _, _, _, _, _, _ => none
 | k + 1, x12, x1000, x1001, x1002, x459000, x459001 => if x12 = true then ((spec_l01Below.f x1000 x1001 x1002 x459000).bind fun bt462 => (some (bt462.1, bt462.2.1, bt462.2.2))) else ((spec_l01PickInt.f x1000 x1001 x1002 (([(-1), x459000, 0] : List Int))).bind fun bt468 => (some (bt468.1, bt468.2.1, bt468.2.2)))
def spec_l03DrawNode.f (k : Nat) (s0_0 : List Int) (s0_1 : Int) (s0_2 : Int) (a1_0 : Int) (l1_1 : List (S76)) : Option (Int × Int × Int) := if a1_0 > 0 then ((spec_l01Once.f s0_0 s0_1 s0_2 15).bind fun bt459 => (spec_l03DrawNode.j0 k (!bt459.1) s0_0 bt459.2.1 bt459.2.2 a1_0 l1_1)) else (spec_l03DrawNode.j0 k false s0_0 s0_1 s0_2 a1_0 l1_1)
theorem spec_l03DrawNode.mono_l : ∀ k, (∀ y0 y1 y2 y3 y4 y5, LeO (spec_l03DrawNode.j0 k y0 y1 y2 y3 y4 y5) (spec_l03DrawNode.j0 (k + 1) y0 y1 y2 y3 y4 y5))
 | 0 => fun _ _ _ _ _ _ r h => by simp [spec_l03DrawNode.j0] at h
 | k + 1 => by
  have ih0 := spec_l03DrawNode.mono_l k
  ·intro y0 y1 y2 y3 y4 y5
   unfold spec_l03DrawNode.j0
   repeat' first | (with_reducible first | exact ih0 _ _ _ _ _ _ | exact LeO.refl _ | exact LeO.none _ | refine LeO.ite ?_ ?_ | refine LeO.bind ?_ (fun _ => ?_)) | exact ih0 _ _ _ _ _ _ | exact LeO.none _ | refine LeO.ite ?_ ?_ | refine LeO.bind ?_ (fun _ => ?_)
theorem spec_l03DrawNode.mono : ∀ a0 a1 a2 a3 a4 k, LeO (spec_l03DrawNode.f k a0 a1 a2 a3 a4) (spec_l03DrawNode.f (k + 1) a0 a1 a2 a3 a4) := by
 intro a0 a1 a2 a3 a4 k
 have ih0 := spec_l03DrawNode.mono_l k
 unfold spec_l03DrawNode.f
 repeat' first | (with_reducible first | exact ih0 _ _ _ _ _ _ | exact LeO.refl _ | exact LeO.none _ | refine LeO.ite ?_ ?_ | refine LeO.bind ?_ (fun _ => ?_)) | exact ih0 _ _ _ _ _ _ | exact LeO.none _ | refine LeO.ite ?_ ?_ | refine LeO.bind ?_ (fun _ => ?_)
set_option maxHeartbeats 8000000 in
set_option maxRecDepth 100000 in
theorem spec_l03DrawNode.calls (k : Nat) (g : Nat) (s0_0 : List Int) (s0_1 : Int) (s0_2 : Int) (a1_0 : Int) (A1_1 : Option Addr) (c1_1 : Nat) (l1_1 : List (S76)) (r1 : Int) (r2 : Int) (r3 : Int) (w0 w : World) (hI : IsS115 w0 w g s0_0 s0_1 s0_2) (hB : Below w0.heap.size w0 w) (hr1_1 : ∀ W_, KeepBut w W_ g none → Kd.C k76 W_ A1_1 l1_1.length l1_1) (hc1_1 : l1_1.length ≤ c1_1) (h : spec_l03DrawNode.f k s0_0 s0_1 s0_2 a1_0 l1_1 = some (r1, r2, r3)) :
  Calls Try.prog 66 #[.pointer (some ⟨g, 0, none⟩), .agg #[.int .i64 a1_0, .slice A1_1 l1_1.length c1_1]] w fun e w' => e = .returned (.int .i64 r1) ∧ IsS115 w0 w' g s0_0 r2 r3 ∧ Below w0.heap.size w0 w' ∧ KeepBut w w' g none := by
 have hu30 := Try.underlying30
 have HR1_1 := Aside0.mk hr1_1
 have HC1_1 := Aside0.mk hc1_1
 clear hr1_1 hc1_1
 have HI0 := Aside0.mk hI
 have HK := Aside0.mk (KeepBut.refl w g none)
 have HL := Aside0.mk hB.size
 clear hI
 have HW0 := Aside0.mk hB.size
 have HB := Aside0.mk hB
 clear hB
 have H : (if a1_0 > 0 then ((spec_l01Once.f s0_0 s0_1 s0_2 15).bind fun bt459 => (spec_l03DrawNode.j0 k (!bt459.1) s0_0 bt459.2.1 bt459.2.2 a1_0 l1_1)) else (spec_l03DrawNode.j0 k false s0_0 s0_1 s0_2 a1_0 l1_1)) = some (r1, r2, r3) := h
 clear h
 have HC3 := Aside0.mk H
 clear H
 go_enter Try.func66, Try.ntmps66
 go_upto_region 1 with ((with_reducible refine gate_dst (N := 3) rfl ?_); refine box_event ?hg (N := 3) ?hd (cs := #[.int .i64 a1_0, .slice A1_1 l1_1.length c1_1]) (t := 30) ?hr ?_; (case hd => rfl); (case hg => rfl); (case hr => first | (go_simp; done) | (go_simp; rfl)); intro gb458 hg w4 hbox hb; have BK458 := Aside0.mk hbox; have GW458 := gw_ HK hg; have GE458 := gv_ HW0 HK hg; have NB0_458 := Aside0.mk ((by rw [hg]; exact Nat.ne_of_lt (IsS115.lt (show IsS115 w0 _ g s0_0 s0_1 s0_2 from is115_)) : g ≠ gb458)); have NB458_0 := Aside0.mk ((by rw [hg]; exact Nat.ne_of_gt (IsS115.lt (show IsS115 w0 _ g s0_0 s0_1 s0_2 from is115_)) : gb458 ≠ g)); replace HB := bs115_ hb; replace HK := kt_ HK (KeepBut.of_below hb g none); replace HI0 := Aside0.mk (IsS115.below is115_ hb); clear hb hbox hg)
 (try simp only [Act.put, List.setIfInBounds_toArray, List.set_cons_zero, List.set_cons_succ])
 go_cut [12] (fun v12 wc => ∃ (kq : Nat) (x12_2 : Bool) (x1001_2 : Int) (x1002_2 : Int), v12 = .bool x12_2 ∧ Aside0 (spec_l03DrawNode.j0 kq x12_2 s0_0 x1001_2 x1002_2 a1_0 l1_1 = some (r1, r2, r3)) ∧ Aside0 (kq ≤ k) ∧ Aside0 (wc.heap[gb458]? = some (.cells #[.int .i64 a1_0, (.slice A1_1 l1_1.length c1_1)] 30 (0, 0))) ∧ Aside0 (IsS115 w0 wc g s0_0 x1001_2 x1002_2) ∧ Aside0 (KeepBut w wc g none) ∧ Aside0 (Below w0.heap.size w0 wc))
 case first =>
  have H := HC3.out
  clear HC3
  by_cases c5 : a1_0 > 0
  rotate_left
  ·rw [if_neg c5] at H
   have c5b0 : decide (0 < a1_0) = false := decide_eq_false c5
   clear c5
   (first | rw [c5b0] | (simp only [i64_w, i32_w]; rw [c5b0]) | skip)
   have H' := Aside0.mk H
   clear H
   have hnb10 := NB458_0.out
   have hnc10 := NB0_458.out
   have hcz11_0 := cz_ BK458 0 (.int .i64 a1_0)
   have hcz11_1 := cz_ BK458 1 (.slice A1_1 l1_1.length c1_1)
   have hfz11_0 := fz_ BK458 0
   have hfz11_1 := fz_ BK458 1
   go_wp2
   go_meet
   case rel => exact ⟨_, (false), (s0_1), (s0_2), er_, H', ⟨by first | omega | exact Nat.le_refl _⟩, ⟨bx_ BK458⟩, ⟨is115_⟩, ⟨kx_ HK⟩, ⟨bw115_⟩⟩
  rw [if_pos c5] at H
  have c5b0 : decide (0 < a1_0) = true := decide_eq_true c5
  clear c5
  (first | rw [c5b0] | (simp only [i64_w, i32_w]; rw [c5b0]) | skip)
  replace H := Option.bind_eq_some_iff.mp H
  obtain ⟨⟨t459, t460, t461⟩, A60, H⟩ := H
  have A6 := Aside0.mk A60
  clear A60
  have H' := Aside0.mk H
  clear H
  have hnb7 := NB458_0.out
  have hnc7 := NB0_458.out
  have hcz8_0 := cz_ BK458 0 (.int .i64 a1_0)
  have hcz8_1 := cz_ BK458 1 (.slice A1_1 l1_1.length c1_1)
  have hfz8_0 := fz_ BK458 0
  have hfz8_1 := fz_ BK458 1
  go_wp2_with (go_at_call 84; (with_reducible refine (spec_l01Once.calls g s0_0 s0_1 s0_2 15 t459 t460 t461 w0 _ ?side1 ?side2 A6.out).mono ?_); (case side1 => exact is115_); (case side2 => exact bw115_); rintro e w9 ⟨rfl, hi, hb, hk⟩; replace BK458 := kb_ BK458 NB458_0 hk; replace HK := kt_ HK hk; replace HB := Aside0.mk (hb); replace HI0 := Aside0.mk (hi); (try clear hb); (try clear hb2); (try clear hk); (try clear hi))
  go_meet
  case rel => exact ⟨_, (!t459), (t460), (t461), er_, H', ⟨by first | omega | exact Nat.le_refl _⟩, ⟨bx_ BK458⟩, ⟨is115_⟩, ⟨kx_ HK⟩, ⟨bw115_⟩⟩
 case rest =>
  clear HC3
  try clear c1
  try clear p2
  try clear c5
  try clear c5b0
  try clear c6
  try clear c7
  try clear c10
  try clear hcz11_0
  try clear hcz11_1
  try clear hcz8_0
  try clear hcz8_1
  try clear hfz11_0
  try clear hfz11_1
  try clear hfz8_0
  try clear hfz8_1
  obtain ⟨kq, x12_2, x1001_2, x1002_2, rfl, HA, HJ2, BK458, HI0, HK, HB⟩ := hcut
  cases kq with
  | zero => exact absurd HA.out (by simp [spec_l03DrawNode.j0])
  | succ kj2 =>
   have H := HA.out
   clear HA
   simp only [spec_l03DrawNode.j0] at H
   by_cases c12 : x12_2 = true
   ·subst c12
    rw [if_pos rfl] at H
    replace H := Option.bind_eq_some_iff.mp H
    obtain ⟨⟨t462, t463, t464⟩, A130, H⟩ := H
    have A13 := Aside0.mk A130
    clear A130
    simp only [Option.some.injEq, Prod.mk.injEq] at H
    obtain ⟨rfl, rfl, rfl⟩ := H
    have hnb14 := NB458_0.out
    have hnc14 := NB0_458.out
    have hcz15_0 := cz_ BK458 0 (.int .i64 a1_0)
    have hcz15_1 := cz_ BK458 1 (.slice A1_1 l1_1.length c1_1)
    have hfz15_0 := fz_ BK458 0
    have hfz15_1 := fz_ BK458 1
    go_wp2_with ((with_reducible refine gate_callee (f := 68) rfl ?_); refine gl_ (some 16) Try.func68 #[.pointer (some ⟨g, 0, none⟩), .int .i64 a1_0] ?_; (with_reducible refine (spec_l01Below.calls g s0_0 x1001_2 x1002_2 a1_0 t462 t463 t464 w0 _ ?side1 ?side2 A13.out).mono ?_); (case side1 => exact is115_); (case side2 => exact bw115_); rintro e w16 ⟨rfl, hi, hb, hk⟩; refine ⟨_, rfl, ?_⟩; replace BK458 := kb_ BK458 NB458_0 hk; replace HK := kt_ HK hk; replace HB := Aside0.mk (hb); replace HI0 := Aside0.mk (hi); (try clear hb); (try clear hb2); (try clear hk); (try clear hi))
    go_ret
    exact ⟨by first | rfl | (simp [errW_none, errW_some] <;> rfl) | (simp [*, errW_none, errW_some] <;> rfl), is115_, bw115_, kx_ HK⟩
   replace c12 := Bool.eq_false_iff.mpr c12
   subst c12
   rw [if_neg (show ¬ (false = true) by decide)] at H
   obtain ⟨y465, hy465⟩ : ∃ y_ : List Int, y_ = (([(-1), a1_0, 0] : List Int)) := ⟨_, rfl⟩
   replace H : ((spec_l01PickInt.f s0_0 x1001_2 x1002_2 y465).bind fun bt468 => (some (bt468.1, bt468.2.1, bt468.2.2))) = some (r1, r2, r3) := by first | (rw [hy465]; with_reducible exact H) | (have H2_ := (Option.bind_some _ _).symm.trans H; rw [hy465]; with_reducible exact H2_) | (have H2_ := (Option.bind_some _ _).symm.trans H; with_reducible exact H2_) | with_reducible exact H | (rw [hy465]; exact H) | exact H
   have Ny465 := Aside0.mk hy465
   clear hy465
   replace H := Option.bind_eq_some_iff.mp H
   obtain ⟨⟨t468, t469, t470⟩, A170, H⟩ := H
   have A17 := Aside0.mk A170
   clear A170
   simp only [Option.some.injEq, Prod.mk.injEq] at H
   obtain ⟨rfl, rfl, rfl⟩ := H
   have hnb18 := NB458_0.out
   have hnc18 := NB0_458.out
   have hcz19_0 := cz_ BK458 0 (.int .i64 a1_0)
   have hcz19_1 := cz_ BK458 1 (.slice A1_1 l1_1.length c1_1)
   have hfz19_0 := fz_ BK458 0
   have hfz19_1 := fz_ BK458 1
   go_wp2_with (first | ((with_reducible refine gate_dst (N := 20) rfl ?_); refine Kd.R_lit (Kd.int .i64) _ 3 ?hg (N := 20) ?hd (xs := ([(-1), a1_0, 0] : List Int)) (inner := [.int .i64 (-1), .int .i64 a1_0, .int .i64 0]) (ok := fun _ => True) (okp := fun _ => True) ?hr ?hp (fun _ hk => hk) trivial (Below.refl _ _) (Nat.le_refl _) (by simp) ?_; (case hd => rfl); (case hg => rfl); (case hr => first | (go_simp; done) | (go_simp; rfl)); (case hp => exact (Reps.one (show Kd.M (Kd.int .i64) _ _ _ (-1) [.int .i64 (-1)] from rfl) (Reps.one (show Kd.M (Kd.int .i64) _ _ _ a1_0 [.int .i64 a1_0] from rfl) (Reps.one (show Kd.M (Kd.int .i64) _ _ _ 0 [.int .i64 0] from rfl) (Reps.none _ _))))); intro v466 w20 ho21 hb hg_ hnew_; clear hg_ hnew_; (first | rw [← Ny465.out] at ho21 | (simp only [Int.reduceToNat] at ho21; rw [← Ny465.out] at ho21)); have HO467 := Aside0.mk (Kd.R_lower ho21 (keep_size (w := w) (g := g) (row := none) (kx_ HK))); replace BK458 := ab_ BK458 hb; replace HK := kt_ HK (KeepBut.of_below hb g none); replace HB := bs115_ hb; replace HI0 := Aside0.mk (IsS115.below is115_ hb); clear hb ho21; obtain ⟨Ao22, co22, eo22⟩ := Kd.R_slice HO467.out; subst eo22) | ((with_reducible refine gate_callee (f := 67) rfl ?_); refine gl_ (some 21) Try.func67 #[.pointer (some ⟨g, 0, none⟩), .slice Ao22 y465.length co22] ?_; (with_reducible refine (spec_l01PickInt.calls g s0_0 x1001_2 x1002_2 _ _ y465 t468 t469 t470 w0 _ ?side1 ?side2 ?side3 ?side4 ?side5 A17.out).mono ?_); (case side1 => exact is115_); (case side2 => exact bw115_); (case side3 => exact rc_ HO467); (case side4 => exact (Kd.R_reads' HO467.out).2.1); (case side5 => exact far_slice (IsS115.own_ne HI0.out HO467.out (by decide))); rintro e w23 ⟨rfl, hi, hb, hk⟩; refine ⟨_, rfl, ?_⟩; replace BK458 := kb_ BK458 NB458_0 hk; replace HO467 := ak115_ HO467 (show IsS115 w0 _ g s0_0 x1001_2 x1002_2 from is115_) hk; replace HK := kt_ HK hk; replace HB := Aside0.mk (hb); replace HI0 := Aside0.mk (hi); (try clear hb); (try clear hb2); (try clear hk); (try clear hi)))
   go_ret
   exact ⟨by first | rfl | (simp [errW_none, errW_some] <;> rfl) | (simp [*, errW_none, errW_some] <;> rfl), is115_, bw115_, kx_ HK⟩

/-! ### spec_DrawShares: function 36 -/
def spec_DrawShares.f (k : Nat) (l0 : List Int) : Option (Int × (List (S76)) × Int × Int × Int) := (spec_l03Draw.f k l0).bind fun bt476 => ((spec_l03DrawNode.f k bt476.2.2.1 bt476.2.2.2.1 bt476.2.2.2.2 bt476.1 bt476.2.1).bind fun bt481 => ((spec_l03DrawNode.f k bt476.2.2.1 bt481.2.1 bt481.2.2 bt476.1 bt476.2.1).bind fun bt484 => ((spec_l01Below.f bt476.2.2.1 bt484.2.1 bt484.2.2 1000).bind fun bt487 => ((spec_l01PickInt.f bt476.2.2.1 bt487.2.1 bt487.2.2 (([1, 2, 7, wrap64 (1 + bt487.1), 100000, 100001, 0] : List Int))).bind fun bt493 => (some (bt476.1, bt476.2.1, bt481.1, bt484.1, bt493.1))))))
theorem spec_DrawShares.mono : ∀ a0 k, LeO (spec_DrawShares.f k a0) (spec_DrawShares.f (k + 1) a0) := by
 intro a0 k
 unfold spec_DrawShares.f
 repeat' first | (with_reducible first | exact spec_l03Draw.mono _ _ | exact spec_l03DrawNode.mono _ _ _ _ _ _ | exact LeO.refl _ | exact LeO.none _ | refine LeO.ite ?_ ?_ | refine LeO.bind ?_ (fun _ => ?_)) | exact spec_l03Draw.mono _ _ | exact spec_l03DrawNode.mono _ _ _ _ _ _ | exact LeO.none _ | refine LeO.ite ?_ ?_ | refine LeO.bind ?_ (fun _ => ?_)
def spec_DrawShares.T2 : Bool × List (List Nat × List Nat) := (true, [([], []), ([], []), ([], []), ([1, 2], [1, 2]), ([], []), ([], []), ([4, 5, 3], [4, 5]), ([], []), ([], []), ([8, 6], [8]), ([9], [9]), ([10], [10]), ([7, 11, 9], [7, 11]), ([0, 12, 0], [0]), ([3, 13, 0, 1, 2, 3, 13], [3]), ([6, 14, 0, 1, 2, 3, 4, 5, 6, 13, 14], [6]), ([12, 15, 0, 1, 2, 3, 4, 5, 6, 7, 8, 9, 10, 11, 12, 13, 14, 15], [12])])
def spec_DrawShares.B2 : List Nat := [0, 0, 0, 6, 0, 0, 62, 0, 0, 382, 894, 1918, 4094, 8191, 16383, 32767, 65535]
theorem spec_DrawShares.tab2 : rtab .any (opsOf Try.f36 2) = spec_DrawShares.T2 := by kernel_rfl
theorem spec_DrawShares.bits2 : waitsOk spec_DrawShares.T2.2 spec_DrawShares.B2 = true := by kernel_rfl
set_option maxHeartbeats 8000000 in
set_option maxRecDepth 100000 in
theorem spec_DrawShares.calls (k : Nat) (A0 : Option Addr) (c0 : Nat) (l0 : List Int) (r1 : Int) (r2 : List (S76)) (r3 : Int) (r4 : Int) (r5 : Int) (w : World) (hr0 : Kd.C (Kd.int .u8) w A0 l0.length l0) (hc0 : l0.length ≤ c0) (h : spec_DrawShares.f k l0 = some (r1, r2, r3, r4, r5)) :
  Calls Try.prog 36 #[.slice A0 l0.length c0] w fun e w' => ∃ v1_ : Value, e = .returned (.tuple #[.agg #[.int .i64 r1, v1_], .int .i64 r3, .int .i64 r4, .int .i64 r5]) ∧ Kd.R k76 76 w' w.heap.size (fun _ => True) v1_ r2 ∧ Below w.heap.size w w' := by
 have hu30 := Try.underlying30
 have HR0 := Aside0.mk hr0
 have HC0 := Aside0.mk hc0
 clear hr0 hc0
 have HB := Aside0.mk (Below.refl w.heap.size w)
 have H : ((spec_l03Draw.f k l0).bind fun bt476 => ((spec_l03DrawNode.f k bt476.2.2.1 bt476.2.2.2.1 bt476.2.2.2.2 bt476.1 bt476.2.1).bind fun bt481 => ((spec_l03DrawNode.f k bt476.2.2.1 bt481.2.1 bt481.2.2 bt476.1 bt476.2.1).bind fun bt484 => ((spec_l01Below.f bt476.2.2.1 bt484.2.1 bt484.2.2 1000).bind fun bt487 => ((spec_l01PickInt.f bt476.2.2.1 bt487.2.1 bt487.2.2 (([1, 2, 7, wrap64 (1 + bt487.1), 100000, 100001, 0] : List Int))).bind fun bt493 => (some (bt476.1, bt476.2.1, bt481.1, bt484.1, bt493.1))))))) = some (r1, r2, r3, r4, r5) := h
 clear h
 replace H := Option.bind_eq_some_iff.mp H
 obtain ⟨⟨t476, t477, t472, t473, t474⟩, A20, H⟩ := H
 have A2 := Aside0.mk A20
 clear A20
 replace H := Option.bind_eq_some_iff.mp H
 obtain ⟨⟨t481, t482, t483⟩, A30, H⟩ := H
 have A3 := Aside0.mk A30
 clear A30
 replace H := Option.bind_eq_some_iff.mp H
 obtain ⟨⟨t484, t485, t486⟩, A40, H⟩ := H
 have A4 := Aside0.mk A40
 clear A40
 replace H := Option.bind_eq_some_iff.mp H
 obtain ⟨⟨t487, t488, t489⟩, A50, H⟩ := H
 have A5 := Aside0.mk A50
 clear A50
 obtain ⟨y490, hy490⟩ : ∃ y_ : List Int, y_ = (([1, 2, 7, wrap64 (1 + t487), 100000, 100001, 0] : List Int)) := ⟨_, rfl⟩
 replace H : ((spec_l01PickInt.f t472 t488 t489 y490).bind fun bt493 => (some (t476, t477, t481, t484, bt493.1))) = some (r1, r2, r3, r4, r5) := by first | (rw [hy490]; with_reducible exact H) | (have H2_ := (Option.bind_some _ _).symm.trans H; rw [hy490]; with_reducible exact H2_) | (have H2_ := (Option.bind_some _ _).symm.trans H; with_reducible exact H2_) | with_reducible exact H | (rw [hy490]; exact H) | exact H
 have Ny490 := Aside0.mk hy490
 clear hy490
 replace H := Option.bind_eq_some_iff.mp H
 obtain ⟨⟨t493, t494, t495⟩, A60, H⟩ := H
 have A6 := Aside0.mk A60
 clear A60
 simp only [Option.some.injEq, Prod.mk.injEq] at H
 obtain ⟨rfl, rfl, rfl, rfl, rfl⟩ := H
 go_enter Try.func36, Try.ntmps36
 try go_wp2_with (first | ((with_reducible refine gate_dst (N := 2) rfl ?_); refine box_ev2 ?hg (N := 2) ?hd (cs := #[.int .i64 0, .slice none 0 0]) (t := 30) ?hr ?_; (case hd => rfl); (case hg => rfl); (case hr => first | (go_simp; done) | (go_simp; rfl)); intro gb471 hg w7 hbox hb hz_; have HZ := Aside0.mk (show w7.heap.size = w.heap.size + 1 from by rw [hz_, hg] <;> rfl); clear hz_; have BK471 := Aside0.mk hbox; have GW471 := ge_ HB hg; have GE471 := ge_ HB hg; replace HB := at_ HB hb; clear hb hbox hg) | ((with_reducible refine gate_callee (f := 65) rfl ?_); refine gl_ (some 10) Try.func65 #[.slice A0 l0.length c0] ?_; (with_reducible refine (spec_l03Draw.calls k _ _ l0 t476 t477 t472 t473 t474 _ ?side1 ?side2 A2.out).mono ?_); (case side1 => exact cb_ HR0 HB); (case side2 => exact HC0.out); rintro e w8 ⟨v478, g475, rfl, ho0, hi, hb⟩; refine ⟨_, rfl, ?_⟩; have HO479 := Aside0.mk (Kd.R_lower ho0 (bz_ HB)); have HI475 := Aside0.mk (IsS115.low hi HB HZ GW471 BK471); have NB475_471 := Aside0.mk (IsS115.ne_blk hi (bb_ BK471 hb) (by decide)); have NB471_475 := Aside0.mk (Ne.symm (IsS115.ne_blk hi (bb_ BK471 hb) (by decide))); replace HB := at_ HB hb; replace BK471 := ab_ BK471 hb; (try clear hb); (try clear hb2); (try clear hk); (try clear hi); (try clear ho0)) | ((with_reducible refine gate_dst (N := 7) rfl ?_); refine box_event ?hg (N := 7) ?hd (cs := #[.int .i64 0, .slice none 0 0]) (t := 30) ?hr ?_; (case hd => rfl); (case hg => rfl); (case hr => first | (go_simp; done) | (go_simp; rfl)); intro gb480 hg w9 hbox hb; have BK480 := Aside0.mk hbox; have GW480 := Aside0.mk ((by rw [hg]; exact (below_size (bw115_)) : w.heap.size ≤ gb480)); have GE480 := Aside0.mk ((by rw [hg]; exact (below_size (bw115_)) : w.heap.size ≤ gb480)); have NB471_480 := nl_ BK471 hg; have NB480_471 := ng_ BK471 hg; have NB475_480 := Aside0.mk ((by rw [hg]; exact Nat.ne_of_lt (IsS115.lt (show IsS115 w _ g475 t472 t473 t474 from is115_)) : g475 ≠ gb480)); have NB480_475 := Aside0.mk ((by rw [hg]; exact Nat.ne_of_gt (IsS115.lt (show IsS115 w _ g475 t472 t473 t474 from is115_)) : gb480 ≠ g475)); replace HO479 := rb_ HO479 hb; replace HB := bs115_ hb; replace BK471 := ab_ BK471 hb; replace HI475 := Aside0.mk (IsS115.below is115_ hb); clear hb hbox hg; have hnb10 := NB480_471.out; have hnc10 := NB471_480.out; have hnb11 := NB480_475.out; have hnc11 := NB475_480.out; have hcz12_0 := cz_ BK480 0 (.int .i64 0); have hcz12_1 := cz_ BK480 1 (.slice none 0 0); have hfz12_0 := fz_ BK480 0; have hfz12_1 := fz_ BK480 1; obtain ⟨Ao13, co13, eo13⟩ := Kd.R_slice HO479.out; subst eo13))
 have n0_ : Aside0 (Kd.R k76 76 ((w9.setCell ⟨gb480, 0, none⟩ (.int .i64 t476)).setCell ⟨gb480, 1, none⟩ (.slice Ao13 t477.length co13)) w.heap.size (fun _ => True) (.slice Ao13 t477.length co13) t477) := ⟨by (with_reducible repeat (first | apply Kd.R_alloc | apply Kd.R_drewN | apply Kd.R_drew)); exact Kd.R_mono (Kd.R_far (p := ⟨gb480, 1, none⟩) (Kd.R_far (p := ⟨gb480, 0, none⟩) (Kd.R_types HO479.out BK480.out (by decide)) (fun _ hk => hk.2) (.int .i64 t476)) (fun _ hk => hk.2) (.slice Ao13 t477.length co13)) (fun _ hk => trivial)⟩
 have n1_ : Aside0 (((w9.setCell ⟨gb480, 0, none⟩ (.int .i64 t476)).setCell ⟨gb480, 1, none⟩ (.slice Ao13 t477.length co13)).heap[gb471]? = some (.cells #[.int .i64 0, .slice none 0 0] 30 (0, 0))) := ⟨bc_ BK471⟩
 have n2_ : Aside0 (((w9.setCell ⟨gb480, 0, none⟩ (.int .i64 t476)).setCell ⟨gb480, 1, none⟩ (.slice Ao13 t477.length co13)).heap[gb480]? = some (.cells #[.int .i64 t476, .slice Ao13 t477.length co13] 30 (0, 0))) := ⟨by refine bd_ ?_; refine blk_put (cs := #[.int .i64 t476, .slice none 0 0]) ?_ 1 _ rfl; refine bd_ ?_; refine blk_put (cs := #[.int .i64 0, .slice none 0 0]) ?_ 0 _ rfl; refine bd_ ?_; exact BK480.out⟩
 have n3_ : Aside0 (IsS115 w ((w9.setCell ⟨gb480, 0, none⟩ (.int .i64 t476)).setCell ⟨gb480, 1, none⟩ (.slice Ao13 t477.length co13)) g475 t472 t473 t474) := ⟨is115_⟩
 have n4_ : Aside0 (Below w.heap.size w ((w9.setCell ⟨gb480, 0, none⟩ (.int .i64 t476)).setCell ⟨gb480, 1, none⟩ (.slice Ao13 t477.length co13))) := ⟨bw115_⟩
 (try clear HO479)
 (try clear BK471)
 (try clear BK480)
 (try clear HI475)
 (try clear HB)
 generalize ((w9.setCell ⟨gb480, 0, none⟩ (.int .i64 t476)).setCell ⟨gb480, 1, none⟩ (.slice Ao13 t477.length co13)) = w14 at n0_ n1_ n2_ n3_ n4_ ⊢
 have HO479 := n0_
 have BK471 := n1_
 have BK480 := n2_
 have HI475 := n3_
 have HB := n4_
 clear n0_ n1_ n2_ n3_ n4_
 replace HO479 := Aside0.mk (Kd.R_drew HO479.out)
 replace BK471 := ad_ BK471
 replace BK480 := ad_ BK480
 replace HI475 := Aside0.mk (IsS115.drew HI475.out)
 replace HB := Aside0.mk (below_drew1 HB.out)
 refine start_ (n := 17) (S := fun w' => w'.cell? ⟨gb480, 0, none⟩ = some (.int .i64 t476) ∧ w'.cell? ⟨gb480, 1, none⟩ = some (.slice Ao13 t477.length co13)) (ds := []) ba16_5 (by kernel_rfl) rfl rfl ⟨(blk_cell BK480.out 0).trans rfl, (blk_cell BK480.out 1).trans rfl⟩ (fun hHeld => ?_); refine with_tabW spec_DrawShares.tab2 spec_DrawShares.bits2 (fun HT_ HW_ => ?_)
 generalize w14.drew = w15 at HO479 BK471 BK480 HI475 HB hHeld ⊢
 refine pz_ 1 14 ba16_6 HT_ ?_
 refine pz_ 4 17 ba16_7 HT_ ?_
 refine pz_ 7 20 ba16_8 HT_ ?_
 refine pz_ 8 21 ba16_9 HT_ ?_
 refine pt_ 0 13 ba16_10 HT_ HW_ hHeld ?_
 refine pt_ 2 15 ba16_11 HT_ HW_ hHeld ?_
 refine pt_ 5 18 ba16_12 HT_ HW_ hHeld ?_
 refine one_ (i := 3) (N := some 16) ba16_13 rfl rfl (one_of HT_.out (by kernel_rfl)) (by decide) (fun K hK => ?_)
 refine gz_ Try.func66 #[.pointer (some ⟨g475, 0, none⟩), .agg #[.int .i64 t476, .slice Ao13 t477.length co13]] ?_
 with_reducible refine (spec_l03DrawNode.calls k g475 t472 t473 t474 t476 _ _ t477 t481 t482 t483 w _ ?side1 ?side2 ?side3 ?side4 A3.out).mono ?_
 (case side1 => exact is115_)
 (case side2 => exact bw115_)
 (case side3 => exact Kd.C_foot_own (IsS115.apart (show IsS115 w _ g475 t472 t473 t474 from is115_) (hd_ HO479) (by decide)) (fun _ h_ => h_.2))
 (case side4 => exact (Kd.R_reads' HO479.out).2.1)
 rintro e w16 ⟨rfl, hi, hb, hk⟩
 refine ⟨_, rfl, ?_⟩
 replace BK471 := kb_ BK471 NB471_475 hk
 replace HO479 := ak115_ HO479 (show IsS115 w _ g475 t472 t473 t474 from is115_) hk
 replace BK480 := kb_ BK480 NB480_475 hk
 replace HB := Aside0.mk (hb)
 replace HI475 := Aside0.mk (hi)
 (try clear hb)
 (try clear hb2)
 (try clear hk)
 (try clear hi)
 refine hK.out _ _ ⟨(blk_cell BK480.out 0).trans rfl, (blk_cell BK480.out 1).trans rfl⟩ (fun hHeld => ?_)
 clear hK K
 refine nz_ 16 ?_
 refine one_ (i := 6) (N := some 19) ba16_14 rfl rfl (one_of HT_.out (by kernel_rfl)) (by decide) (fun K hK => ?_)
 refine gz_ Try.func66 #[.pointer (some ⟨g475, 0, none⟩), .agg #[.int .i64 t476, .slice Ao13 t477.length co13]] ?_
 with_reducible refine (spec_l03DrawNode.calls k g475 t472 t482 t483 t476 _ _ t477 t484 t485 t486 w _ ?side1 ?side2 ?side3 ?side4 A4.out).mono ?_
 (case side1 => exact is115_)
 (case side2 => exact bw115_)
 (case side3 => exact Kd.C_foot_own (IsS115.apart (show IsS115 w _ g475 t472 t482 t483 from is115_) (hd_ HO479) (by decide)) (fun _ h_ => h_.2))
 (case side4 => exact (Kd.R_reads' HO479.out).2.1)
 rintro e w17 ⟨rfl, hi, hb, hk⟩
 refine ⟨_, rfl, ?_⟩
 replace BK471 := kb_ BK471 NB471_475 hk
 replace HO479 := ak115_ HO479 (show IsS115 w _ g475 t472 t482 t483 from is115_) hk
 replace BK480 := kb_ BK480 NB480_475 hk
 replace HB := Aside0.mk (hb)
 replace HI475 := Aside0.mk (hi)
 (try clear hb)
 (try clear hb2)
 (try clear hk)
 (try clear hi)
 refine hK.out _ _ ⟨(blk_cell BK480.out 0).trans rfl, (blk_cell BK480.out 1).trans rfl⟩ (fun hHeld => ?_)
 clear hK K
 refine nz_ 19 ?_
 refine one_ (i := 9) (N := some 22) ba16_15 rfl rfl (one_of HT_.out (by kernel_rfl)) (by decide) (fun K hK => ?_)
 refine gz_ Try.func68 #[.pointer (some ⟨g475, 0, none⟩), .int .i64 1000] ?_
 with_reducible refine (spec_l01Below.calls g475 t472 t485 t486 1000 t487 t488 t489 w _ ?side1 ?side2 A5.out).mono ?_
 (case side1 => exact is115_)
 (case side2 => exact bw115_)
 rintro e w18 ⟨rfl, hi, hb, hk⟩
 refine ⟨_, rfl, ?_⟩
 replace BK471 := kb_ BK471 NB471_475 hk
 replace HO479 := ak115_ HO479 (show IsS115 w _ g475 t472 t485 t486 from is115_) hk
 replace BK480 := kb_ BK480 NB480_475 hk
 replace HB := Aside0.mk (hb)
 replace HI475 := Aside0.mk (hi)
 (try clear hb)
 (try clear hb2)
 (try clear hk)
 (try clear hi)
 refine hK.out _ _ ⟨(blk_cell BK480.out 0).trans rfl, (blk_cell BK480.out 1).trans rfl⟩ (fun hHeld => ?_)
 clear hK K
 refine nz_ 22 ?_
 refine pz_ 10 23 ba16_16 HT_ ?_
 refine one_ (i := 11) (N := some 24) ba16_17 rfl rfl (one_of HT_.out (by kernel_rfl)) (by decide) (fun K hK => ?_)
 refine Kd.R_lit_step (Kd.int .i64) _ 3 ?hg (N := 24) ?hd (xs := ([1, 2, 7, wrap64 (1 + t487), 100000, 100001, 0] : List Int)) (inner := [.int .i64 1, .int .i64 2, .int .i64 7, .int .i64 (wrap64 (1 + t487)), .int .i64 100000, .int .i64 100001, .int .i64 0]) (ok := fun _ => True) (okp := fun _ => True) ?hr ?hp (fun _ hk => hk) trivial (Below.refl _ _) (Nat.le_refl _) (by simp) ?_; (case hd => rfl); (case hg => rfl); (case hr => first | (go_simp; done) | (go_simp; rfl)); (case hp => exact (Reps.one (show Kd.M (Kd.int .i64) _ _ _ 1 [.int .i64 1] from rfl) (Reps.one (show Kd.M (Kd.int .i64) _ _ _ 2 [.int .i64 2] from rfl) (Reps.one (show Kd.M (Kd.int .i64) _ _ _ 7 [.int .i64 7] from rfl) (Reps.one (show Kd.M (Kd.int .i64) _ _ _ (wrap64 (1 + t487)) [.int .i64 (wrap64 (1 + t487))] from rfl) (Reps.one (show Kd.M (Kd.int .i64) _ _ _ 100000 [.int .i64 100000] from rfl) (Reps.one (show Kd.M (Kd.int .i64) _ _ _ 100001 [.int .i64 100001] from rfl) (Reps.one (show Kd.M (Kd.int .i64) _ _ _ 0 [.int .i64 0] from rfl) (Reps.none _ _)))))))))
 intro v491 w19 ho20 hb hg_ hnew_
 clear hg_ hnew_
 (first | rw [← Ny490.out] at ho20 | (simp only [Int.reduceToNat] at ho20; rw [← Ny490.out] at ho20))
 have HO492 := Aside0.mk (Kd.R_lower ho20 (below_size (bw115_)))
 replace HO479 := rb_ HO479 hb
 replace BK471 := ab_ BK471 hb
 replace BK480 := ab_ BK480 hb
 replace HB := bs115_ hb
 replace HI475 := Aside0.mk (IsS115.below is115_ hb)
 clear hb ho20
 obtain ⟨Ao21, co21, eo21⟩ := Kd.R_slice HO492.out
 (first | subst eo21 | (injection eo21 with f1_ f2_ f3_; have f4_ := f1_.symm; have f5_ := f3_.symm; clear f1_ f2_ f3_; subst f4_; subst f5_))
 refine hK.out _ _ ⟨(blk_cell BK480.out 0).trans rfl, (blk_cell BK480.out 1).trans rfl⟩ (fun hHeld => ?_)
 clear hK K
 refine nz_ 24 ?_
 refine one_ (i := 12) (N := some 25) ba16_18 rfl rfl (one_of HT_.out (by kernel_rfl)) (by decide) (fun K hK => ?_)
 refine gz_ Try.func67 #[.pointer (some ⟨g475, 0, none⟩), .slice Ao21 y490.length co21] ?_
 with_reducible refine (spec_l01PickInt.calls g475 t472 t488 t489 _ _ y490 t493 t494 t495 w _ ?side1 ?side2 ?side3 ?side4 ?side5 A6.out).mono ?_
 (case side1 => exact is115_)
 (case side2 => exact bw115_)
 (case side3 => exact rc_ HO492)
 (case side4 => exact (Kd.R_reads' HO492.out).2.1)
 (case side5 => exact far_slice (IsS115.own_ne HI475.out HO492.out (by decide)))
 rintro e w22 ⟨rfl, hi, hb, hk⟩
 refine ⟨_, rfl, ?_⟩
 replace BK471 := kb_ BK471 NB471_475 hk
 replace HO479 := ak115_ HO479 (show IsS115 w _ g475 t472 t488 t489 from is115_) hk
 replace BK480 := kb_ BK480 NB480_475 hk
 replace HO492 := ak115_ HO492 (show IsS115 w _ g475 t472 t488 t489 from is115_) hk
 replace HB := Aside0.mk (hb)
 replace HI475 := Aside0.mk (hi)
 (try clear hb)
 (try clear hb2)
 (try clear hk)
 (try clear hi)
 refine hK.out _ _ ⟨(blk_cell BK480.out 0).trans rfl, (blk_cell BK480.out 1).trans rfl⟩ (fun hHeld => ?_)
 clear hK K
 refine nz_ 25 ?_
 refine one_ (i := 13) (N := none) ba16_19 rfl rfl (one_of HT_.out (by kernel_rfl)) (by decide) (fun K hK => ?_)
 have hs23 : w22.cell? ⟨gb471, 0, none⟩ = some (.int .i64 0) := (blk_cell BK471.out 0).trans rfl
 have hfs23 := fz_ BK471 0
 have hns23_1 := NB480_471.out
 have hms23_1 := NB471_480.out
 have hs24 : w22.cell? ⟨gb471, 1, none⟩ = some (.slice none 0 0) := (blk_cell BK471.out 1).trans rfl
 have hfs24 := fz_ BK471 1
 have hns24_1 := NB480_471.out
 have hms24_1 := NB471_480.out
 refine skip_ (w1 := ?_) (by rfl) rfl ?_ ?_
 rotate_left; · go_simp; rfl
 refine hK.out _ _ ⟨((cell_far (p := ⟨gb471, _, none⟩) NB480_471.out _).trans (((cell_far (p := ⟨gb471, _, none⟩) NB480_471.out _).trans (hHeld.1)))), ((cell_far (p := ⟨gb471, _, none⟩) NB480_471.out _).trans (((cell_far (p := ⟨gb471, _, none⟩) NB480_471.out _).trans (hHeld.2))))⟩ (fun hHeld => ?_)
 clear hK K
 refine pz_ 14 3 ba16_20 HT_ ?_
 refine pz_ 15 4 ba16_21 HT_ ?_
 refine pz_ 16 5 ba16_22 HT_ ?_
 refine done_ (done_of HT_.out (by kernel_rfl)) ?_
 try go_wp2
 refine bodyPost_ret (results_list (rs := [.cell 2 30, .tmp 3, .tmp 4, .tmp 5]) rfl (by simp) (.cell gb471 30 #[.int .i64 t476, .slice Ao13 t477.length co13] (0, 0) _ rfl (by refine bd_ ?_; refine blk_put (cs := #[.int .i64 t476, .slice none 0 0]) ?_ 1 _ rfl; refine bd_ ?_; refine blk_put (cs := #[.int .i64 0, .slice none 0 0]) ?_ 0 _ rfl; refine bd_ ?_; exact BK471.out) Try.underlying30 rfl (by kernel_rfl) (.tmp (.tmp (.tmp .nil))))) rfl ?_
 exact ⟨_, by first | rfl | (simp [errW_none, errW_some] <;> rfl) | (simp [*, errW_none, errW_some] <;> rfl), by (with_reducible repeat (first | apply Kd.R_alloc | apply Kd.R_drewN | apply Kd.R_drew)); exact Kd.R_mono (Kd.R_far (p := ⟨gb471, 1, none⟩) (Kd.R_far (p := ⟨gb471, 0, none⟩) (Kd.R_types HO479.out BK471.out (by decide)) (fun _ hk => hk.2) (.int .i64 t476)) (fun _ hk => hk.2) (.slice Ao13 t477.length co13)) (fun _ hk => trivial), bw115_⟩

end Go.Proofs.Ythmahcohcphljaa.QFnShares
