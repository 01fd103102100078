/- Contracts of functions that the law reaches: what each call returns and what it leaves in memory. Made by this session over the print of the kit. -/
import Derived.Test.YthmahcohcphljaaQFnHopsx0
import Derived.Test.YthmahcohcphljaaQFnHopsx6
import Derived.Test.YthmahcohcphljaaQFnHopsx8
import Derived.Test.YthmahcohcphljaaQFnHopsx9
namespace Go.Proofs.Ythmahcohcphljaa.QFnHops
open Go.RowKit Go.Proofs.YthmahcohcphljaaP.PrintWords Go.Proofs.YthmahcohcphljaaP.PrintLast Go.Proofs.YthmahcohcphljaaP.PrintMore
attribute [local go_sem] max2_int min2_int max_two min_two max_three min_three max_four min_four   -- for this text's walks alone
set_option linter.unusedVariables false
set_option linter.unusedSimpArgs false
abbrev tb10 : Bool := true
abbrev fb10 : Bool := false
def ba10_0 : Array Bool := #[fb10,fb10,fb10,fb10]
def ba10_1 : Array Bool := #[tb10,fb10,fb10,fb10]
def ba10_2 : Array Bool := #[tb10,fb10,tb10,fb10]
def ba10_3 : Array Bool := #[tb10,tb10,tb10,fb10]
def ba10_4 : Array Bool := #[tb10,tb10,tb10,tb10]
def ba10_5 : Array Bool := #[fb10,fb10,fb10,fb10,fb10,fb10]
def ba10_6 : Array Bool := #[fb10,tb10,fb10,fb10,fb10,fb10]
def ba10_7 : Array Bool := #[tb10,tb10,fb10,fb10,fb10,fb10]
def ba10_8 : Array Bool := #[tb10,tb10,tb10,fb10,fb10,fb10]
def ba10_9 : Array Bool := #[tb10,tb10,tb10,tb10,fb10,fb10]
def ba10_10 : Array Bool := #[tb10,tb10,tb10,tb10,tb10,fb10]
def ba10_11 : Array Bool := #[tb10,tb10,tb10,tb10,tb10,tb10]

/-! ### spec_l03Draw: function 65 -/
def spec_l03Draw.j0 : Nat → List Int → Int → Int → Int → List (S76) → Option (Int × (List (S76)) × List Int × Int × Int)
 | 0, _, _, _, _, _ => none
 | k + 1, x333000, x333001, x333002, x347000, x347001 => (spec_l01Once.f x333000 x333001 x333002 20).bind fun bt356 => (if bt356.1 = true then ((spec_l03Bend.f x333000 bt356.2.1 bt356.2.2 x347000 x347001).bind fun bt359 => (some (bt359.1, bt359.2.1, x333000, bt359.2.2.1, bt359.2.2.2))) else (some (x347000, x347001, x333000, bt356.2.1, bt356.2.2)))
def spec_l03Draw.f (k : Nat) (l0 : List Int) : Option (Int × (List (S76)) × List Int × Int × Int) := (spec_l01New.f k l0).bind fun bt329 => ((spec_l01Size.f l0 9).bind fun t333 => ((spec_l01Below.f bt329.1 bt329.2.1 bt329.2.2 t333).bind fun bt334 => ((spec_l01Below.f bt329.1 bt334.2.1 bt334.2.2 (wrap64 ((wrap64 (3 * (wrap64 (1 + bt334.1)))) + 1))).bind fun bt337 => ((spec_l03DrawGraph.f k bt329.1 bt337.2.1 bt337.2.2 (wrap64 (1 + bt334.1)) bt337.1).bind fun bt340 => ((spec_l01Once.f bt329.1 bt340.2.2.1 bt340.2.2.2 25).bind fun bt347 => (if bt347.1 = true then ((spec_l03DrawGraph.f k bt329.1 bt347.2.1 bt347.2.2 10 50).bind fun bt350 => (spec_l03Draw.j0 k bt329.1 bt350.2.2.1 bt350.2.2.2 bt350.1 bt350.2.1)) else (spec_l03Draw.j0 k bt329.1 bt347.2.1 bt347.2.2 bt340.1 bt340.2.1)))))))
theorem spec_l03Draw.mono_l : ∀ k, (∀ y0 y1 y2 y3 y4, LeO (spec_l03Draw.j0 k y0 y1 y2 y3 y4) (spec_l03Draw.j0 (k + 1) y0 y1 y2 y3 y4))
 | 0 => fun _ _ _ _ _ r h => by simp [spec_l03Draw.j0] at h
 | k + 1 => by
  have ih0 := spec_l03Draw.mono_l k
  ·intro y0 y1 y2 y3 y4
   unfold spec_l03Draw.j0
   repeat' first
   | (with_reducible exact ih0 _ _ _ _ _)
   | (with_reducible exact spec_l01New.mono _ _)
   | (with_reducible exact spec_l03DrawGraph.mono _ _ _ _ _ _)
   | (with_reducible exact LeO.refl _)
   | (with_reducible exact LeO.none _)
   | (with_reducible refine LeO.ite ?_ ?_)
   | (with_reducible refine LeO.bind ?_ (fun _ => ?_))
   | exact ih0 _ _ _ _ _
   | exact spec_l01New.mono _ _
   | exact spec_l03DrawGraph.mono _ _ _ _ _ _
   | exact LeO.none _
   | refine LeO.ite ?_ ?_
   | refine LeO.bind ?_ (fun _ => ?_)
theorem spec_l03Draw.mono : ∀ a0 k, LeO (spec_l03Draw.f k a0) (spec_l03Draw.f (k + 1) a0) := by
 intro a0 k
 have ih0 := spec_l03Draw.mono_l k
 unfold spec_l03Draw.f
 repeat' first
   | (with_reducible exact ih0 _ _ _ _ _)
   | (with_reducible exact spec_l01New.mono _ _)
   | (with_reducible exact spec_l03DrawGraph.mono _ _ _ _ _ _)
   | (with_reducible exact LeO.refl _)
   | (with_reducible exact LeO.none _)
   | (with_reducible refine LeO.ite ?_ ?_)
   | (with_reducible refine LeO.bind ?_ (fun _ => ?_))
   | exact ih0 _ _ _ _ _
   | exact spec_l01New.mono _ _
   | exact spec_l03DrawGraph.mono _ _ _ _ _ _
   | exact LeO.none _
   | refine LeO.ite ?_ ?_
   | refine LeO.bind ?_ (fun _ => ?_)
set_option maxHeartbeats 8000000 in
set_option maxRecDepth 100000 in
theorem spec_l03Draw.calls (k : Nat) (A0 : Option Addr) (c0 : Nat) (l0 : List Int) (r1 : Int) (r2 : List (S76)) (r3 : List Int) (r4 : Int) (r5 : Int) (w : World) (hr0 : Kd.C (Kd.int .u8) w A0 l0.length l0) (hc0 : l0.length ≤ c0) (h : spec_l03Draw.f k l0 = some (r1, r2, r3, r4, r5)) :
  Calls Try.prog 65 #[.slice A0 l0.length c0] w fun e w' => ∃ v1_ : Value, ∃ g_ : Nat, e = .returned (.tuple #[.pointer (some ⟨g_, 0, none⟩), .agg #[.int .i64 r1, v1_]]) ∧ Kd.R k76 76 w' w.heap.size (fun _ => True) v1_ r2 ∧ IsS115 w w' g_ r3 r4 r5 ∧ Below w.heap.size w w' := by
 have hu30 := Try.underlying30
 have HR0 := Aside0.mk hr0
 have HC0 := Aside0.mk hc0
 clear hr0 hc0
 have HB := Aside0.mk (Below.refl w.heap.size w)
 have H : ((spec_l01New.f k l0).bind fun bt329 => ((spec_l01Size.f l0 9).bind fun t333 => ((spec_l01Below.f bt329.1 bt329.2.1 bt329.2.2 t333).bind fun bt334 => ((spec_l01Below.f bt329.1 bt334.2.1 bt334.2.2 (wrap64 ((wrap64 (3 * (wrap64 (1 + bt334.1)))) + 1))).bind fun bt337 => ((spec_l03DrawGraph.f k bt329.1 bt337.2.1 bt337.2.2 (wrap64 (1 + bt334.1)) bt337.1).bind fun bt340 => ((spec_l01Once.f bt329.1 bt340.2.2.1 bt340.2.2.2 25).bind fun bt347 => (if bt347.1 = true then ((spec_l03DrawGraph.f k bt329.1 bt347.2.1 bt347.2.2 10 50).bind fun bt350 => (spec_l03Draw.j0 k bt329.1 bt350.2.2.1 bt350.2.2.2 bt350.1 bt350.2.1)) else (spec_l03Draw.j0 k bt329.1 bt347.2.1 bt347.2.2 bt340.1 bt340.2.1)))))))) = some (r1, r2, r3, r4, r5) := h
 clear h
 replace H := Option.bind_eq_some_iff.mp H
 obtain ⟨⟨t329, t330, t331⟩, A20, H⟩ := H
 have A2 := Aside0.mk A20
 clear A20
 replace H := Option.bind_eq_some_iff.mp H
 obtain ⟨t333, A30, H⟩ := H
 have A3 := Aside0.mk A30
 clear A30
 replace H := Option.bind_eq_some_iff.mp H
 obtain ⟨⟨t334, t335, t336⟩, A40, H⟩ := H
 have A4 := Aside0.mk A40
 clear A40
 replace H := Option.bind_eq_some_iff.mp H
 obtain ⟨⟨t337, t338, t339⟩, A50, H⟩ := H
 have A5 := Aside0.mk A50
 clear A50
 replace H := Option.bind_eq_some_iff.mp H
 obtain ⟨⟨t340, t341, t344, t345⟩, A60, H⟩ := H
 have A6 := Aside0.mk A60
 clear A60
 replace H := Option.bind_eq_some_iff.mp H
 obtain ⟨⟨t347, t348, t349⟩, A70, H⟩ := H
 have A7 := Aside0.mk A70
 clear A70
 have HC8 := Aside0.mk H
 clear H
 go_enter Try.func65, Try.ntmps65
 go_upto_if 23 with (first | ((with_reducible refine gate_dst (N := 3) rfl ?_); refine box_event ?hg (N := 3) ?hd (cs := #[.int .i64 0, .slice none 0 0]) (t := 30) ?hr ?_; (case hd => rfl); (case hg => rfl); (case hr => first | (go_simp; done) | (go_simp; rfl)); intro gb328 hg w9 hbox hb; have BK328 := Aside0.mk hbox; have GW328 := ge_ HB hg; have GE328 := ge_ HB hg; replace HB := at_ HB hb; clear hb hbox hg) | ((with_reducible refine gate_callee (f := 81) rfl ?_); refine gl_ (some 8) Try.func81 #[.slice A0 l0.length c0] ?_; (with_reducible refine (spec_l01New.calls k _ _ l0 t329 t330 t331 w _ ?side1 ?side2 ?side3 A2.out).mono ?_); (case side1 => exact by_ HB); (case side2 => exact HR0.out); (case side3 => exact HC0.out); rintro e w10 ⟨g332, rfl, hi, hb, hb2⟩; refine ⟨_, rfl, ?_⟩; have HI332 := Aside0.mk hi; have NB332_328 := Aside0.mk (IsS115.ne_blk hi (blk_below (g := gb328) (o := .cells #[.int .i64 0, .slice none 0 0] 30 (0, 0)) (bx_ BK328) hb2) (by decide)); have NB328_332 := Aside0.mk (Ne.symm (IsS115.ne_blk hi (blk_below (g := gb328) (o := .cells #[.int .i64 0, .slice none 0 0] 30 (0, 0)) (bx_ BK328) hb2) (by decide))); replace HB := Aside0.mk (hb); replace BK328 := Aside0.mk (blk_below (g := gb328) (o := .cells #[.int .i64 0, .slice none 0 0] 30 (0, 0)) (bx_ BK328) hb2); (try clear hb); (try clear hb2); (try clear hk); (try clear hi)) | ((with_reducible refine gate_callee (f := 82) rfl ?_); refine gl_ (some 11) Try.func82 #[.slice A0 l0.length c0, .int .i64 9] ?_; (with_reducible refine (spec_l01Size.calls _ _ l0 9 t333 _ ?side1 ?side2 A3.out).mono ?_); (case side1 => exact cb_ HR0 HB); (case side2 => exact HC0.out); rintro e w' ⟨rfl, ⟨nd, rfl⟩⟩; refine ⟨_, rfl, ?_⟩; (try (rw [drewN_self w10]; generalize hq_ : World.drewN w10 _ = w10; replace BK328 : Aside0 (w10.heap[gb328]? = some (.cells #[.int .i64 0, .slice none 0 0] 30 (0, 0))) := ⟨by rw [← hq_]; exact (bx_ BK328)⟩; replace HB : Aside0 (Below w.heap.size w w10) := ⟨by rw [← hq_]; exact (bw115_)⟩; replace HI332 : Aside0 (IsS115 w w10 g332 t329 t330 t331) := ⟨by rw [← hq_]; exact (is115_)⟩; clear hq_))) | ((with_reducible refine gate_callee (f := 68) rfl ?_); refine gl_ (some 12) Try.func68 #[.pointer (some ⟨g332, 0, none⟩), .int .i64 t333] ?_; (with_reducible refine (spec_l01Below.calls g332 t329 t330 t331 t333 t334 t335 t336 w _ ?side1 ?side2 A4.out).mono ?_); (case side1 => exact is115_); (case side2 => exact bw115_); rintro e w11 ⟨rfl, hi, hb, hk⟩; refine ⟨_, rfl, ?_⟩; replace BK328 := kb_ BK328 NB328_332 hk; replace HB := Aside0.mk (hb); replace HI332 := Aside0.mk (hi); (try clear hb); (try clear hb2); (try clear hk); (try clear hi)) | ((with_reducible refine gate_callee (f := 68) rfl ?_); refine gl_ (some 20) Try.func68 #[.pointer (some ⟨g332, 0, none⟩), .int .i64 (wrap64 ((wrap64 (3 * (wrap64 (1 + t334)))) + 1))] ?_; (with_reducible refine (spec_l01Below.calls g332 t329 t335 t336 (wrap64 ((wrap64 (3 * (wrap64 (1 + t334)))) + 1)) t337 t338 t339 w _ ?side1 ?side2 A5.out).mono ?_); (case side1 => exact is115_); (case side2 => exact bw115_); rintro e w12 ⟨rfl, hi, hb, hk⟩; refine ⟨_, rfl, ?_⟩; replace BK328 := kb_ BK328 NB328_332 hk; replace HB := Aside0.mk (hb); replace HI332 := Aside0.mk (hi); (try clear hb); (try clear hb2); (try clear hk); (try clear hi)) | ((with_reducible refine gate_callee (f := 83) rfl ?_); refine gl_ (some 21) Try.func83 #[.pointer (some ⟨g332, 0, none⟩), .int .i64 (wrap64 (1 + t334)), .int .i64 t337] ?_; (with_reducible refine (spec_l03DrawGraph.calls k g332 t329 t338 t339 (wrap64 (1 + t334)) t337 t340 t341 t344 t345 w _ ?side1 ?side2 A6.out).mono ?_); (case side1 => exact is115_); (case side2 => exact bw115_); rintro e w13 ⟨v342, rfl, ho0, hi, hb, hk⟩; refine ⟨_, rfl, ?_⟩; have HO343 := Aside0.mk (Kd.R_lower ho0 (below_size (bw115_))); replace BK328 := kb_ BK328 NB328_332 hk; replace HB := Aside0.mk (hb); replace HI332 := Aside0.mk (hi); (try clear hb); (try clear hb2); (try clear hk); (try clear hi); (try clear ho0)) | ((with_reducible refine gate_dst (N := 6) rfl ?_); refine box_event ?hg (N := 6) ?hd (cs := #[.int .i64 0, .slice none 0 0]) (t := 30) ?hr ?_; (case hd => rfl); (case hg => rfl); (case hr => first | (go_simp; done) | (go_simp; rfl)); intro gb346 hg w14 hbox hb; have BK346 := Aside0.mk hbox; have GW346 := Aside0.mk ((by rw [hg]; exact (below_size (bw115_)) : w.heap.size ≤ gb346)); have GE346 := Aside0.mk ((by rw [hg]; exact (below_size (bw115_)) : w.heap.size ≤ gb346)); have NB328_346 := nl_ BK328 hg; have NB346_328 := ng_ BK328 hg; have NB332_346 := Aside0.mk ((by rw [hg]; exact Nat.ne_of_lt (IsS115.lt (show IsS115 w _ g332 t329 t344 t345 from is115_)) : g332 ≠ gb346)); have NB346_332 := Aside0.mk ((by rw [hg]; exact Nat.ne_of_gt (IsS115.lt (show IsS115 w _ g332 t329 t344 t345 from is115_)) : gb346 ≠ g332)); replace HO343 := rb_ HO343 hb; replace HB := bs115_ hb; replace BK328 := ab_ BK328 hb; replace HI332 := Aside0.mk (IsS115.below is115_ hb); clear hb hbox hg; have hnb15 := NB346_328.out; have hnc15 := NB328_346.out; have hnb16 := NB346_332.out; have hnc16 := NB332_346.out; have hcz17_0 := cz_ BK346 0 (.int .i64 0); have hcz17_1 := cz_ BK346 1 (.slice none 0 0); have hfz17_0 := blk_frozen BK346.out 0; have hfz17_1 := blk_frozen BK346.out 1; obtain ⟨Ao18, co18, eo18⟩ := Kd.R_slice HO343.out; subst eo18) | ((with_reducible refine gate_callee (f := 84) rfl ?_); refine gl_ (some 23) Try.func84 #[.pointer (some ⟨g332, 0, none⟩), .int .i64 25] ?_; (with_reducible refine (spec_l01Once.calls g332 t329 t344 t345 25 t347 t348 t349 w _ ?side1 ?side2 A7.out).mono ?_); (case side1 => exact is115_); (case side2 => exact bw115_); rintro e w19 ⟨rfl, hi, hb, hk⟩; refine ⟨_, rfl, ?_⟩; replace BK328 := kc_ BK328 NB328_332 hk; replace HO343 := Aside0.mk (Kd.R_mono (Kd.R_keep (IsS115.apart (show IsS115 w _ g332 t329 t344 t345 from is115_) (hs_ HO343 BK346) (by decide)) hk (fun _ h => h.2)) (fun _ h => h.1)); replace BK346 := Aside0.mk (KeepBut.blk hk (g' := gb346) (o := .cells #[.int .i64 t340, .slice Ao18 t341.length co18] 30 (0, 0)) (by (with_reducible repeat (first | refine blk_drewN ?_ _ | refine blk_drew ?_ | refine blk_alloc ?_ _)); refine blk_put (cs := #[.int .i64 t340, .slice none 0 0]) ?_ 1 _ rfl; (with_reducible repeat (first | refine blk_drewN ?_ _ | refine blk_drew ?_ | refine blk_alloc ?_ _)); refine blk_put (cs := #[.int .i64 0, .slice none 0 0]) ?_ 0 _ rfl; (with_reducible repeat (first | refine blk_drewN ?_ _ | refine blk_drew ?_ | refine blk_alloc ?_ _)); exact BK346.out) NB346_332.out (by simp)); replace HB := Aside0.mk (hb); replace HI332 := Aside0.mk (hi); (try clear hb); (try clear hb2); (try clear hk); (try clear hi)))
 (try simp only [Act.put, List.setIfInBounds_toArray, List.set_cons_zero, List.set_cons_succ])
 go_cut [] (fun wc => ∃ (kq : Nat) (x333001_7 : Int) (x333002_7 : Int) (x347000_7 : Int) (x347001_7 : List (S76)) (u347001 : Value), Aside0 (spec_l03Draw.j0 kq t329 x333001_7 x333002_7 x347000_7 x347001_7 = some (r1, r2, r3, r4, r5)) ∧ Aside0 (kq ≤ k) ∧ Aside0 (Kd.R k76 76 wc w.heap.size (fun _ => True) u347001 x347001_7) ∧ Aside0 (wc.heap[gb328]? = some (.cells #[.int .i64 0, (.slice none 0 0)] 30 (0, 0))) ∧ Aside0 (wc.heap[gb346]? = some (.cells #[.int .i64 x347000_7, u347001] 30 (0, 0))) ∧ Aside0 (IsS115 w wc g332 t329 x333001_7 x333002_7) ∧ Aside0 (Below w.heap.size w wc))
 case first =>
  have H := HC8.out
  clear HC8
  by_cases c20 : t347 = true
  rotate_left
  ·replace c20 := Bool.eq_false_iff.mpr c20
   subst c20
   rw [if_neg (show ¬ (false = true) by decide)] at H
   have H' := Aside0.mk H
   clear H
   go_wp2
   go_meet
   case rel => exact ⟨_, (t348), (t349), (t340), (t341), (.slice Ao18 t341.length co18), H', ⟨by first | omega | exact Nat.le_refl _⟩, ⟨by (with_reducible repeat (first | apply Kd.R_alloc | apply Kd.R_drewN | apply Kd.R_drew)); exact HO343.out⟩, ⟨bx_ BK328⟩, ⟨bx_ BK346⟩, ⟨is115_⟩, ⟨bw115_⟩⟩
  subst c20
  rw [if_pos rfl] at H
  replace H := Option.bind_eq_some_iff.mp H
  obtain ⟨⟨t350, t351, t354, t355⟩, A210, H⟩ := H
  have A21 := Aside0.mk A210
  clear A210
  have H' := Aside0.mk H
  clear H
  go_wp2_with ((with_reducible refine gate_callee (f := 83) rfl ?_); refine gl_ (some 25) Try.func83 #[.pointer (some ⟨g332, 0, none⟩), .int .i64 10, .int .i64 50] ?_; (with_reducible refine (spec_l03DrawGraph.calls k g332 t329 t348 t349 10 50 t350 t351 t354 t355 w _ ?side1 ?side2 A21.out).mono ?_); (case side1 => exact is115_); (case side2 => exact bw115_); rintro e w22 ⟨v352, rfl, ho0, hi, hb, hk⟩; refine ⟨_, rfl, ?_⟩; have HO353 := Aside0.mk (Kd.R_lower (Kd.R_new' ho0 (Kd.R_lt (hd_ HO343))) (below_size (bw115_))); replace BK328 := kb_ BK328 NB328_332 hk; replace BK346 := kb_ BK346 NB346_332 hk; replace HO343 := Aside0.mk (Kd.R_mono (Kd.R_told (Kd.R_oldK (IsS115.apart (show IsS115 w _ g332 t329 t348 t349 from is115_) (hd_ HO343) (by decide)) hk) (Kd.R_base ho0)) (fun _ h_ => h_.1)); replace HB := Aside0.mk (hb); replace HI332 := Aside0.mk (hi); (try clear hb); (try clear hb2); (try clear hk); (try clear hi); (try clear ho0); have hnb23 := NB346_328.out; have hnc23 := NB328_346.out; have hnb24 := NB346_332.out; have hnc24 := NB332_346.out; have hcz25_0 := cz_ BK346 0 (.int .i64 t340); have hcz25_1 := cz_ BK346 1 (.slice Ao18 t341.length co18); have hfz25_0 := blk_frozen BK346.out 0; have hfz25_1 := blk_frozen BK346.out 1; obtain ⟨Ao26, co26, eo26⟩ := Kd.R_slice HO353.out; subst eo26)
  go_meet
  case rel => exact ⟨_, (t354), (t355), (t350), (t351), (.slice Ao26 t351.length co26), H', ⟨by first | omega | exact Nat.le_refl _⟩, ⟨by (with_reducible repeat (first | apply Kd.R_alloc | apply Kd.R_drewN | apply Kd.R_drew)); exact Kd.R_mono (Kd.R_far (p := ⟨gb346, 1, none⟩) (Kd.R_far (p := ⟨gb346, 0, none⟩) (Kd.R_types HO353.out BK346.out (by decide)) (fun _ hk => hk.2) (.int .i64 t350)) (fun _ hk => hk.2) (.slice Ao26 t351.length co26)) (fun _ hk => trivial)⟩, ⟨bc_ BK328⟩, ⟨by (with_reducible repeat (first | refine blk_drewN ?_ _ | refine blk_drew ?_ | refine blk_alloc ?_ _)); refine blk_put (cs := #[.int .i64 t350, .slice Ao18 t341.length co18]) ?_ 1 _ rfl; (with_reducible repeat (first | refine blk_drewN ?_ _ | refine blk_drew ?_ | refine blk_alloc ?_ _)); refine blk_put (cs := #[.int .i64 t340, .slice Ao18 t341.length co18]) ?_ 0 _ rfl; (with_reducible repeat (first | refine blk_drewN ?_ _ | refine blk_drew ?_ | refine blk_alloc ?_ _)); exact BK346.out⟩, ⟨is115_⟩, ⟨bw115_⟩⟩
 case rest =>
  clear HC8
  try clear c1
  try clear c2
  try clear p2
  try clear c6
  try clear p6
  try clear c8
  try clear c15
  try clear c16
  try clear c20
  try clear c23
  try clear c24
  try clear hcz17_0
  try clear hcz17_1
  try clear hcz25_0
  try clear hcz25_1
  try clear hfz17_0
  try clear hfz17_1
  try clear hfz25_0
  try clear hfz25_1
  obtain ⟨kq, x333001_7, x333002_7, x347000_7, x347001_7, u347001, HA, HJ7, HO_347001, BK328, BK346, HI332, HB⟩ := hcut
  cases kq with
  | zero => exact absurd HA.out (by simp [spec_l03Draw.j0])
  | succ kj7 =>
   have H := HA.out
   clear HA
   simp only [spec_l03Draw.j0] at H
   replace H := Option.bind_eq_some_iff.mp H
   obtain ⟨⟨t356, t357, t358⟩, A270, H⟩ := H
   have A27 := Aside0.mk A270
   clear A270
   by_cases c28 : t356 = true
   rotate_left
   ·replace c28 := Bool.eq_false_iff.mpr c28
    subst c28
    rw [if_neg (show ¬ (false = true) by decide)] at H
    simp only [Option.some.injEq, Prod.mk.injEq] at H
    obtain ⟨rfl, rfl, rfl, rfl, rfl⟩ := H
    try go_wp2_with ((with_reducible refine gate_callee (f := 84) rfl ?_); refine gl_ (some 27) Try.func84 #[.pointer (some ⟨g332, 0, none⟩), .int .i64 20] ?_; (with_reducible refine (spec_l01Once.calls g332 t329 x333001_7 x333002_7 20 false t357 t358 w _ ?side1 ?side2 A27.out).mono ?_); (case side1 => exact is115_); (case side2 => exact bw115_); rintro e w42 ⟨rfl, hi, hb, hk⟩; refine ⟨_, rfl, ?_⟩; replace HO_347001 := ak115_ HO_347001 (show IsS115 w _ g332 t329 x333001_7 x333002_7 from is115_) hk; replace BK328 := kb_ BK328 NB328_332 hk; replace BK346 := kb_ BK346 NB346_332 hk; replace HB := Aside0.mk (hb); replace HI332 := Aside0.mk (hi); (try clear hb); (try clear hb2); (try clear hk); (try clear hi))
    replace HO_347001 := Aside0.mk (Kd.R_drew HO_347001.out)
    replace BK328 := ad_ BK328
    replace BK346 := ad_ BK346
    replace HI332 := Aside0.mk (IsS115.drew HI332.out)
    replace HB := Aside0.mk (below_drew1 HB.out)
    obtain ⟨Ao45, co45, eo45⟩ := Kd.R_slice HO_347001.out
    (first | subst eo45 | (injection eo45 with f1_ f2_ f3_; have f4_ := f1_.symm; have f5_ := f3_.symm; clear f1_ f2_ f3_; subst f4_; subst f5_))
    refine start_ (n := 4) (S := fun w' => w'.cell? ⟨gb346, 0, none⟩ = some (.int .i64 x347000_7) ∧ w'.cell? ⟨gb346, 1, none⟩ = some (.slice Ao45 x347001_7.length co45)) (ds := []) ba10_0 (by kernel_rfl) rfl rfl ⟨(blk_cell BK346.out 0).trans rfl, (blk_cell BK346.out 1).trans rfl⟩ (fun hHeld => ?_)
    generalize w42.drew = w43 at HO_347001 BK328 BK346 HI332 HB hHeld ⊢
    refine pure_ (i := 0) (N := some 31) (v := ?_) (a' := ?_) ba10_1 rfl rfl (by kernel_rfl) (fun _ _ _ h => h) (Or.inl ⟨by rfl, ?_⟩) ?_ ?_
    rotate_left; · intro w'; go_simp; with_reducible rfl
    rotate_left; · simp only [Act.put, List.setIfInBounds_toArray, List.set_cons_zero, List.set_cons_succ, i64_w, i32_w]; rfl
    refine pure_ (i := 2) (N := some 2) (v := ?_) (a' := ?_) ba10_2 rfl rfl (by kernel_rfl) (fun _ _ _ h => h) (Or.inl ⟨by rfl, ?_⟩) ?_ ?_
    rotate_left; · intro w'; go_simp; with_reducible rfl
    rotate_left; · simp only [Act.put, List.setIfInBounds_toArray, List.set_cons_zero, List.set_cons_succ, i64_w, i32_w]; rfl
    refine take_ (i := 1) (N := some 32) (v := ?_) (a' := ?_) ba10_3 rfl rfl (by kernel_rfl) (fun _ _ _ h => h) (Or.inl ⟨by rfl, ?_⟩) hHeld ?_ ?_
    rotate_left; · rintro w' ⟨s0, s1⟩; go_simp; with_reducible rfl
    rotate_left; · simp only [Act.put, List.setIfInBounds_toArray, List.set_cons_zero, List.set_cons_succ, i64_w, i32_w]; rfl
    refine one_ (i := 3) (N := none) ba10_4 rfl rfl (by kernel_rfl) (by decide) (fun K hK => ?_)
    have hs44 : w43.cell? ⟨gb328, 0, none⟩ = some (.int .i64 0) := (blk_cell BK328.out 0).trans rfl
    have hfs44 := blk_frozen BK328.out 0
    have hns44_1 := NB346_328.out
    have hms44_1 := NB328_346.out
    have hs46 : w43.cell? ⟨gb328, 1, none⟩ = some (.slice none 0 0) := (blk_cell BK328.out 1).trans rfl
    have hfs46 := blk_frozen BK328.out 1
    have hns46_1 := NB346_328.out
    have hms46_1 := NB328_346.out
    refine skip_ (w1 := ?_) (by rfl) rfl ?_ ?_
    rotate_left; · go_simp; rfl
    refine hK.out _ _ ⟨((cell_far (p := ⟨gb328, _, none⟩) NB346_328.out _).trans (((cell_far (p := ⟨gb328, _, none⟩) NB346_328.out _).trans (hHeld.1)))), ((cell_far (p := ⟨gb328, _, none⟩) NB346_328.out _).trans (((cell_far (p := ⟨gb328, _, none⟩) NB346_328.out _).trans (hHeld.2))))⟩ (fun hHeld => ?_)
    clear hK K
    refine done_ (by kernel_rfl) ?_
    try go_wp2
    refine bodyPost_ret (results_tc rfl _ _ gb328 30 #[.int .i64 x347000_7, .slice Ao45 x347001_7.length co45] (0, 0) _ rfl (by (with_reducible repeat (first | refine blk_drewN ?_ _ | refine blk_drew ?_ | refine blk_alloc ?_ _)); refine blk_put (cs := #[.int .i64 x347000_7, .slice none 0 0]) ?_ 1 _ rfl; (with_reducible repeat (first | refine blk_drewN ?_ _ | refine blk_drew ?_ | refine blk_alloc ?_ _)); refine blk_put (cs := #[.int .i64 0, .slice none 0 0]) ?_ 0 _ rfl; (with_reducible repeat (first | refine blk_drewN ?_ _ | refine blk_drew ?_ | refine blk_alloc ?_ _)); exact BK328.out) Try.underlying30 rfl (by kernel_rfl)) rfl ?_
    exact ⟨_, _, by first | rfl | (simp [errW_none, errW_some] <;> rfl) | (simp [*, errW_none, errW_some] <;> rfl), by (with_reducible repeat (first | apply Kd.R_alloc | apply Kd.R_drewN | apply Kd.R_drew)); exact Kd.R_mono (Kd.R_far (p := ⟨gb328, 1, none⟩) (Kd.R_far (p := ⟨gb328, 0, none⟩) (Kd.R_types HO_347001.out BK328.out (by decide)) (fun _ hk => hk.2) (.int .i64 x347000_7)) (fun _ hk => hk.2) (.slice Ao45 x347001_7.length co45)) (fun _ hk => trivial), is115_, bw115_⟩
   subst c28
   rw [if_pos rfl] at H
   replace H := Option.bind_eq_some_iff.mp H
   obtain ⟨⟨t359, t360, t363, t364⟩, A290, H⟩ := H
   have A29 := Aside0.mk A290
   clear A290
   simp only [Option.some.injEq, Prod.mk.injEq] at H
   obtain ⟨rfl, rfl, rfl, rfl, rfl⟩ := H
   try go_wp2_with (first | ((with_reducible refine gate_callee (f := 84) rfl ?_); refine gl_ (some 27) Try.func84 #[.pointer (some ⟨g332, 0, none⟩), .int .i64 20] ?_; (with_reducible refine (spec_l01Once.calls g332 t329 x333001_7 x333002_7 20 true t357 t358 w _ ?side1 ?side2 A27.out).mono ?_); (case side1 => exact is115_); (case side2 => exact bw115_); rintro e w30 ⟨rfl, hi, hb, hk⟩; refine ⟨_, rfl, ?_⟩; replace HO_347001 := ak115_ HO_347001 (show IsS115 w _ g332 t329 x333001_7 x333002_7 from is115_) hk; replace BK328 := kb_ BK328 NB328_332 hk; replace BK346 := kb_ BK346 NB346_332 hk; replace HB := Aside0.mk (hb); replace HI332 := Aside0.mk (hi); (try clear hb); (try clear hb2); (try clear hk); (try clear hi); have hnb31 := NB346_328.out; have hnc31 := NB328_346.out; have hnb32 := NB346_332.out; have hnc32 := NB332_346.out; have hcz33_0 := cz_ BK346 0 (.int .i64 x347000_7); have hcz33_1 := cz_ BK346 1 (u347001); have hfz33_0 := blk_frozen BK346.out 0; have hfz33_1 := blk_frozen BK346.out 1; obtain ⟨Ao34, co34, eo34⟩ := Kd.R_slice HO_347001.out; subst eo34) | ((with_reducible refine gate_callee (f := 85) rfl ?_); refine gl_ (some 30) Try.func85 #[.pointer (some ⟨g332, 0, none⟩), .agg #[.int .i64 x347000_7, .slice Ao34 x347001_7.length co34]] ?_; (with_reducible refine (spec_l03Bend.calls g332 t329 t357 t358 x347000_7 (fun k_ => some k_ = (.slice Ao34 x347001_7.length co34 : Value).ownBlock) (.slice Ao34 x347001_7.length co34) x347001_7 t359 t360 t363 t364 w _ ?side1 ?side2 ?side3 A29.out).mono ?_); (case side1 => exact is115_); (case side2 => exact bw115_); (case side3 => exact Kd.R_tight rfl HO_347001.out); rintro e w35 ⟨v361, rfl, ho0, hi, hb, hkp⟩; refine ⟨_, rfl, ?_⟩; have HO362 := Aside0.mk (Kd.R_mono (ok' := fun k_ => True) ho0 (fun k_ hk_ => trivial)); replace BK328 := bk_ BK328 hkp (fun hs_ => Or.elim hs_ (fun hs_ => (Kd.R_ne HO_347001.out BK328.out (by decide)) hs_) (fun e_ => NB328_332.out e_)); replace BK346 := bk_ BK346 hkp (fun hs_ => Or.elim hs_ (fun hs_ => (Kd.R_ne HO_347001.out BK346.out (by decide)) hs_) (fun e_ => NB346_332.out e_)); replace HI332 := Aside0.mk (hi); replace HB := Aside0.mk (hb); clear HO_347001; (try clear hb); (try clear hkp); (try clear ho0); have hcz36_0 := cz_ BK346 0 (.int .i64 x347000_7); have hcz36_1 := cz_ BK346 1 (.slice Ao34 x347001_7.length co34); have hfz36_0 := blk_frozen BK346.out 0; have hfz36_1 := blk_frozen BK346.out 1; obtain ⟨Ao37, co37, eo37⟩ := Kd.R_slice HO362.out; subst eo37))
   have n0_ : Aside0 (Kd.R k76 76 ((w35.setCell ⟨gb346, 0, none⟩ (.int .i64 t359)).setCell ⟨gb346, 1, none⟩ (.slice Ao37 t360.length co37)) w.heap.size (fun _ => True) (.slice Ao37 t360.length co37) t360) := ⟨by (with_reducible repeat (first | apply Kd.R_alloc | apply Kd.R_drewN | apply Kd.R_drew)); exact Kd.R_mono (Kd.R_far (p := ⟨gb346, 1, none⟩) (Kd.R_far (p := ⟨gb346, 0, none⟩) (Kd.R_types HO362.out BK346.out (by decide)) (fun _ hk => hk.2) (.int .i64 t359)) (fun _ hk => hk.2) (.slice Ao37 t360.length co37)) (fun _ hk => trivial)⟩
   have n1_ : Aside0 (((w35.setCell ⟨gb346, 0, none⟩ (.int .i64 t359)).setCell ⟨gb346, 1, none⟩ (.slice Ao37 t360.length co37)).heap[gb328]? = some (.cells #[.int .i64 0, .slice none 0 0] 30 (0, 0))) := ⟨bc_ BK328⟩
   have n2_ : Aside0 (((w35.setCell ⟨gb346, 0, none⟩ (.int .i64 t359)).setCell ⟨gb346, 1, none⟩ (.slice Ao37 t360.length co37)).heap[gb346]? = some (.cells #[.int .i64 t359, .slice Ao37 t360.length co37] 30 (0, 0))) := ⟨by (with_reducible repeat (first | refine blk_drewN ?_ _ | refine blk_drew ?_ | refine blk_alloc ?_ _)); refine blk_put (cs := #[.int .i64 t359, .slice Ao34 x347001_7.length co34]) ?_ 1 _ rfl; (with_reducible repeat (first | refine blk_drewN ?_ _ | refine blk_drew ?_ | refine blk_alloc ?_ _)); refine blk_put (cs := #[.int .i64 x347000_7, .slice Ao34 x347001_7.length co34]) ?_ 0 _ rfl; (with_reducible repeat (first | refine blk_drewN ?_ _ | refine blk_drew ?_ | refine blk_alloc ?_ _)); exact BK346.out⟩
   have n3_ : Aside0 (IsS115 w ((w35.setCell ⟨gb346, 0, none⟩ (.int .i64 t359)).setCell ⟨gb346, 1, none⟩ (.slice Ao37 t360.length co37)) g332 t329 t363 t364) := ⟨is115_⟩
   have n4_ : Aside0 (Below w.heap.size w ((w35.setCell ⟨gb346, 0, none⟩ (.int .i64 t359)).setCell ⟨gb346, 1, none⟩ (.slice Ao37 t360.length co37))) := ⟨bw115_⟩
   (try clear HO362)
   (try clear BK328)
   (try clear BK346)
   (try clear HI332)
   (try clear HB)
   generalize ((w35.setCell ⟨gb346, 0, none⟩ (.int .i64 t359)).setCell ⟨gb346, 1, none⟩ (.slice Ao37 t360.length co37)) = w38 at n0_ n1_ n2_ n3_ n4_ ⊢
   have HO362 := n0_
   have BK328 := n1_
   have BK346 := n2_
   have HI332 := n3_
   have HB := n4_
   clear n0_ n1_ n2_ n3_ n4_
   replace HO362 := Aside0.mk (Kd.R_drew HO362.out)
   replace BK328 := ad_ BK328
   replace BK346 := ad_ BK346
   replace HI332 := Aside0.mk (IsS115.drew HI332.out)
   replace HB := Aside0.mk (below_drew1 HB.out)
   refine start_ (n := 4) (S := fun w' => w'.cell? ⟨gb346, 0, none⟩ = some (.int .i64 t359) ∧ w'.cell? ⟨gb346, 1, none⟩ = some (.slice Ao37 t360.length co37)) (ds := []) ba10_0 (by kernel_rfl) rfl rfl ⟨(blk_cell BK346.out 0).trans rfl, (blk_cell BK346.out 1).trans rfl⟩ (fun hHeld => ?_)
   generalize w38.drew = w39 at HO362 BK328 BK346 HI332 HB hHeld ⊢
   refine pure_ (i := 0) (N := some 31) (v := ?_) (a' := ?_) ba10_1 rfl rfl (by kernel_rfl) (fun _ _ _ h => h) (Or.inl ⟨by rfl, ?_⟩) ?_ ?_
   rotate_left; · intro w'; go_simp; with_reducible rfl
   rotate_left; · simp only [Act.put, List.setIfInBounds_toArray, List.set_cons_zero, List.set_cons_succ, i64_w, i32_w]; rfl
   refine pure_ (i := 2) (N := some 2) (v := ?_) (a' := ?_) ba10_2 rfl rfl (by kernel_rfl) (fun _ _ _ h => h) (Or.inl ⟨by rfl, ?_⟩) ?_ ?_
   rotate_left; · intro w'; go_simp; with_reducible rfl
   rotate_left; · simp only [Act.put, List.setIfInBounds_toArray, List.set_cons_zero, List.set_cons_succ, i64_w, i32_w]; rfl
   refine take_ (i := 1) (N := some 32) (v := ?_) (a' := ?_) ba10_3 rfl rfl (by kernel_rfl) (fun _ _ _ h => h) (Or.inl ⟨by rfl, ?_⟩) hHeld ?_ ?_
   rotate_left; · rintro w' ⟨s0, s1⟩; go_simp; with_reducible rfl
   rotate_left; · simp only [Act.put, List.setIfInBounds_toArray, List.set_cons_zero, List.set_cons_succ, i64_w, i32_w]; rfl
   refine one_ (i := 3) (N := none) ba10_4 rfl rfl (by kernel_rfl) (by decide) (fun K hK => ?_)
   have hs40 : w39.cell? ⟨gb328, 0, none⟩ = some (.int .i64 0) := (blk_cell BK328.out 0).trans rfl
   have hfs40 := blk_frozen BK328.out 0
   have hns40_1 := NB346_328.out
   have hms40_1 := NB328_346.out
   have hs41 : w39.cell? ⟨gb328, 1, none⟩ = some (.slice none 0 0) := (blk_cell BK328.out 1).trans rfl
   have hfs41 := blk_frozen BK328.out 1
   have hns41_1 := NB346_328.out
   have hms41_1 := NB328_346.out
   refine skip_ (w1 := ?_) (by rfl) rfl ?_ ?_
   rotate_left; · go_simp; rfl
   refine hK.out _ _ ⟨((cell_far (p := ⟨gb328, _, none⟩) NB346_328.out _).trans (((cell_far (p := ⟨gb328, _, none⟩) NB346_328.out _).trans (hHeld.1)))), ((cell_far (p := ⟨gb328, _, none⟩) NB346_328.out _).trans (((cell_far (p := ⟨gb328, _, none⟩) NB346_328.out _).trans (hHeld.2))))⟩ (fun hHeld => ?_)
   clear hK K
   refine done_ (by kernel_rfl) ?_
   try go_wp2
   refine bodyPost_ret (results_tc rfl _ _ gb328 30 #[.int .i64 t359, .slice Ao37 t360.length co37] (0, 0) _ rfl (by (with_reducible repeat (first | refine blk_drewN ?_ _ | refine blk_drew ?_ | refine blk_alloc ?_ _)); refine blk_put (cs := #[.int .i64 t359, .slice none 0 0]) ?_ 1 _ rfl; (with_reducible repeat (first | refine blk_drewN ?_ _ | refine blk_drew ?_ | refine blk_alloc ?_ _)); refine blk_put (cs := #[.int .i64 0, .slice none 0 0]) ?_ 0 _ rfl; (with_reducible repeat (first | refine blk_drewN ?_ _ | refine blk_drew ?_ | refine blk_alloc ?_ _)); exact BK328.out) Try.underlying30 rfl (by kernel_rfl)) rfl ?_
   exact ⟨_, _, by first | rfl | (simp [errW_none, errW_some] <;> rfl) | (simp [*, errW_none, errW_some] <;> rfl), by (with_reducible repeat (first | apply Kd.R_alloc | apply Kd.R_drewN | apply Kd.R_drew)); exact Kd.R_mono (Kd.R_far (p := ⟨gb328, 1, none⟩) (Kd.R_far (p := ⟨gb328, 0, none⟩) (Kd.R_types HO362.out BK328.out (by decide)) (fun _ hk => hk.2) (.int .i64 t359)) (fun _ hk => hk.2) (.slice Ao37 t360.length co37)) (fun _ hk => trivial), is115_, bw115_⟩

/-! ### spec_l03DrawNode: function 66 -/
def spec_l03DrawNode.j0 : Nat → Bool → List Int → Int → Int → Int → List (S76) → Option (Int × Int × Int)
 | 0, _, _, _, _, _, _ => none
 | k + 1, x12, x1000, x1001, x1002, x366000, x366001 => if x12 = true then ((spec_l01Below.f x1000 x1001 x1002 x366000).bind fun bt369 => (some (bt369.1, bt369.2.1, bt369.2.2))) else ((spec_l01PickInt.f x1000 x1001 x1002 (([(-1), x366000, 0] : List Int))).bind fun bt375 => (some (bt375.1, bt375.2.1, bt375.2.2)))
def spec_l03DrawNode.f (k : Nat) (s0_0 : List Int) (s0_1 : Int) (s0_2 : Int) (a1_0 : Int) (l1_1 : List (S76)) : Option (Int × Int × Int) := if a1_0 > 0 then ((spec_l01Once.f s0_0 s0_1 s0_2 15).bind fun bt366 => (spec_l03DrawNode.j0 k (!bt366.1) s0_0 bt366.2.1 bt366.2.2 a1_0 l1_1)) else (spec_l03DrawNode.j0 k false s0_0 s0_1 s0_2 a1_0 l1_1)
theorem spec_l03DrawNode.mono_l : ∀ k, (∀ y0 y1 y2 y3 y4 y5, LeO (spec_l03DrawNode.j0 k y0 y1 y2 y3 y4 y5) (spec_l03DrawNode.j0 (k + 1) y0 y1 y2 y3 y4 y5))
 | 0 => fun _ _ _ _ _ _ r h => by simp [spec_l03DrawNode.j0] at h
 | k + 1 => by
  have ih0 := spec_l03DrawNode.mono_l k
  ·intro y0 y1 y2 y3 y4 y5
   unfold spec_l03DrawNode.j0
   repeat' first
   | (with_reducible exact ih0 _ _ _ _ _ _)
   | (with_reducible exact LeO.refl _)
   | (with_reducible exact LeO.none _)
   | (with_reducible refine LeO.ite ?_ ?_)
   | (with_reducible refine LeO.bind ?_ (fun _ => ?_))
   | exact ih0 _ _ _ _ _ _
   | exact LeO.none _
   | refine LeO.ite ?_ ?_
   | refine LeO.bind ?_ (fun _ => ?_)
theorem spec_l03DrawNode.mono : ∀ a0 a1 a2 a3 a4 k, LeO (spec_l03DrawNode.f k a0 a1 a2 a3 a4) (spec_l03DrawNode.f (k + 1) a0 a1 a2 a3 a4) := by
 intro a0 a1 a2 a3 a4 k
 have ih0 := spec_l03DrawNode.mono_l k
 unfold spec_l03DrawNode.f
 repeat' first
   | (with_reducible exact ih0 _ _ _ _ _ _)
   | (with_reducible exact LeO.refl _)
   | (with_reducible exact LeO.none _)
   | (with_reducible refine LeO.ite ?_ ?_)
   | (with_reducible refine LeO.bind ?_ (fun _ => ?_))
   | exact ih0 _ _ _ _ _ _
   | exact LeO.none _
   | refine LeO.ite ?_ ?_
   | refine LeO.bind ?_ (fun _ => ?_)
set_option maxHeartbeats 8000000 in
set_option maxRecDepth 100000 in
theorem spec_l03DrawNode.calls (k : Nat) (g : Nat) (s0_0 : List Int) (s0_1 : Int) (s0_2 : Int) (a1_0 : Int) (A1_1 : Option Addr) (c1_1 : Nat) (l1_1 : List (S76)) (r1 : Int) (r2 : Int) (r3 : Int) (w0 w : World) (hI : IsS115 w0 w g s0_0 s0_1 s0_2) (hB : Below w0.heap.size w0 w) (hr1_1 : ∀ W_, KeepBut w W_ g none → Kd.C k76 W_ A1_1 l1_1.length l1_1) (hc1_1 : l1_1.length ≤ c1_1) (h : spec_l03DrawNode.f k s0_0 s0_1 s0_2 a1_0 l1_1 = some (r1, r2, r3)) :
  Calls Try.prog 66 #[.pointer (some ⟨g, 0, none⟩), .agg #[.int .i64 a1_0, .slice A1_1 l1_1.length c1_1]] w fun e w' => e = .returned (.int .i64 r1) ∧ IsS115 w0 w' g s0_0 r2 r3 ∧ Below w0.heap.size w0 w' ∧ KeepBut w w' g none := by
 have hu30 := Try.underlying30
 have HR1_1 := Aside0.mk hr1_1
 have HC1_1 := Aside0.mk hc1_1
 clear hr1_1 hc1_1
 have HI0 := Aside0.mk hI
 have HK := Aside0.mk (KeepBut.refl w g none)
 have HL := Aside0.mk hB.size
 clear hI
 have HW0 := Aside0.mk hB.size
 have HB := Aside0.mk hB
 clear hB
 have H : (if a1_0 > 0 then ((spec_l01Once.f s0_0 s0_1 s0_2 15).bind fun bt366 => (spec_l03DrawNode.j0 k (!bt366.1) s0_0 bt366.2.1 bt366.2.2 a1_0 l1_1)) else (spec_l03DrawNode.j0 k false s0_0 s0_1 s0_2 a1_0 l1_1)) = some (r1, r2, r3) := h
 clear h
 have HC3 := Aside0.mk H
 clear H
 go_enter Try.func66, Try.ntmps66
 go_upto_region 1 with ((with_reducible refine gate_dst (N := 3) rfl ?_); refine box_event ?hg (N := 3) ?hd (cs := #[.int .i64 a1_0, .slice A1_1 l1_1.length c1_1]) (t := 30) ?hr ?_; (case hd => rfl); (case hg => rfl); (case hr => first | (go_simp; done) | (go_simp; rfl)); intro gb365 hg w4 hbox hb; have BK365 := Aside0.mk hbox; have GW365 := gw_ HK hg; have GE365 := gv_ HW0 HK hg; have NB0_365 := Aside0.mk ((by rw [hg]; exact Nat.ne_of_lt (IsS115.lt (show IsS115 w0 _ g s0_0 s0_1 s0_2 from is115_)) : g ≠ gb365)); have NB365_0 := Aside0.mk ((by rw [hg]; exact Nat.ne_of_gt (IsS115.lt (show IsS115 w0 _ g s0_0 s0_1 s0_2 from is115_)) : gb365 ≠ g)); replace HB := bs115_ hb; replace HK := kt_ HK (KeepBut.of_below hb g none); replace HI0 := Aside0.mk (IsS115.below is115_ hb); clear hb hbox hg)
 (try simp only [Act.put, List.setIfInBounds_toArray, List.set_cons_zero, List.set_cons_succ])
 go_cut [12] (fun v12 wc => ∃ (kq : Nat) (x12_2 : Bool) (x1001_2 : Int) (x1002_2 : Int), v12 = .bool x12_2 ∧ Aside0 (spec_l03DrawNode.j0 kq x12_2 s0_0 x1001_2 x1002_2 a1_0 l1_1 = some (r1, r2, r3)) ∧ Aside0 (kq ≤ k) ∧ Aside0 (wc.heap[gb365]? = some (.cells #[.int .i64 a1_0, (.slice A1_1 l1_1.length c1_1)] 30 (0, 0))) ∧ Aside0 (IsS115 w0 wc g s0_0 x1001_2 x1002_2) ∧ Aside0 (KeepBut w wc g none) ∧ Aside0 (Below w0.heap.size w0 wc))
 case first =>
  have H := HC3.out
  clear HC3
  by_cases c5 : a1_0 > 0
  rotate_left
  ·rw [if_neg c5] at H
   have c5b0 : decide (0 < a1_0) = false := decide_eq_false c5
   clear c5
   (first | rw [c5b0] | (simp only [i64_w, i32_w]; rw [c5b0]) | skip)
   have H' := Aside0.mk H
   clear H
   have hnb10 := NB365_0.out
   have hnc10 := NB0_365.out
   have hcz11_0 := cz_ BK365 0 (.int .i64 a1_0)
   have hcz11_1 := cz_ BK365 1 (.slice A1_1 l1_1.length c1_1)
   have hfz11_0 := blk_frozen BK365.out 0
   have hfz11_1 := blk_frozen BK365.out 1
   go_wp2
   go_meet
   case rel => exact ⟨_, (false), (s0_1), (s0_2), (by first | rfl | (simp; done) | (simp [*]; done)), H', ⟨by first | omega | exact Nat.le_refl _⟩, ⟨bx_ BK365⟩, ⟨is115_⟩, ⟨kx_ HK⟩, ⟨bw115_⟩⟩
  rw [if_pos c5] at H
  have c5b0 : decide (0 < a1_0) = true := decide_eq_true c5
  clear c5
  (first | rw [c5b0] | (simp only [i64_w, i32_w]; rw [c5b0]) | skip)
  replace H := Option.bind_eq_some_iff.mp H
  obtain ⟨⟨t366, t367, t368⟩, A60, H⟩ := H
  have A6 := Aside0.mk A60
  clear A60
  have H' := Aside0.mk H
  clear H
  have hnb7 := NB365_0.out
  have hnc7 := NB0_365.out
  have hcz8_0 := cz_ BK365 0 (.int .i64 a1_0)
  have hcz8_1 := cz_ BK365 1 (.slice A1_1 l1_1.length c1_1)
  have hfz8_0 := blk_frozen BK365.out 0
  have hfz8_1 := blk_frozen BK365.out 1
  go_wp2_with (go_at_call 84; (with_reducible refine (spec_l01Once.calls g s0_0 s0_1 s0_2 15 t366 t367 t368 w0 _ ?side1 ?side2 A6.out).mono ?_); (case side1 => exact is115_); (case side2 => exact bw115_); rintro e w9 ⟨rfl, hi, hb, hk⟩; replace BK365 := kb_ BK365 NB365_0 hk; replace HK := kt_ HK hk; replace HB := Aside0.mk (hb); replace HI0 := Aside0.mk (hi); (try clear hb); (try clear hb2); (try clear hk); (try clear hi))
  go_meet
  case rel => exact ⟨_, (!t366), (t367), (t368), (by first | rfl | (simp; done) | (simp [*]; done)), H', ⟨by first | omega | exact Nat.le_refl _⟩, ⟨bx_ BK365⟩, ⟨is115_⟩, ⟨kx_ HK⟩, ⟨bw115_⟩⟩
 case rest =>
  clear HC3
  try clear c1
  try clear p2
  try clear c5
  try clear c5b0
  try clear c6
  try clear c7
  try clear c10
  try clear hcz11_0
  try clear hcz11_1
  try clear hcz8_0
  try clear hcz8_1
  try clear hfz11_0
  try clear hfz11_1
  try clear hfz8_0
  try clear hfz8_1
  obtain ⟨kq, x12_2, x1001_2, x1002_2, rfl, HA, HJ2, BK365, HI0, HK, HB⟩ := hcut
  cases kq with
  | zero => exact absurd HA.out (by simp [spec_l03DrawNode.j0])
  | succ kj2 =>
   have H := HA.out
   clear HA
   simp only [spec_l03DrawNode.j0] at H
   by_cases c12 : x12_2 = true
   ·subst c12
    rw [if_pos rfl] at H
    replace H := Option.bind_eq_some_iff.mp H
    obtain ⟨⟨t369, t370, t371⟩, A130, H⟩ := H
    have A13 := Aside0.mk A130
    clear A130
    simp only [Option.some.injEq, Prod.mk.injEq] at H
    obtain ⟨rfl, rfl, rfl⟩ := H
    have hnb14 := NB365_0.out
    have hnc14 := NB0_365.out
    have hcz15_0 := cz_ BK365 0 (.int .i64 a1_0)
    have hcz15_1 := cz_ BK365 1 (.slice A1_1 l1_1.length c1_1)
    have hfz15_0 := blk_frozen BK365.out 0
    have hfz15_1 := blk_frozen BK365.out 1
    go_wp2_with ((with_reducible refine gate_callee (f := 68) rfl ?_); refine gl_ (some 16) Try.func68 #[.pointer (some ⟨g, 0, none⟩), .int .i64 a1_0] ?_; (with_reducible refine (spec_l01Below.calls g s0_0 x1001_2 x1002_2 a1_0 t369 t370 t371 w0 _ ?side1 ?side2 A13.out).mono ?_); (case side1 => exact is115_); (case side2 => exact bw115_); rintro e w16 ⟨rfl, hi, hb, hk⟩; refine ⟨_, rfl, ?_⟩; replace BK365 := kb_ BK365 NB365_0 hk; replace HK := kt_ HK hk; replace HB := Aside0.mk (hb); replace HI0 := Aside0.mk (hi); (try clear hb); (try clear hb2); (try clear hk); (try clear hi))
    go_ret
    exact ⟨by first | rfl | (simp [errW_none, errW_some] <;> rfl) | (simp [*, errW_none, errW_some] <;> rfl), is115_, bw115_, kx_ HK⟩
   replace c12 := Bool.eq_false_iff.mpr c12
   subst c12
   rw [if_neg (show ¬ (false = true) by decide)] at H
   obtain ⟨y372, hy372⟩ : ∃ y_ : List Int, y_ = (([(-1), a1_0, 0] : List Int)) := ⟨_, rfl⟩
   replace H : ((spec_l01PickInt.f s0_0 x1001_2 x1002_2 y372).bind fun bt375 => (some (bt375.1, bt375.2.1, bt375.2.2))) = some (r1, r2, r3) := by first | (rw [hy372]; with_reducible exact H) | (have H2_ := (Option.bind_some _ _).symm.trans H; rw [hy372]; with_reducible exact H2_) | (have H2_ := (Option.bind_some _ _).symm.trans H; with_reducible exact H2_) | with_reducible exact H | (rw [hy372]; exact H) | exact H
   have Ny372 := Aside0.mk hy372
   clear hy372
   replace H := Option.bind_eq_some_iff.mp H
   obtain ⟨⟨t375, t376, t377⟩, A170, H⟩ := H
   have A17 := Aside0.mk A170
   clear A170
   simp only [Option.some.injEq, Prod.mk.injEq] at H
   obtain ⟨rfl, rfl, rfl⟩ := H
   have hnb18 := NB365_0.out
   have hnc18 := NB0_365.out
   have hcz19_0 := cz_ BK365 0 (.int .i64 a1_0)
   have hcz19_1 := cz_ BK365 1 (.slice A1_1 l1_1.length c1_1)
   have hfz19_0 := blk_frozen BK365.out 0
   have hfz19_1 := blk_frozen BK365.out 1
   go_wp2_with (first | ((with_reducible refine gate_dst (N := 20) rfl ?_); refine Kd.R_lit (Kd.int .i64) _ 3 ?hg (N := 20) ?hd (xs := ([(-1), a1_0, 0] : List Int)) (inner := [.int .i64 (-1), .int .i64 a1_0, .int .i64 0]) (ok := fun _ => True) (okp := fun _ => True) ?hr ?hp (fun _ hk => hk) trivial (Below.refl _ _) (Nat.le_refl _) (by simp) ?_; (case hd => rfl); (case hg => rfl); (case hr => first | (go_simp; done) | (go_simp; rfl)); (case hp => exact (Reps.one (show Kd.M (Kd.int .i64) _ _ _ (-1) [.int .i64 (-1)] from rfl) (Reps.one (show Kd.M (Kd.int .i64) _ _ _ a1_0 [.int .i64 a1_0] from rfl) (Reps.one (show Kd.M (Kd.int .i64) _ _ _ 0 [.int .i64 0] from rfl) (Reps.none _ _))))); intro v373 w20 ho21 hb hg_ hnew_; clear hg_ hnew_; (first | rw [← Ny372.out] at ho21 | (simp only [Int.reduceToNat] at ho21; rw [← Ny372.out] at ho21)); have HO374 := Aside0.mk (Kd.R_lower ho21 (keep_size (w := w) (g := g) (row := none) (kx_ HK))); replace BK365 := ab_ BK365 hb; replace HK := kt_ HK (KeepBut.of_below hb g none); replace HB := bs115_ hb; replace HI0 := Aside0.mk (IsS115.below is115_ hb); clear hb ho21; obtain ⟨Ao22, co22, eo22⟩ := Kd.R_slice HO374.out; subst eo22) | ((with_reducible refine gate_callee (f := 67) rfl ?_); refine gl_ (some 21) Try.func67 #[.pointer (some ⟨g, 0, none⟩), .slice Ao22 y372.length co22] ?_; (with_reducible refine (spec_l01PickInt.calls g s0_0 x1001_2 x1002_2 _ _ y372 t375 t376 t377 w0 _ ?side1 ?side2 ?side3 ?side4 ?side5 A17.out).mono ?_); (case side1 => exact is115_); (case side2 => exact bw115_); (case side3 => exact rc_ HO374); (case side4 => exact (Kd.R_reads' HO374.out).2.1); (case side5 => exact far_slice (IsS115.own_ne HI0.out HO374.out (by decide))); rintro e w23 ⟨rfl, hi, hb, hk⟩; refine ⟨_, rfl, ?_⟩; replace BK365 := kb_ BK365 NB365_0 hk; replace HO374 := ak115_ HO374 (show IsS115 w0 _ g s0_0 x1001_2 x1002_2 from is115_) hk; replace HK := kt_ HK hk; replace HB := Aside0.mk (hb); replace HI0 := Aside0.mk (hi); (try clear hb); (try clear hb2); (try clear hk); (try clear hi)))
   go_ret
   exact ⟨by first | rfl | (simp [errW_none, errW_some] <;> rfl) | (simp [*, errW_none, errW_some] <;> rfl), is115_, bw115_, kx_ HK⟩

/-! ### spec_DrawDistances: function 64 -/
def spec_DrawDistances.f (k : Nat) (l0 : List Int) : Option (Int × (List (S76)) × Int) := (spec_l03Draw.f k l0).bind fun bt383 => ((spec_l03DrawNode.f k bt383.2.2.1 bt383.2.2.2.1 bt383.2.2.2.2 bt383.1 bt383.2.1).bind fun bt388 => (some (bt383.1, bt383.2.1, bt388.1)))
theorem spec_DrawDistances.mono : ∀ a0 k, LeO (spec_DrawDistances.f k a0) (spec_DrawDistances.f (k + 1) a0) := by
 intro a0 k
 unfold spec_DrawDistances.f
 repeat' first
   | (with_reducible exact spec_l03Draw.mono _ _)
   | (with_reducible exact spec_l03DrawNode.mono _ _ _ _ _ _)
   | (with_reducible exact LeO.refl _)
   | (with_reducible exact LeO.none _)
   | (with_reducible refine LeO.ite ?_ ?_)
   | (with_reducible refine LeO.bind ?_ (fun _ => ?_))
   | exact spec_l03Draw.mono _ _
   | exact spec_l03DrawNode.mono _ _ _ _ _ _
   | exact LeO.none _
   | refine LeO.ite ?_ ?_
   | refine LeO.bind ?_ (fun _ => ?_)
set_option maxHeartbeats 8000000 in
set_option maxRecDepth 100000 in
theorem spec_DrawDistances.calls (k : Nat) (A0 : Option Addr) (c0 : Nat) (l0 : List Int) (r1 : Int) (r2 : List (S76)) (r3 : Int) (w : World) (hr0 : Kd.C (Kd.int .u8) w A0 l0.length l0) (hc0 : l0.length ≤ c0) (h : spec_DrawDistances.f k l0 = some (r1, r2, r3)) :
  Calls Try.prog 64 #[.slice A0 l0.length c0] w fun e w' => ∃ v1_ : Value, e = .returned (.tuple #[.agg #[.int .i64 r1, v1_], .int .i64 r3]) ∧ Kd.R k76 76 w' w.heap.size (fun _ => True) v1_ r2 ∧ Below w.heap.size w w' := by
 have hu30 := Try.underlying30
 have HR0 := Aside0.mk hr0
 have HC0 := Aside0.mk hc0
 clear hr0 hc0
 have HB := Aside0.mk (Below.refl w.heap.size w)
 have H : ((spec_l03Draw.f k l0).bind fun bt383 => ((spec_l03DrawNode.f k bt383.2.2.1 bt383.2.2.2.1 bt383.2.2.2.2 bt383.1 bt383.2.1).bind fun bt388 => (some (bt383.1, bt383.2.1, bt388.1)))) = some (r1, r2, r3) := h
 clear h
 replace H := Option.bind_eq_some_iff.mp H
 obtain ⟨⟨t383, t384, t379, t380, t381⟩, A20, H⟩ := H
 have A2 := Aside0.mk A20
 clear A20
 replace H := Option.bind_eq_some_iff.mp H
 obtain ⟨⟨t388, t389, t390⟩, A30, H⟩ := H
 have A3 := Aside0.mk A30
 clear A30
 simp only [Option.some.injEq, Prod.mk.injEq] at H
 obtain ⟨rfl, rfl, rfl⟩ := H
 go_enter Try.func64, Try.ntmps64
 try go_wp2_with (first | ((with_reducible refine gate_dst (N := 2) rfl ?_); refine box_ev2 ?hg (N := 2) ?hd (cs := #[.int .i64 0, .slice none 0 0]) (t := 30) ?hr ?_; (case hd => rfl); (case hg => rfl); (case hr => first | (go_simp; done) | (go_simp; rfl)); intro gb378 hg w4 hbox hb hz_; have HZ := Aside0.mk (show w4.heap.size = w.heap.size + 1 from by rw [hz_, hg] <;> rfl); clear hz_; have BK378 := Aside0.mk hbox; have GW378 := ge_ HB hg; have GE378 := ge_ HB hg; replace HB := at_ HB hb; clear hb hbox hg) | ((with_reducible refine gate_callee (f := 65) rfl ?_); refine gl_ (some 8) Try.func65 #[.slice A0 l0.length c0] ?_; (with_reducible refine (spec_l03Draw.calls k _ _ l0 t383 t384 t379 t380 t381 _ ?side1 ?side2 A2.out).mono ?_); (case side1 => exact cb_ HR0 HB); (case side2 => exact HC0.out); rintro e w5 ⟨v385, g382, rfl, ho0, hi, hb⟩; refine ⟨_, rfl, ?_⟩; have HO386 := Aside0.mk (Kd.R_lower ho0 (bz_ HB)); have HI382 := Aside0.mk (IsS115.low hi HB HZ GW378 BK378); have NB382_378 := Aside0.mk (IsS115.ne_blk hi (bb_ BK378 hb) (by decide)); have NB378_382 := Aside0.mk (Ne.symm (IsS115.ne_blk hi (bb_ BK378 hb) (by decide))); replace HB := at_ HB hb; replace BK378 := ab_ BK378 hb; (try clear hb); (try clear hb2); (try clear hk); (try clear hi); (try clear ho0)) | ((with_reducible refine gate_dst (N := 5) rfl ?_); refine box_event ?hg (N := 5) ?hd (cs := #[.int .i64 0, .slice none 0 0]) (t := 30) ?hr ?_; (case hd => rfl); (case hg => rfl); (case hr => first | (go_simp; done) | (go_simp; rfl)); intro gb387 hg w6 hbox hb; have BK387 := Aside0.mk hbox; have GW387 := Aside0.mk ((by rw [hg]; exact (below_size (bw115_)) : w.heap.size ≤ gb387)); have GE387 := Aside0.mk ((by rw [hg]; exact (below_size (bw115_)) : w.heap.size ≤ gb387)); have NB378_387 := nl_ BK378 hg; have NB387_378 := ng_ BK378 hg; have NB382_387 := Aside0.mk ((by rw [hg]; exact Nat.ne_of_lt (IsS115.lt (show IsS115 w _ g382 t379 t380 t381 from is115_)) : g382 ≠ gb387)); have NB387_382 := Aside0.mk ((by rw [hg]; exact Nat.ne_of_gt (IsS115.lt (show IsS115 w _ g382 t379 t380 t381 from is115_)) : gb387 ≠ g382)); replace HO386 := rb_ HO386 hb; replace HB := bs115_ hb; replace BK378 := ab_ BK378 hb; replace HI382 := Aside0.mk (IsS115.below is115_ hb); clear hb hbox hg; have hnb7 := NB387_378.out; have hnc7 := NB378_387.out; have hnb8 := NB387_382.out; have hnc8 := NB382_387.out; have hcz9_0 := cz_ BK387 0 (.int .i64 0); have hcz9_1 := cz_ BK387 1 (.slice none 0 0); have hfz9_0 := blk_frozen BK387.out 0; have hfz9_1 := blk_frozen BK387.out 1; obtain ⟨Ao10, co10, eo10⟩ := Kd.R_slice HO386.out; subst eo10))
 have n0_ : Aside0 (Kd.R k76 76 ((w6.setCell ⟨gb387, 0, none⟩ (.int .i64 t383)).setCell ⟨gb387, 1, none⟩ (.slice Ao10 t384.length co10)) w.heap.size (fun _ => True) (.slice Ao10 t384.length co10) t384) := ⟨by (with_reducible repeat (first | apply Kd.R_alloc | apply Kd.R_drewN | apply Kd.R_drew)); exact Kd.R_mono (Kd.R_far (p := ⟨gb387, 1, none⟩) (Kd.R_far (p := ⟨gb387, 0, none⟩) (Kd.R_types HO386.out BK387.out (by decide)) (fun _ hk => hk.2) (.int .i64 t383)) (fun _ hk => hk.2) (.slice Ao10 t384.length co10)) (fun _ hk => trivial)⟩
 have n1_ : Aside0 (((w6.setCell ⟨gb387, 0, none⟩ (.int .i64 t383)).setCell ⟨gb387, 1, none⟩ (.slice Ao10 t384.length co10)).heap[gb378]? = some (.cells #[.int .i64 0, .slice none 0 0] 30 (0, 0))) := ⟨bc_ BK378⟩
 have n2_ : Aside0 (((w6.setCell ⟨gb387, 0, none⟩ (.int .i64 t383)).setCell ⟨gb387, 1, none⟩ (.slice Ao10 t384.length co10)).heap[gb387]? = some (.cells #[.int .i64 t383, .slice Ao10 t384.length co10] 30 (0, 0))) := ⟨by (with_reducible repeat (first | refine blk_drewN ?_ _ | refine blk_drew ?_ | refine blk_alloc ?_ _)); refine blk_put (cs := #[.int .i64 t383, .slice none 0 0]) ?_ 1 _ rfl; (with_reducible repeat (first | refine blk_drewN ?_ _ | refine blk_drew ?_ | refine blk_alloc ?_ _)); refine blk_put (cs := #[.int .i64 0, .slice none 0 0]) ?_ 0 _ rfl; (with_reducible repeat (first | refine blk_drewN ?_ _ | refine blk_drew ?_ | refine blk_alloc ?_ _)); exact BK387.out⟩
 have n3_ : Aside0 (IsS115 w ((w6.setCell ⟨gb387, 0, none⟩ (.int .i64 t383)).setCell ⟨gb387, 1, none⟩ (.slice Ao10 t384.length co10)) g382 t379 t380 t381) := ⟨is115_⟩
 have n4_ : Aside0 (Below w.heap.size w ((w6.setCell ⟨gb387, 0, none⟩ (.int .i64 t383)).setCell ⟨gb387, 1, none⟩ (.slice Ao10 t384.length co10))) := ⟨bw115_⟩
 (try clear HO386)
 (try clear BK378)
 (try clear BK387)
 (try clear HI382)
 (try clear HB)
 generalize ((w6.setCell ⟨gb387, 0, none⟩ (.int .i64 t383)).setCell ⟨gb387, 1, none⟩ (.slice Ao10 t384.length co10)) = w11 at n0_ n1_ n2_ n3_ n4_ ⊢
 have HO386 := n0_
 have BK378 := n1_
 have BK387 := n2_
 have HI382 := n3_
 have HB := n4_
 clear n0_ n1_ n2_ n3_ n4_
 replace HO386 := Aside0.mk (Kd.R_drew HO386.out)
 replace BK378 := ad_ BK378
 replace BK387 := ad_ BK387
 replace HI382 := Aside0.mk (IsS115.drew HI382.out)
 replace HB := Aside0.mk (below_drew1 HB.out)
 refine start_ (n := 6) (S := fun w' => w'.cell? ⟨gb387, 0, none⟩ = some (.int .i64 t383) ∧ w'.cell? ⟨gb387, 1, none⟩ = some (.slice Ao10 t384.length co10)) (ds := []) ba10_5 (by kernel_rfl) rfl rfl ⟨(blk_cell BK387.out 0).trans rfl, (blk_cell BK387.out 1).trans rfl⟩ (fun hHeld => ?_)
 generalize w11.drew = w12 at HO386 BK378 BK387 HI382 HB hHeld ⊢
 refine pure_ (i := 1) (N := some 12) (v := ?_) (a' := ?_) ba10_6 rfl rfl (by kernel_rfl) (fun _ _ _ h => h) (Or.inl ⟨by rfl, ?_⟩) ?_ ?_
 rotate_left; · intro w'; go_simp; with_reducible rfl
 rotate_left; · simp only [Act.put, List.setIfInBounds_toArray, List.set_cons_zero, List.set_cons_succ, i64_w, i32_w]; rfl
 refine take_ (i := 0) (N := some 11) (v := ?_) (a' := ?_) ba10_7 rfl rfl (by kernel_rfl) (fun _ _ _ h => h) (Or.inl ⟨by rfl, ?_⟩) hHeld ?_ ?_
 rotate_left; · rintro w' ⟨s0, s1⟩; go_simp; with_reducible rfl
 rotate_left; · simp only [Act.put, List.setIfInBounds_toArray, List.set_cons_zero, List.set_cons_succ, i64_w, i32_w]; rfl
 refine take_ (i := 2) (N := some 13) (v := ?_) (a' := ?_) ba10_8 rfl rfl (by kernel_rfl) (fun _ _ _ h => h) (Or.inl ⟨by rfl, ?_⟩) hHeld ?_ ?_
 rotate_left; · rintro w' ⟨s0, s1⟩; go_simp; with_reducible rfl
 rotate_left; · simp only [Act.put, List.setIfInBounds_toArray, List.set_cons_zero, List.set_cons_succ, i64_w, i32_w]; rfl
 refine one_ (i := 3) (N := some 14) ba10_9 rfl rfl (by kernel_rfl) (by decide) (fun K hK => ?_)
 refine gz_ Try.func66 #[.pointer (some ⟨g382, 0, none⟩), .agg #[.int .i64 t383, .slice Ao10 t384.length co10]] ?_
 with_reducible refine (spec_l03DrawNode.calls k g382 t379 t380 t381 t383 _ _ t384 t388 t389 t390 w _ ?side1 ?side2 ?side3 ?side4 A3.out).mono ?_
 (case side1 => exact is115_)
 (case side2 => exact bw115_)
 (case side3 => exact Kd.C_foot_own (IsS115.apart (show IsS115 w _ g382 t379 t380 t381 from is115_) (hd_ HO386) (by decide)) (fun _ h_ => h_.2))
 (case side4 => exact (Kd.R_reads' HO386.out).2.1)
 rintro e w13 ⟨rfl, hi, hb, hk⟩
 refine ⟨_, rfl, ?_⟩
 replace BK378 := kb_ BK378 NB378_382 hk
 replace HO386 := ak115_ HO386 (show IsS115 w _ g382 t379 t380 t381 from is115_) hk
 replace BK387 := kb_ BK387 NB387_382 hk
 replace HB := Aside0.mk (hb)
 replace HI382 := Aside0.mk (hi)
 (try clear hb)
 (try clear hb2)
 (try clear hk)
 (try clear hi)
 refine hK.out _ _ ⟨(blk_cell BK387.out 0).trans rfl, (blk_cell BK387.out 1).trans rfl⟩ (fun hHeld => ?_)
 clear hK K
 refine nz_ 14 ?_
 refine one_ (i := 4) (N := none) ba10_10 rfl rfl (by kernel_rfl) (by decide) (fun K hK => ?_)
 have hs14 : w13.cell? ⟨gb378, 0, none⟩ = some (.int .i64 0) := (blk_cell BK378.out 0).trans rfl
 have hfs14 := blk_frozen BK378.out 0
 have hns14_1 := NB387_378.out
 have hms14_1 := NB378_387.out
 have hs15 : w13.cell? ⟨gb378, 1, none⟩ = some (.slice none 0 0) := (blk_cell BK378.out 1).trans rfl
 have hfs15 := blk_frozen BK378.out 1
 have hns15_1 := NB387_378.out
 have hms15_1 := NB378_387.out
 refine skip_ (w1 := ?_) (by rfl) rfl ?_ ?_
 rotate_left; · go_simp; rfl
 refine hK.out _ _ ⟨((cell_far (p := ⟨gb378, _, none⟩) NB387_378.out _).trans (((cell_far (p := ⟨gb378, _, none⟩) NB387_378.out _).trans (hHeld.1)))), ((cell_far (p := ⟨gb378, _, none⟩) NB387_378.out _).trans (((cell_far (p := ⟨gb378, _, none⟩) NB387_378.out _).trans (hHeld.2))))⟩ (fun hHeld => ?_)
 clear hK K
 refine pure_ (i := 5) (N := some 3) (v := ?_) (a' := ?_) ba10_11 rfl rfl (by kernel_rfl) (fun _ _ _ h => h) (Or.inl ⟨by rfl, ?_⟩) ?_ ?_
 rotate_left; · intro w'; go_simp; with_reducible rfl
 rotate_left; · simp only [Act.put, List.setIfInBounds_toArray, List.set_cons_zero, List.set_cons_succ, i64_w, i32_w]; rfl
 refine done_ (by kernel_rfl) ?_
 try go_wp2
 refine bodyPost_ret (results_ct rfl _ _ gb378 30 #[.int .i64 t383, .slice Ao10 t384.length co10] (0, 0) _ rfl (by (with_reducible repeat (first | refine blk_drewN ?_ _ | refine blk_drew ?_ | refine blk_alloc ?_ _)); refine blk_put (cs := #[.int .i64 t383, .slice none 0 0]) ?_ 1 _ rfl; (with_reducible repeat (first | refine blk_drewN ?_ _ | refine blk_drew ?_ | refine blk_alloc ?_ _)); refine blk_put (cs := #[.int .i64 0, .slice none 0 0]) ?_ 0 _ rfl; (with_reducible repeat (first | refine blk_drewN ?_ _ | refine blk_drew ?_ | refine blk_alloc ?_ _)); exact BK378.out) Try.underlying30 rfl (by kernel_rfl)) rfl ?_
 exact ⟨_, by first | rfl | (simp [errW_none, errW_some] <;> rfl) | (simp [*, errW_none, errW_some] <;> rfl), by (with_reducible repeat (first | apply Kd.R_alloc | apply Kd.R_drewN | apply Kd.R_drew)); exact Kd.R_mono (Kd.R_far (p := ⟨gb378, 1, none⟩) (Kd.R_far (p := ⟨gb378, 0, none⟩) (Kd.R_types HO386.out BK378.out (by decide)) (fun _ hk => hk.2) (.int .i64 t383)) (fun _ hk => hk.2) (.slice Ao10 t384.length co10)) (fun _ hk => trivial), bw115_⟩

/-! ### spec_DrawHopTable: function 30 -/
def spec_DrawHopTable.f (k : Nat) (l0 : List Int) : Option (Int × (List (S76)) × Int) := (spec_DrawDistances.f k l0).bind fun bt392 => (some (bt392.1, bt392.2.1, bt392.2.2))
theorem spec_DrawHopTable.mono : ∀ a0 k, LeO (spec_DrawHopTable.f k a0) (spec_DrawHopTable.f (k + 1) a0) := by
 intro a0 k
 unfold spec_DrawHopTable.f
 repeat' first
   | (with_reducible exact spec_DrawDistances.mono _ _)
   | (with_reducible exact LeO.refl _)
   | (with_reducible exact LeO.none _)
   | (with_reducible refine LeO.ite ?_ ?_)
   | (with_reducible refine LeO.bind ?_ (fun _ => ?_))
   | exact spec_DrawDistances.mono _ _
   | exact LeO.none _
   | refine LeO.ite ?_ ?_
   | refine LeO.bind ?_ (fun _ => ?_)
set_option maxHeartbeats 8000000 in
set_option maxRecDepth 100000 in
theorem spec_DrawHopTable.calls (k : Nat) (A0 : Option Addr) (c0 : Nat) (l0 : List Int) (r1 : Int) (r2 : List (S76)) (r3 : Int) (w : World) (hr0 : Kd.C (Kd.int .u8) w A0 l0.length l0) (hc0 : l0.length ≤ c0) (h : spec_DrawHopTable.f k l0 = some (r1, r2, r3)) :
  Calls Try.prog 30 #[.slice A0 l0.length c0] w fun e w' => ∃ v1_ : Value, e = .returned (.tuple #[.agg #[.int .i64 r1, v1_], .int .i64 r3]) ∧ Kd.R k76 76 w' w.heap.size (fun _ => True) v1_ r2 ∧ Below w.heap.size w w' := by
 have hu30 := Try.underlying30
 have HR0 := Aside0.mk hr0
 have HC0 := Aside0.mk hc0
 clear hr0 hc0
 have HB := Aside0.mk (Below.refl w.heap.size w)
 have H : ((spec_DrawDistances.f k l0).bind fun bt392 => (some (bt392.1, bt392.2.1, bt392.2.2))) = some (r1, r2, r3) := h
 clear h
 replace H := Option.bind_eq_some_iff.mp H
 obtain ⟨⟨t392, t393, t396⟩, A20, H⟩ := H
 have A2 := Aside0.mk A20
 clear A20
 simp only [Option.some.injEq, Prod.mk.injEq] at H
 obtain ⟨rfl, rfl, rfl⟩ := H
 go_enter Try.func30, Try.ntmps30
 go_wp2_with (first | ((with_reducible refine gate_dst (N := 2) rfl ?_); refine box_event ?hg (N := 2) ?hd (cs := #[.int .i64 0, .slice none 0 0]) (t := 30) ?hr ?_; (case hd => rfl); (case hg => rfl); (case hr => first | (go_simp; done) | (go_simp; rfl)); intro gb391 hg w3 hbox hb; have BK391 := Aside0.mk hbox; have GW391 := ge_ HB hg; have GE391 := ge_ HB hg; replace HB := at_ HB hb; clear hb hbox hg) | ((with_reducible refine gate_callee (f := 64) rfl ?_); refine gl_ (some 5) Try.func64 #[.slice A0 l0.length c0] ?_; (with_reducible refine (spec_DrawDistances.calls k _ _ l0 t392 t393 t396 _ ?side1 ?side2 A2.out).mono ?_); (case side1 => exact cb_ HR0 HB); (case side2 => exact HC0.out); rintro e w4 ⟨v394, rfl, ho0, hb⟩; refine ⟨_, rfl, ?_⟩; have HO395 := Aside0.mk (Kd.R_lower ho0 (bz_ HB)); replace BK391 := ab_ BK391 hb; replace HB := at_ HB hb; (try clear hb); (try clear hb2); (try clear hk); (try clear hi); (try clear ho0); have hcz5_0 := cz_ BK391 0 (.int .i64 0); have hcz5_1 := cz_ BK391 1 (.slice none 0 0); have hfz5_0 := blk_frozen BK391.out 0; have hfz5_1 := blk_frozen BK391.out 1; obtain ⟨Ao6, co6, eo6⟩ := Kd.R_slice HO395.out; subst eo6))
 refine bodyPost_ret (results_ct rfl _ _ gb391 30 #[.int .i64 t392, .slice Ao6 t393.length co6] (0, 0) _ rfl (by (with_reducible repeat (first | refine blk_drewN ?_ _ | refine blk_drew ?_ | refine blk_alloc ?_ _)); refine blk_put (cs := #[.int .i64 t392, .slice none 0 0]) ?_ 1 _ rfl; (with_reducible repeat (first | refine blk_drewN ?_ _ | refine blk_drew ?_ | refine blk_alloc ?_ _)); refine blk_put (cs := #[.int .i64 0, .slice none 0 0]) ?_ 0 _ rfl; (with_reducible repeat (first | refine blk_drewN ?_ _ | refine blk_drew ?_ | refine blk_alloc ?_ _)); exact BK391.out) Try.underlying30 rfl (by kernel_rfl)) rfl ?_
 exact ⟨_, by first | rfl | (simp [errW_none, errW_some] <;> rfl) | (simp [*, errW_none, errW_some] <;> rfl), by (with_reducible repeat (first | apply Kd.R_alloc | apply Kd.R_drewN | apply Kd.R_drew)); exact Kd.R_mono (Kd.R_far (p := ⟨gb391, 1, none⟩) (Kd.R_far (p := ⟨gb391, 0, none⟩) (Kd.R_types HO395.out BK391.out (by decide)) (fun _ hk => hk.2) (.int .i64 t392)) (fun _ hk => hk.2) (.slice Ao6 t393.length co6)) (fun _ hk => trivial), bw115_⟩

/-! ### spec_l01In: function 52 -/
def spec_l01In.f (a0 : Int) (a1 : Int) (a2 : Int) : Option (Bool) := if a1 ≤ a0 then (some (decide (a0 ≤ a2))) else (some false)
set_option maxHeartbeats 8000000 in
set_option maxRecDepth 100000 in
theorem spec_l01In.calls (a0 : Int) (a1 : Int) (a2 : Int) (r : Bool) (w : World) (h : spec_l01In.f a0 a1 a2 = some r) :
  Calls Try.prog 52 #[.int .i64 a0, .int .i64 a1, .int .i64 a2] w fun e w' => e = .returned (.bool r) ∧ Drawn0 w w' := by
 have H : (if a1 ≤ a0 then (some (decide (a0 ≤ a2))) else (some false)) = some r := h
 clear h
 by_cases c4 : a1 ≤ a0
 ·rw [if_pos c4] at H
  have c4b0 : decide (a1 ≤ a0) = true := decide_eq_true c4
  clear c4
  obtain rfl := Option.some.inj H
  go_enter Try.func52, Try.ntmps52
  go_wp2
  go_ret
  exact ⟨by first | rfl | (simp; done) | (simp [*]; done), by repeat (first | exact Drawn0.refl _ | apply Drawn0.step)⟩
 rw [if_neg c4] at H
 have c4b0 : decide (a1 ≤ a0) = false := decide_eq_false c4
 clear c4
 obtain rfl := Option.some.inj H
 go_enter Try.func52, Try.ntmps52
 go_wp2
 go_ret
 exact ⟨by first | rfl | (simp; done) | (simp [*]; done), by repeat (first | exact Drawn0.refl _ | apply Drawn0.step)⟩

/-! ### spec_l03Node: function 45 -/
def spec_l03Node.f (a0_0 : Int) (l0_1 : List (S76)) (a1 : Int) : Option (Bool) := (spec_l01In.f a1 0 (wrap64 (a0_0 - 1))).bind fun t398 => (some t398)
set_option maxHeartbeats 8000000 in
set_option maxRecDepth 100000 in
theorem spec_l03Node.calls (a0_0 : Int) (A0_1 : Option Addr) (c0_1 : Nat) (l0_1 : List (S76)) (a1 : Int) (r : Bool) (w : World) (hr0_1 : Kd.C k76 w A0_1 l0_1.length l0_1) (hc0_1 : l0_1.length ≤ c0_1) (h : spec_l03Node.f a0_0 l0_1 a1 = some r) :
  Calls Try.prog 45 #[.agg #[.int .i64 a0_0, .slice A0_1 l0_1.length c0_1], .int .i64 a1] w fun e w' => e = .returned (.bool r) ∧ Below w.heap.size w w' := by
 have hu30 := Try.underlying30
 have HR0_1 := Aside0.mk hr0_1
 have HC0_1 := Aside0.mk hc0_1
 clear hr0_1 hc0_1
 have HB := Aside0.mk (Below.refl w.heap.size w)
 have H : ((spec_l01In.f a1 0 (wrap64 (a0_0 - 1))).bind fun t398 => (some t398)) = some r := h
 clear h
 replace H := Option.bind_eq_some_iff.mp H
 obtain ⟨t398, A30, H⟩ := H
 have A3 := Aside0.mk A30
 clear A30
 obtain rfl := Option.some.inj H
 go_enter Try.func45, Try.ntmps45
 go_wp2_with (first | ((with_reducible refine gate_dst (N := 2) rfl ?_); refine box_event ?hg (N := 2) ?hd (cs := #[.int .i64 a0_0, .slice A0_1 l0_1.length c0_1]) (t := 30) ?hr ?_; (case hd => rfl); (case hg => rfl); (case hr => first | (go_simp; done) | (go_simp; rfl)); intro gb397 hg w4 hbox hb; have BK397 := Aside0.mk hbox; have GW397 := ge_ HB hg; have GE397 := ge_ HB hg; replace HB := at_ HB hb; clear hb hbox hg; have hcz5_0 := cz_ BK397 0 (.int .i64 a0_0); have hcz5_1 := cz_ BK397 1 (.slice A0_1 l0_1.length c0_1); have hfz5_0 := blk_frozen BK397.out 0; have hfz5_1 := blk_frozen BK397.out 1) | ((with_reducible refine gate_callee (f := 52) rfl ?_); refine gl_ (some 9) Try.func52 #[.int .i64 a1, .int .i64 0, .int .i64 (wrap64 (a0_0 - 1))] ?_; (with_reducible refine (spec_l01In.calls a1 0 (wrap64 (a0_0 - 1)) t398 _ A3.out).mono ?_); rintro e w' ⟨rfl, ⟨nd, rfl⟩⟩; refine ⟨_, rfl, ?_⟩))
 go_ret
 exact ⟨by first | rfl | (simp [errW_none, errW_some] <;> rfl) | (simp [*, errW_none, errW_some] <;> rfl), bw115_⟩

end Go.Proofs.Ythmahcohcphljaa.QFnHops
