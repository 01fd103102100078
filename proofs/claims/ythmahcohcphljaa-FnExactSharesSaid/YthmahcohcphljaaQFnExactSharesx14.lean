/- Contracts of functions that the law reaches: what each call returns and what it leaves in memory. Made by this session over the print of the kit. -/
import Derived.Test.YthmahcohcphljaaQFnExactSharesx0
import Derived.Test.YthmahcohcphljaaQFnExactSharesx1
import Derived.Test.YthmahcohcphljaaQFnExactSharesx2
import Derived.Test.YthmahcohcphljaaQFnExactSharesx6
import Derived.Test.YthmahcohcphljaaQFnExactSharesx13
namespace Go.Proofs.Ythmahcohcphljaa.QFnExactShares
open Go.RowKit Go.Proofs.YthmahcohcphljaaH.PrintWords Go.Proofs.YthmahcohcphljaaH.PrintLast Go.Proofs.YthmahcohcphljaaH.PrintMore
attribute [local go_sem] max2_int min2_int max_two min_two max_three min_three max_four min_four   -- for this text's walks alone
set_option linter.unusedVariables false
set_option linter.unusedSimpArgs false
def ba14_0 : Array Bool := #[false, false, false, false, false]
def ba14_1 : Array Bool := #[true, false, false, false, false]
def ba14_2 : Array Bool := #[true, true, false, false, false]
def ba14_3 : Array Bool := #[true, true, true, false, false]
def ba14_4 : Array Bool := #[true, true, true, true, false]
def ba14_5 : Array Bool := #[true, true, true, true, true]

/-! ### laws_FnExactShares: function 4 -/
def laws_FnExactShares.j0 : Nat → Int → Int → Int → List Int → List Int → Bool → Int → List (S88) → Option (Bool)
 | 0, _, _, _, _, _, _, _, _ => none
 | k + 1, x1, x2, x3, x10, x12, x54, x340000, x340001 => if x54 = true then (some false) else ((laws_markIntS.f k x12 1).bind fun bt365 => ((laws_heldIntS.f k bt365.2 1).bind fun t367 => (if t367 < 0 then (some false) else (if t367 = bt365.1 then ((laws_toGraph.f k x340000 x340001).bind fun bt368 => ((impl_Shares.f k bt368.1 bt368.2 x1 x2 x3).bind fun t372 => ((laws_eqIntS.f k t372 x10).bind fun t375 => (if t375 = true then ((laws_heldIntS.f k bt365.2 1).bind fun t376 => (if t376 < 0 then (some false) else (if t376 = bt365.1 then (some true) else (some false)))) else (some false))))) else (some false)))))
def laws_FnExactShares.f (k : Nat) (a0_0 : Int) (l0_1 : List (S88)) (a1 : Int) (a2 : Int) (a3 : Int) : Option (Bool) := (laws_szGraph.f a0_0 l0_1 1048576).bind fun t340 => (if t340 < 0 then (some true) else ((laws_toGraph.f k a0_0 l0_1).bind fun bt341 => ((spec_Shares.f k bt341.1 bt341.2 a1 a2 a3).bind fun t345 => ((laws_toGraph.f k a0_0 l0_1).bind fun bt348 => ((impl_Shares.f k bt348.1 bt348.2 a1 a2 a3).bind fun t353 => ((laws_eqIntS.f k t353 t345).bind fun t356 => (if t356 = true then ((laws_toGraph.f k a0_0 l0_1).bind fun bt357 => ((laws_eqGraph.f k bt348.1 bt348.2 bt357.1 bt357.2).bind fun t361 => (if t361 = true then ((laws_markGraph.f k bt348.1 bt348.2 1).bind fun bt362 => (if bt362.1 < 0 then (laws_FnExactShares.j0 k a1 a2 a3 t345 t353 true a0_0 l0_1) else ((laws_eqIntS.f k t353 t345).bind fun t364 => (laws_FnExactShares.j0 k a1 a2 a3 t345 t353 (!t364) a0_0 l0_1)))) else (some false)))) else (some false))))))))
theorem laws_FnExactShares.mono_l : ∀ k, (∀ y0 y1 y2 y3 y4 y5 y6 y7, LeO (laws_FnExactShares.j0 k y0 y1 y2 y3 y4 y5 y6 y7) (laws_FnExactShares.j0 (k + 1) y0 y1 y2 y3 y4 y5 y6 y7))
 | 0 => fun _ _ _ _ _ _ _ _ r h => by simp [laws_FnExactShares.j0] at h
 | k + 1 => by
  have ih0 := laws_FnExactShares.mono_l k
  ·intro y0 y1 y2 y3 y4 y5 y6 y7
   unfold laws_FnExactShares.j0
   repeat' first
   | (with_reducible exact ih0 _ _ _ _ _ _ _ _)
   | (with_reducible exact impl_Shares.mono _ _ _ _ _ _)
   | (with_reducible exact laws_eqGraph.mono _ _ _ _ _)
   | (with_reducible exact laws_eqIntS.mono _ _ _)
   | (with_reducible exact laws_heldIntS.mono _ _ _)
   | (with_reducible exact laws_markGraph.mono _ _ _ _)
   | (with_reducible exact laws_markIntS.mono _ _ _)
   | (with_reducible exact laws_toGraph.mono _ _ _)
   | (with_reducible exact spec_Shares.mono _ _ _ _ _ _)
   | (with_reducible exact LeO.refl _)
   | (with_reducible exact LeO.none _)
   | (with_reducible refine LeO.ite ?_ ?_)
   | (with_reducible refine LeO.bind ?_ (fun _ => ?_))
   | exact ih0 _ _ _ _ _ _ _ _
   | exact impl_Shares.mono _ _ _ _ _ _
   | exact laws_eqGraph.mono _ _ _ _ _
   | exact laws_eqIntS.mono _ _ _
   | exact laws_heldIntS.mono _ _ _
   | exact laws_markGraph.mono _ _ _ _
   | exact laws_markIntS.mono _ _ _
   | exact laws_toGraph.mono _ _ _
   | exact spec_Shares.mono _ _ _ _ _ _
   | exact LeO.none _
   | refine LeO.ite ?_ ?_
   | refine LeO.bind ?_ (fun _ => ?_)
theorem laws_FnExactShares.mono : ∀ a0 a1 a2 a3 a4 k, LeO (laws_FnExactShares.f k a0 a1 a2 a3 a4) (laws_FnExactShares.f (k + 1) a0 a1 a2 a3 a4) := by
 intro a0 a1 a2 a3 a4 k
 have ih0 := laws_FnExactShares.mono_l k
 unfold laws_FnExactShares.f
 repeat' first
   | (with_reducible exact ih0 _ _ _ _ _ _ _ _)
   | (with_reducible exact impl_Shares.mono _ _ _ _ _ _)
   | (with_reducible exact laws_eqGraph.mono _ _ _ _ _)
   | (with_reducible exact laws_eqIntS.mono _ _ _)
   | (with_reducible exact laws_heldIntS.mono _ _ _)
   | (with_reducible exact laws_markGraph.mono _ _ _ _)
   | (with_reducible exact laws_markIntS.mono _ _ _)
   | (with_reducible exact laws_toGraph.mono _ _ _)
   | (with_reducible exact spec_Shares.mono _ _ _ _ _ _)
   | (with_reducible exact LeO.refl _)
   | (with_reducible exact LeO.none _)
   | (with_reducible refine LeO.ite ?_ ?_)
   | (with_reducible refine LeO.bind ?_ (fun _ => ?_))
   | exact ih0 _ _ _ _ _ _ _ _
   | exact impl_Shares.mono _ _ _ _ _ _
   | exact laws_eqGraph.mono _ _ _ _ _
   | exact laws_eqIntS.mono _ _ _
   | exact laws_heldIntS.mono _ _ _
   | exact laws_markGraph.mono _ _ _ _
   | exact laws_markIntS.mono _ _ _
   | exact laws_toGraph.mono _ _ _
   | exact spec_Shares.mono _ _ _ _ _ _
   | exact LeO.none _
   | refine LeO.ite ?_ ?_
   | refine LeO.bind ?_ (fun _ => ?_)
set_option maxHeartbeats 8000000 in
set_option maxRecDepth 100000 in
theorem laws_FnExactShares.calls (k : Nat) (a0_0 : Int) (A0_1 : Option Addr) (c0_1 : Nat) (l0_1 : List (S88)) (a1 : Int) (a2 : Int) (a3 : Int) (r : Bool) (w : World) (hr0_1 : Kd.C k88 w A0_1 l0_1.length l0_1) (hc0_1 : l0_1.length ≤ c0_1) (h : laws_FnExactShares.f k a0_0 l0_1 a1 a2 a3 = some r) :
  Calls Try.prog 4 #[.agg #[.int .i64 a0_0, .slice A0_1 l0_1.length c0_1], .int .i64 a1, .int .i64 a2, .int .i64 a3] w fun e w' => e = .returned (.bool r) ∧ Below w.heap.size w w' := by
 have hu24 := Try.underlying24
 have hu30 := Try.underlying30
 have HR0_1 := Aside0.mk hr0_1
 have HC0_1 := Aside0.mk hc0_1
 clear hr0_1 hc0_1
 have HB := Aside0.mk (Below.refl w.heap.size w)
 have H : ((laws_szGraph.f a0_0 l0_1 1048576).bind fun t340 => (if t340 < 0 then (some true) else ((laws_toGraph.f k a0_0 l0_1).bind fun bt341 => ((spec_Shares.f k bt341.1 bt341.2 a1 a2 a3).bind fun t345 => ((laws_toGraph.f k a0_0 l0_1).bind fun bt348 => ((impl_Shares.f k bt348.1 bt348.2 a1 a2 a3).bind fun t353 => ((laws_eqIntS.f k t353 t345).bind fun t356 => (if t356 = true then ((laws_toGraph.f k a0_0 l0_1).bind fun bt357 => ((laws_eqGraph.f k bt348.1 bt348.2 bt357.1 bt357.2).bind fun t361 => (if t361 = true then ((laws_markGraph.f k bt348.1 bt348.2 1).bind fun bt362 => (if bt362.1 < 0 then (laws_FnExactShares.j0 k a1 a2 a3 t345 t353 true a0_0 l0_1) else ((laws_eqIntS.f k t353 t345).bind fun t364 => (laws_FnExactShares.j0 k a1 a2 a3 t345 t353 (!t364) a0_0 l0_1)))) else (some false)))) else (some false))))))))) = some r := h
 clear h
 replace H := Option.bind_eq_some_iff.mp H
 obtain ⟨t340, A50, H⟩ := H
 have A5 := Aside0.mk A50
 clear A50
 by_cases c6 : t340 < 0
 ·rw [if_pos c6] at H
  have c6b0 : decide (t340 < 0) = true := decide_eq_true c6
  clear c6
  obtain rfl := Option.some.inj H
  go_enter Try.func4, Try.ntmps4
  go_wp2_with (first | ((with_reducible refine gate_dst (N := 4) rfl ?_); refine box_event ?hg (N := 4) ?hd (cs := #[.int .i64 a0_0, .slice A0_1 l0_1.length c0_1]) (t := 24) ?hr ?_; (case hd => rfl); (case hg => rfl); (case hr => first | (go_simp; done) | (go_simp; rfl)); intro gb339 hg w7 hbox hb; have BK339 := Aside0.mk hbox; have GW339 := ge_ HB hg; have GE339 := ge_ HB hg; replace HB := Aside0.mk (bt_ HB hb); clear hb hbox hg; have hcz8_0 := cz_ BK339 0 (.int .i64 a0_0); have hcz8_1 := cz_ BK339 1 (.slice A0_1 l0_1.length c0_1); have hfz8_0 := blk_frozen BK339.out 0; have hfz8_1 := blk_frozen BK339.out 1) | ((with_reducible refine gate_callee (f := 10) rfl ?_); refine gl_ (some 19) Try.func10 #[.agg #[.int .i64 a0_0, .slice A0_1 l0_1.length c0_1], .int .i64 1048576] ?_; (with_reducible refine (laws_szGraph.calls a0_0 _ _ l0_1 1048576 t340 _ ?side1 ?side2 A5.out).mono ?_); (case side1 => exact cb_ HR0_1 HB); (case side2 => exact HC0_1.out); rintro e w9 ⟨rfl, hb⟩; refine ⟨_, rfl, ?_⟩; replace BK339 := Aside0.mk (bb_ BK339 hb); replace HB := Aside0.mk (bt_ HB hb); (try clear hb); (try clear hb2); (try clear hk); (try clear hi)))
  go_ret
  exact ⟨by first | rfl | (simp [errW_none, errW_some] <;> rfl) | (simp [*, errW_none, errW_some] <;> rfl), by repeat (first | (with_reducible first | exact HB.out | apply below_alloc | apply pw_below_drewN | apply below_drew1 | refine below_set ?_ GE339.out) | exact HB.out)⟩
 rw [if_neg c6] at H
 have c6b0 : decide (t340 < 0) = false := decide_eq_false c6
 clear c6
 replace H := Option.bind_eq_some_iff.mp H
 obtain ⟨⟨t341, t342⟩, A100, H⟩ := H
 have A10 := Aside0.mk A100
 clear A100
 replace H := Option.bind_eq_some_iff.mp H
 obtain ⟨t345, A110, H⟩ := H
 have A11 := Aside0.mk A110
 clear A110
 replace H := Option.bind_eq_some_iff.mp H
 obtain ⟨⟨t348, t349⟩, A120, H⟩ := H
 have A12 := Aside0.mk A120
 clear A120
 replace H := Option.bind_eq_some_iff.mp H
 obtain ⟨t353, A130, H⟩ := H
 have A13 := Aside0.mk A130
 clear A130
 replace H := Option.bind_eq_some_iff.mp H
 obtain ⟨t356, A140, H⟩ := H
 have A14 := Aside0.mk A140
 clear A140
 by_cases c15 : t356 = true
 rotate_left
 ·replace c15 := Bool.eq_false_iff.mpr c15
  subst c15
  rw [if_neg (show ¬ (false = true) by decide)] at H
  obtain rfl := Option.some.inj H
  go_enter Try.func4, Try.ntmps4
  go_wp2_with (first | ((with_reducible refine gate_dst (N := 4) rfl ?_); refine box_event ?hg (N := 4) ?hd (cs := #[.int .i64 a0_0, .slice A0_1 l0_1.length c0_1]) (t := 24) ?hr ?_; (case hd => rfl); (case hg => rfl); (case hr => first | (go_simp; done) | (go_simp; rfl)); intro gb339 hg w107 hbox hb; have BK339 := Aside0.mk hbox; have GW339 := ge_ HB hg; have GE339 := ge_ HB hg; replace HB := Aside0.mk (bt_ HB hb); clear hb hbox hg; have hcz108_0 := cz_ BK339 0 (.int .i64 a0_0); have hcz108_1 := cz_ BK339 1 (.slice A0_1 l0_1.length c0_1); have hfz108_0 := blk_frozen BK339.out 0; have hfz108_1 := blk_frozen BK339.out 1) | ((with_reducible refine gate_callee (f := 10) rfl ?_); refine gl_ (some 19) Try.func10 #[.agg #[.int .i64 a0_0, .slice A0_1 l0_1.length c0_1], .int .i64 1048576] ?_; (with_reducible refine (laws_szGraph.calls a0_0 _ _ l0_1 1048576 t340 _ ?side1 ?side2 A5.out).mono ?_); (case side1 => exact cb_ HR0_1 HB); (case side2 => exact HC0_1.out); rintro e w109 ⟨rfl, hb⟩; refine ⟨_, rfl, ?_⟩; replace BK339 := Aside0.mk (bb_ BK339 hb); replace HB := Aside0.mk (bt_ HB hb); (try clear hb); (try clear hb2); (try clear hk); (try clear hi); have hcz110_0 := cz_ BK339 0 (.int .i64 a0_0); have hcz110_1 := cz_ BK339 1 (.slice A0_1 l0_1.length c0_1); have hfz110_0 := blk_frozen BK339.out 0; have hfz110_1 := blk_frozen BK339.out 1) | ((with_reducible refine gate_callee (f := 12) rfl ?_); refine gl_ (some 23) Try.func12 #[.agg #[.int .i64 a0_0, .slice A0_1 l0_1.length c0_1]] ?_; (with_reducible refine (laws_toGraph.calls k a0_0 _ _ l0_1 t341 t342 _ ?side1 ?side2 A10.out).mono ?_); (case side1 => exact cb_ HR0_1 HB); (case side2 => exact HC0_1.out); rintro e w111 ⟨v343, rfl, ho0, hb⟩; refine ⟨_, rfl, ?_⟩; have HO344 := Aside0.mk (Kd.R_lower ho0 (bz_ HB)); replace BK339 := Aside0.mk (bb_ BK339 hb); replace HB := Aside0.mk (bt_ HB hb); (try clear hb); (try clear hb2); (try clear hk); (try clear hi); (try clear ho0); obtain ⟨Ao112, co112, eo112⟩ := Kd.R_slice HO344.out; subst eo112) | ((with_reducible refine gate_callee (f := 19) rfl ?_); refine gl_ (some 27) Try.func19 #[.agg #[.int .i64 t341, .slice Ao112 t342.length co112], .int .i64 a1, .int .i64 a2, .int .i64 a3] ?_; (with_reducible refine (spec_Shares.calls k t341 _ _ t342 a1 a2 a3 t345 _ ?side1 ?side2 A11.out).mono ?_); (case side1 => exact rc_ HO344); (case side2 => exact (Kd.R_reads' HO344.out).2.1); rintro e w113 ⟨v346, rfl, ho0, hb⟩; refine ⟨_, rfl, ?_⟩; have HO347 := Aside0.mk (Kd.R_lower ho0 (bz_ HB)); replace HO344 := rb_ HO344 hb; replace BK339 := Aside0.mk (bb_ BK339 hb); replace HB := Aside0.mk (bt_ HB hb); (try clear hb); (try clear hb2); (try clear hk); (try clear hi); (try clear ho0); have hcz114_0 := cz_ BK339 0 (.int .i64 a0_0); have hcz114_1 := cz_ BK339 1 (.slice A0_1 l0_1.length c0_1); have hfz114_0 := blk_frozen BK339.out 0; have hfz114_1 := blk_frozen BK339.out 1) | ((with_reducible refine gate_callee (f := 12) rfl ?_); refine gl_ (some 29) Try.func12 #[.agg #[.int .i64 a0_0, .slice A0_1 l0_1.length c0_1]] ?_; (with_reducible refine (laws_toGraph.calls k a0_0 _ _ l0_1 t348 t349 _ ?side1 ?side2 A12.out).mono ?_); (case side1 => exact cb_ HR0_1 HB); (case side2 => exact HC0_1.out); rintro e w115 ⟨v350, rfl, ho0, hb⟩; refine ⟨_, rfl, ?_⟩; have HO351 := Aside0.mk (Kd.R_lower (Kd.R_new' ho0 (Kd.R_lt (hd_ HO344))) (bz_ HB)); replace HO347 := rb_ HO347 hb; replace HO344 := Aside0.mk (Kd.R_elder' (hd_ HO344) (Kd.R_base ho0) hb); replace BK339 := Aside0.mk (bb_ BK339 hb); replace HB := Aside0.mk (bt_ HB hb); (try clear hb); (try clear hb2); (try clear hk); (try clear hi); (try clear ho0)) | ((with_reducible refine gate_dst (N := 11) rfl ?_); refine box_event ?hg (N := 11) ?hd (cs := #[.int .i64 0, .slice none 0 0]) (t := 30) ?hr ?_; (case hd => rfl); (case hg => rfl); (case hr => first | (go_simp; done) | (go_simp; rfl)); intro gb352 hg w116 hbox hb; have BK352 := Aside0.mk hbox; have GW352 := ge_ HB hg; have GE352 := ge_ HB hg; have NB339_352 := nl_ BK339 hg; have NB352_339 := ng_ BK339 hg; replace HO344 := rb_ HO344 hb; replace HO347 := rb_ HO347 hb; replace HO351 := rb_ HO351 hb; replace HB := Aside0.mk (bt_ HB hb); replace BK339 := Aside0.mk (bb_ BK339 hb); clear hb hbox hg; have hnb117 := NB352_339.out; have hnc117 := NB339_352.out; have hcz118_0 := cz_ BK352 0 (.int .i64 0); have hcz118_1 := cz_ BK352 1 (.slice none 0 0); have hfz118_0 := blk_frozen BK352.out 0; have hfz118_1 := blk_frozen BK352.out 1; obtain ⟨Ao119, co119, eo119⟩ := Kd.R_slice HO351.out; subst eo119) | ((with_reducible refine gate_callee (f := 20) rfl ?_); refine gl_ (some 34) Try.func20 #[.agg #[.int .i64 t348, .slice Ao119 t349.length co119], .int .i64 a1, .int .i64 a2, .int .i64 a3] ?_; (with_reducible refine (impl_Shares.calls k t348 _ _ t349 a1 a2 a3 t353 _ ?side1 ?side2 A13.out).mono ?_); (case side1 => refine (Kd.R_reads' (e := 76) (base := w.heap.size) (ok := fun k_ => (True ∧ some k_ ≠ (.slice Ao112 t342.length co112 : Value).ownBlock)) (n := t349.length) (c := co119) ?_).2.2; exact (hs_ HO351 BK352)); (case side2 => exact (Kd.R_reads' HO351.out).2.1); rintro e w120 ⟨v354, rfl, ho0, hb⟩; refine ⟨_, rfl, ?_⟩; have HO355 := Aside0.mk (Kd.R_lower (Kd.R_new' ho0 (Kd.R_lt (hs_ HO347 BK352))) (bz_ HB)); replace HO344 := rs_ HO344 BK352 hb; replace HO351 := rs_ HO351 BK352 hb; replace HO347 := Aside0.mk (Kd.R_elder' (hs_ HO347 BK352) (Kd.R_base ho0) hb); replace BK339 := bf_ BK339 NB339_352 hb; replace BK352 := Aside0.mk (blk_below (g := gb352) (o := .cells #[.int .i64 t348, .slice Ao119 t349.length co119] 30 (0, 0)) (by (with_reducible repeat (first | refine blk_drewN ?_ _ | refine blk_drew ?_ | refine blk_alloc ?_ _)); refine blk_put (cs := #[.int .i64 t348, .slice none 0 0]) ?_ 1 _ rfl; (with_reducible repeat (first | refine blk_drewN ?_ _ | refine blk_drew ?_ | refine blk_alloc ?_ _)); refine blk_put (cs := #[.int .i64 0, .slice none 0 0]) ?_ 0 _ rfl; (with_reducible repeat (first | refine blk_drewN ?_ _ | refine blk_drew ?_ | refine blk_alloc ?_ _)); exact BK352.out) hb); replace HB := Aside0.mk (bt_ HB hb); (try clear hb); (try clear hb2); (try clear hk); (try clear hi); (try clear ho0); obtain ⟨Ao121, co121, eo121⟩ := Kd.R_slice HO355.out; subst eo121; obtain ⟨Ao122, co122, eo122⟩ := Kd.R_slice HO347.out; subst eo122) | ((with_reducible refine gate_callee (f := 14) rfl ?_); refine gl_ (some 37) Try.func14 #[.slice Ao121 t353.length co121, .slice Ao122 t345.length co122] ?_; (with_reducible refine (laws_eqIntS.calls k _ _ t353 _ _ t345 false _ ?side1 ?side2 ?side3 ?side4 A14.out).mono ?_); (case side1 => exact rc_ HO355); (case side2 => exact (Kd.R_reads' HO355.out).2.1); (case side3 => exact rc_ HO347); (case side4 => exact (Kd.R_reads' HO347.out).2.1); rintro e w' ⟨rfl, ⟨nd, rfl⟩⟩; refine ⟨_, rfl, ?_⟩))
  go_ret
  exact ⟨by first | rfl | (simp [errW_none, errW_some] <;> rfl) | (simp [*, errW_none, errW_some] <;> rfl), by repeat (first | (with_reducible first | exact HB.out | apply below_alloc | apply pw_below_drewN | apply below_drew1 | refine below_set ?_ GE339.out | refine below_set ?_ GE352.out) | exact HB.out)⟩
 subst c15
 rw [if_pos rfl] at H
 replace H := Option.bind_eq_some_iff.mp H
 obtain ⟨⟨t357, t358⟩, A160, H⟩ := H
 have A16 := Aside0.mk A160
 clear A160
 replace H := Option.bind_eq_some_iff.mp H
 obtain ⟨t361, A170, H⟩ := H
 have A17 := Aside0.mk A170
 clear A170
 by_cases c18 : t361 = true
 rotate_left
 ·replace c18 := Bool.eq_false_iff.mpr c18
  subst c18
  rw [if_neg (show ¬ (false = true) by decide)] at H
  obtain rfl := Option.some.inj H
  go_enter Try.func4, Try.ntmps4
  try go_wp2_with (first | ((with_reducible refine gate_dst (N := 4) rfl ?_); refine box_event ?hg (N := 4) ?hd (cs := #[.int .i64 a0_0, .slice A0_1 l0_1.length c0_1]) (t := 24) ?hr ?_; (case hd => rfl); (case hg => rfl); (case hr => first | (go_simp; done) | (go_simp; rfl)); intro gb339 hg w87 hbox hb; have BK339 := Aside0.mk hbox; have GW339 := ge_ HB hg; have GE339 := ge_ HB hg; replace HB := Aside0.mk (bt_ HB hb); clear hb hbox hg; have hcz88_0 := cz_ BK339 0 (.int .i64 a0_0); have hcz88_1 := cz_ BK339 1 (.slice A0_1 l0_1.length c0_1); have hfz88_0 := blk_frozen BK339.out 0; have hfz88_1 := blk_frozen BK339.out 1) | ((with_reducible refine gate_callee (f := 10) rfl ?_); refine gl_ (some 19) Try.func10 #[.agg #[.int .i64 a0_0, .slice A0_1 l0_1.length c0_1], .int .i64 1048576] ?_; (with_reducible refine (laws_szGraph.calls a0_0 _ _ l0_1 1048576 t340 _ ?side1 ?side2 A5.out).mono ?_); (case side1 => exact cb_ HR0_1 HB); (case side2 => exact HC0_1.out); rintro e w89 ⟨rfl, hb⟩; refine ⟨_, rfl, ?_⟩; replace BK339 := Aside0.mk (bb_ BK339 hb); replace HB := Aside0.mk (bt_ HB hb); (try clear hb); (try clear hb2); (try clear hk); (try clear hi); have hcz90_0 := cz_ BK339 0 (.int .i64 a0_0); have hcz90_1 := cz_ BK339 1 (.slice A0_1 l0_1.length c0_1); have hfz90_0 := blk_frozen BK339.out 0; have hfz90_1 := blk_frozen BK339.out 1) | ((with_reducible refine gate_callee (f := 12) rfl ?_); refine gl_ (some 23) Try.func12 #[.agg #[.int .i64 a0_0, .slice A0_1 l0_1.length c0_1]] ?_; (with_reducible refine (laws_toGraph.calls k a0_0 _ _ l0_1 t341 t342 _ ?side1 ?side2 A10.out).mono ?_); (case side1 => exact cb_ HR0_1 HB); (case side2 => exact HC0_1.out); rintro e w91 ⟨v343, rfl, ho0, hb⟩; refine ⟨_, rfl, ?_⟩; have HO344 := Aside0.mk (Kd.R_lower ho0 (bz_ HB)); replace BK339 := Aside0.mk (bb_ BK339 hb); replace HB := Aside0.mk (bt_ HB hb); (try clear hb); (try clear hb2); (try clear hk); (try clear hi); (try clear ho0); obtain ⟨Ao92, co92, eo92⟩ := Kd.R_slice HO344.out; subst eo92) | ((with_reducible refine gate_callee (f := 19) rfl ?_); refine gl_ (some 27) Try.func19 #[.agg #[.int .i64 t341, .slice Ao92 t342.length co92], .int .i64 a1, .int .i64 a2, .int .i64 a3] ?_; (with_reducible refine (spec_Shares.calls k t341 _ _ t342 a1 a2 a3 t345 _ ?side1 ?side2 A11.out).mono ?_); (case side1 => exact rc_ HO344); (case side2 => exact (Kd.R_reads' HO344.out).2.1); rintro e w93 ⟨v346, rfl, ho0, hb⟩; refine ⟨_, rfl, ?_⟩; have HO347 := Aside0.mk (Kd.R_lower ho0 (bz_ HB)); replace HO344 := rb_ HO344 hb; replace BK339 := Aside0.mk (bb_ BK339 hb); replace HB := Aside0.mk (bt_ HB hb); (try clear hb); (try clear hb2); (try clear hk); (try clear hi); (try clear ho0); have hcz94_0 := cz_ BK339 0 (.int .i64 a0_0); have hcz94_1 := cz_ BK339 1 (.slice A0_1 l0_1.length c0_1); have hfz94_0 := blk_frozen BK339.out 0; have hfz94_1 := blk_frozen BK339.out 1) | ((with_reducible refine gate_callee (f := 12) rfl ?_); refine gl_ (some 29) Try.func12 #[.agg #[.int .i64 a0_0, .slice A0_1 l0_1.length c0_1]] ?_; (with_reducible refine (laws_toGraph.calls k a0_0 _ _ l0_1 t348 t349 _ ?side1 ?side2 A12.out).mono ?_); (case side1 => exact cb_ HR0_1 HB); (case side2 => exact HC0_1.out); rintro e w95 ⟨v350, rfl, ho0, hb⟩; refine ⟨_, rfl, ?_⟩; have HO351 := Aside0.mk (Kd.R_lower (Kd.R_new' ho0 (Kd.R_lt (hd_ HO344))) (bz_ HB)); replace HO347 := rb_ HO347 hb; replace HO344 := Aside0.mk (Kd.R_elder' (hd_ HO344) (Kd.R_base ho0) hb); replace BK339 := Aside0.mk (bb_ BK339 hb); replace HB := Aside0.mk (bt_ HB hb); (try clear hb); (try clear hb2); (try clear hk); (try clear hi); (try clear ho0)) | ((with_reducible refine gate_dst (N := 11) rfl ?_); refine box_event ?hg (N := 11) ?hd (cs := #[.int .i64 0, .slice none 0 0]) (t := 30) ?hr ?_; (case hd => rfl); (case hg => rfl); (case hr => first | (go_simp; done) | (go_simp; rfl)); intro gb352 hg w96 hbox hb; have BK352 := Aside0.mk hbox; have GW352 := ge_ HB hg; have GE352 := ge_ HB hg; have NB339_352 := nl_ BK339 hg; have NB352_339 := ng_ BK339 hg; replace HO344 := rb_ HO344 hb; replace HO347 := rb_ HO347 hb; replace HO351 := rb_ HO351 hb; replace HB := Aside0.mk (bt_ HB hb); replace BK339 := Aside0.mk (bb_ BK339 hb); clear hb hbox hg; have hnb97 := NB352_339.out; have hnc97 := NB339_352.out; have hcz98_0 := cz_ BK352 0 (.int .i64 0); have hcz98_1 := cz_ BK352 1 (.slice none 0 0); have hfz98_0 := blk_frozen BK352.out 0; have hfz98_1 := blk_frozen BK352.out 1; obtain ⟨Ao99, co99, eo99⟩ := Kd.R_slice HO351.out; subst eo99) | ((with_reducible refine gate_callee (f := 20) rfl ?_); refine gl_ (some 34) Try.func20 #[.agg #[.int .i64 t348, .slice Ao99 t349.length co99], .int .i64 a1, .int .i64 a2, .int .i64 a3] ?_; (with_reducible refine (impl_Shares.calls k t348 _ _ t349 a1 a2 a3 t353 _ ?side1 ?side2 A13.out).mono ?_); (case side1 => refine (Kd.R_reads' (e := 76) (base := w.heap.size) (ok := fun k_ => (True ∧ some k_ ≠ (.slice Ao92 t342.length co92 : Value).ownBlock)) (n := t349.length) (c := co99) ?_).2.2; exact (hs_ HO351 BK352)); (case side2 => exact (Kd.R_reads' HO351.out).2.1); rintro e w100 ⟨v354, rfl, ho0, hb⟩; refine ⟨_, rfl, ?_⟩; have HO355 := Aside0.mk (Kd.R_lower (Kd.R_new' ho0 (Kd.R_lt (hs_ HO347 BK352))) (bz_ HB)); replace HO344 := rs_ HO344 BK352 hb; replace HO351 := rs_ HO351 BK352 hb; replace HO347 := Aside0.mk (Kd.R_elder' (hs_ HO347 BK352) (Kd.R_base ho0) hb); replace BK339 := bf_ BK339 NB339_352 hb; replace BK352 := Aside0.mk (blk_below (g := gb352) (o := .cells #[.int .i64 t348, .slice Ao99 t349.length co99] 30 (0, 0)) (by (with_reducible repeat (first | refine blk_drewN ?_ _ | refine blk_drew ?_ | refine blk_alloc ?_ _)); refine blk_put (cs := #[.int .i64 t348, .slice none 0 0]) ?_ 1 _ rfl; (with_reducible repeat (first | refine blk_drewN ?_ _ | refine blk_drew ?_ | refine blk_alloc ?_ _)); refine blk_put (cs := #[.int .i64 0, .slice none 0 0]) ?_ 0 _ rfl; (with_reducible repeat (first | refine blk_drewN ?_ _ | refine blk_drew ?_ | refine blk_alloc ?_ _)); exact BK352.out) hb); replace HB := Aside0.mk (bt_ HB hb); (try clear hb); (try clear hb2); (try clear hk); (try clear hi); (try clear ho0); obtain ⟨Ao101, co101, eo101⟩ := Kd.R_slice HO355.out; subst eo101; obtain ⟨Ao102, co102, eo102⟩ := Kd.R_slice HO347.out; subst eo102) | ((with_reducible refine gate_callee (f := 14) rfl ?_); refine gl_ (some 37) Try.func14 #[.slice Ao101 t353.length co101, .slice Ao102 t345.length co102] ?_; (with_reducible refine (laws_eqIntS.calls k _ _ t353 _ _ t345 true _ ?side1 ?side2 ?side3 ?side4 A14.out).mono ?_); (case side1 => exact rc_ HO355); (case side2 => exact (Kd.R_reads' HO355.out).2.1); (case side3 => exact rc_ HO347); (case side4 => exact (Kd.R_reads' HO347.out).2.1); rintro e w' ⟨rfl, ⟨nd, rfl⟩⟩; refine ⟨_, rfl, ?_⟩))
  (try (rw [drewN_self w100]; generalize hq_ : World.drewN w100 _ = w100; replace HO344 : Aside0 (Kd.R k76 76 w100 w.heap.size (fun k_ => some k_ ≠ (.slice Ao99 t349.length co99 : Value).ownBlock) (.slice Ao92 t342.length co92) t342) := ⟨by rw [← hq_]; exact (by (with_reducible repeat (first | apply Kd.R_alloc | apply Kd.R_drewN | apply Kd.R_drew)); exact Kd.R_mono HO344.out (fun _ hk => hk.2))⟩; replace HO347 : Aside0 (Kd.R (Kd.int .i64) 3 w100 w.heap.size (fun k_ => some k_ ≠ (.slice Ao101 t353.length co101 : Value).ownBlock) (.slice Ao102 t345.length co102) t345) := ⟨by rw [← hq_]; exact (by (with_reducible repeat (first | apply Kd.R_alloc | apply Kd.R_drewN | apply Kd.R_drew)); exact Kd.R_mono HO347.out (fun _ hk => hk.2))⟩; replace HO351 : Aside0 (Kd.R k76 76 w100 w.heap.size (fun k_ => some k_ ≠ (.slice Ao92 t342.length co92 : Value).ownBlock) (.slice Ao99 t349.length co99) t349) := ⟨by rw [← hq_]; exact (by (with_reducible repeat (first | apply Kd.R_alloc | apply Kd.R_drewN | apply Kd.R_drew)); exact Kd.R_mono HO351.out (fun _ hk => hk.2))⟩; replace HO355 : Aside0 (Kd.R (Kd.int .i64) 3 w100 w.heap.size (fun k_ => some k_ ≠ (.slice Ao102 t345.length co102 : Value).ownBlock) (.slice Ao101 t353.length co101) t353) := ⟨by rw [← hq_]; exact (by (with_reducible repeat (first | apply Kd.R_alloc | apply Kd.R_drewN | apply Kd.R_drew)); exact Kd.R_mono HO355.out (fun _ hk => hk.2))⟩; replace BK339 : Aside0 (w100.heap[gb339]? = some (.cells #[.int .i64 a0_0, .slice A0_1 l0_1.length c0_1] 24 (0, 0))) := ⟨by rw [← hq_]; exact (by (with_reducible repeat (first | refine blk_drewN ?_ _ | refine blk_drew ?_ | refine blk_alloc ?_ _)); exact BK339.out)⟩; replace BK352 : Aside0 (w100.heap[gb352]? = some (.cells #[.int .i64 t348, .slice Ao99 t349.length co99] 30 (0, 0))) := ⟨by rw [← hq_]; exact (by (with_reducible repeat (first | refine blk_drewN ?_ _ | refine blk_drew ?_ | refine blk_alloc ?_ _)); exact BK352.out)⟩; replace HB : Aside0 (Below w.heap.size w w100) := ⟨by rw [← hq_]; exact (by repeat (first | (with_reducible first | exact HB.out | apply below_alloc | apply pw_below_drewN | apply below_drew1 | refine below_set ?_ GE339.out | refine below_set ?_ GE352.out) | exact HB.out))⟩; clear hq_))
  replace HO344 := Aside0.mk (Kd.R_drew HO344.out)
  replace HO347 := Aside0.mk (Kd.R_drew HO347.out)
  replace HO351 := Aside0.mk (Kd.R_drew HO351.out)
  replace HO355 := Aside0.mk (Kd.R_drew HO355.out)
  replace BK339 := Aside0.mk (blk_drew BK339.out)
  replace BK352 := Aside0.mk (blk_drew BK352.out)
  replace HB := Aside0.mk (below_drew1 HB.out)
  refine start_ (n := 5) (S := fun w' => w'.cell? ⟨gb352, 0, none⟩ = some (.int .i64 t348) ∧ w'.cell? ⟨gb352, 1, none⟩ = some (.slice Ao99 t349.length co99) ∧ w'.cell? ⟨gb339, 0, none⟩ = some (.int .i64 a0_0) ∧ w'.cell? ⟨gb339, 1, none⟩ = some (.slice A0_1 l0_1.length c0_1)) (ds := []) ba14_0 (by kernel_rfl) rfl rfl ⟨(blk_cell BK352.out 0).trans rfl, (blk_cell BK352.out 1).trans rfl, (blk_cell BK339.out 0).trans rfl, (blk_cell BK339.out 1).trans rfl⟩ (fun hHeld => ?_)
  generalize w100.drew = w103 at HO344 HO347 HO351 HO355 BK339 BK352 HB hHeld ⊢
  refine take_ (i := 0) (N := some 39) (v := ?_) (a' := ?_) ba14_1 rfl rfl (by kernel_rfl) (fun _ _ _ h => h) (Or.inl ⟨by rfl, ?_⟩) hHeld ?_ ?_
  rotate_left; · rintro w' ⟨s0, s1, s2, s3⟩; go_simp; with_reducible rfl
  rotate_left; · simp only [Act.put, List.setIfInBounds_toArray, List.set_cons_zero, List.set_cons_succ, i64_w, i32_w]; rfl
  refine take_ (i := 1) (N := some 40) (v := ?_) (a' := ?_) ba14_2 rfl rfl (by kernel_rfl) (fun _ _ _ h => h) (Or.inl ⟨by rfl, ?_⟩) hHeld ?_ ?_
  rotate_left; · rintro w' ⟨s0, s1, s2, s3⟩; go_simp; with_reducible rfl
  rotate_left; · simp only [Act.put, List.setIfInBounds_toArray, List.set_cons_zero, List.set_cons_succ, i64_w, i32_w]; rfl
  refine one_ (i := 2) (N := some 41) ba14_3 rfl rfl (by kernel_rfl) (by decide) (fun K hK => ?_)
  refine gz_ Try.func12 #[.agg #[.int .i64 a0_0, .slice A0_1 l0_1.length c0_1]] ?_
  with_reducible refine (laws_toGraph.calls k a0_0 _ _ l0_1 t357 t358 _ ?side1 ?side2 A16.out).mono ?_
  (case side1 => exact cb_ HR0_1 HB)
  (case side2 => exact HC0_1.out)
  rintro e w104 ⟨v359, rfl, ho0, hb⟩
  refine ⟨_, rfl, ?_⟩
  have HO360 := Aside0.mk (Kd.R_lower (Kd.R_new' (Kd.R_new' ho0 (Kd.R_lt (hd_ HO344))) (Kd.R_lt (hd_ HO351))) (bz_ HB))
  replace HO347 := rb_ HO347 hb
  replace HO355 := rb_ HO355 hb
  replace HO344 := Aside0.mk (Kd.R_elder' (hd_ HO344) (Kd.R_base ho0) hb)
  replace HO351 := Aside0.mk (Kd.R_elder' (hd_ HO351) (Kd.R_base ho0) hb)
  replace BK339 := Aside0.mk (bb_ BK339 hb)
  replace BK352 := Aside0.mk (bb_ BK352 hb)
  replace HB := Aside0.mk (bt_ HB hb)
  (try clear hb)
  (try clear hb2)
  (try clear hk)
  (try clear hi)
  (try clear ho0)
  obtain ⟨Ao105, co105, eo105⟩ := Kd.R_slice HO360.out
  (first | subst eo105 | (injection eo105 with f1_ f2_ f3_; have f4_ := f1_.symm; have f5_ := f3_.symm; clear f1_ f2_ f3_; subst f4_; subst f5_))
  refine hK.out _ _ ⟨(blk_cell BK352.out 0).trans rfl, (blk_cell BK352.out 1).trans rfl, (blk_cell BK339.out 0).trans rfl, (blk_cell BK339.out 1).trans rfl⟩ (fun hHeld => ?_)
  clear hK K
  refine nz_ 41 ?_
  refine one_ (i := 3) (N := some 42) ba14_4 rfl rfl (by kernel_rfl) (by decide) (fun K hK => ?_)
  refine gz_ Try.func15 #[.agg #[.int .i64 t348, .slice Ao99 t349.length co99], .agg #[.int .i64 t357, .slice Ao105 t358.length co105]] ?_
  with_reducible refine (laws_eqGraph.calls k t348 _ _ t349 t357 _ _ t358 false _ ?side1 ?side2 ?side3 ?side4 A17.out).mono ?_
  (case side1 => exact rc_ HO351)
  (case side2 => exact (Kd.R_reads' HO351.out).2.1)
  (case side3 => exact rc_ HO360)
  (case side4 => exact (Kd.R_reads' HO360.out).2.1)
  rintro e w106 ⟨rfl, hb⟩
  refine ⟨_, rfl, ?_⟩
  replace HO344 := rb_ HO344 hb
  replace HO347 := rb_ HO347 hb
  replace HO351 := rb_ HO351 hb
  replace HO355 := rb_ HO355 hb
  replace HO360 := rb_ HO360 hb
  replace BK339 := Aside0.mk (bb_ BK339 hb)
  replace BK352 := Aside0.mk (bb_ BK352 hb)
  replace HB := Aside0.mk (bt_ HB hb)
  (try clear hb)
  (try clear hb2)
  (try clear hk)
  (try clear hi)
  refine hK.out _ _ ⟨(blk_cell BK352.out 0).trans rfl, (blk_cell BK352.out 1).trans rfl, (blk_cell BK339.out 0).trans rfl, (blk_cell BK339.out 1).trans rfl⟩ (fun hHeld => ?_)
  clear hK K
  refine nz_ 42 ?_
  refine pure_ (i := 4) (N := some 43) (v := ?_) (a' := ?_) ba14_5 rfl rfl (by kernel_rfl) (fun _ _ _ h => h) (Or.inl ⟨by rfl, ?_⟩) ?_ ?_
  rotate_left; · intro w'; go_simp; with_reducible rfl
  rotate_left; · simp only [Act.put, List.setIfInBounds_toArray, List.set_cons_zero, List.set_cons_succ, i64_w, i32_w]; rfl
  refine done_ (by kernel_rfl) ?_
  try go_wp2
  go_ret
  exact ⟨by first | rfl | (simp [errW_none, errW_some] <;> rfl) | (simp [*, errW_none, errW_some] <;> rfl), by repeat (first | (with_reducible first | exact HB.out | apply below_alloc | apply pw_below_drewN | apply below_drew1 | refine below_set ?_ GE339.out | refine below_set ?_ GE352.out) | exact HB.out)⟩
 subst c18
 rw [if_pos rfl] at H
 replace H := Option.bind_eq_some_iff.mp H
 obtain ⟨⟨t362, t363⟩, A190, H⟩ := H
 have A19 := Aside0.mk A190
 clear A190
 have HC20 := Aside0.mk H
 clear H
 go_enter Try.func4, Try.ntmps4
 try go_wp2_with (first | ((with_reducible refine gate_dst (N := 4) rfl ?_); refine box_event ?hg (N := 4) ?hd (cs := #[.int .i64 a0_0, .slice A0_1 l0_1.length c0_1]) (t := 24) ?hr ?_; (case hd => rfl); (case hg => rfl); (case hr => first | (go_simp; done) | (go_simp; rfl)); intro gb339 hg w21 hbox hb; have BK339 := Aside0.mk hbox; have GW339 := ge_ HB hg; have GE339 := ge_ HB hg; replace HB := Aside0.mk (bt_ HB hb); clear hb hbox hg; have hcz22_0 := cz_ BK339 0 (.int .i64 a0_0); have hcz22_1 := cz_ BK339 1 (.slice A0_1 l0_1.length c0_1); have hfz22_0 := blk_frozen BK339.out 0; have hfz22_1 := blk_frozen BK339.out 1) | ((with_reducible refine gate_callee (f := 10) rfl ?_); refine gl_ (some 19) Try.func10 #[.agg #[.int .i64 a0_0, .slice A0_1 l0_1.length c0_1], .int .i64 1048576] ?_; (with_reducible refine (laws_szGraph.calls a0_0 _ _ l0_1 1048576 t340 _ ?side1 ?side2 A5.out).mono ?_); (case side1 => exact cb_ HR0_1 HB); (case side2 => exact HC0_1.out); rintro e w23 ⟨rfl, hb⟩; refine ⟨_, rfl, ?_⟩; replace BK339 := Aside0.mk (bb_ BK339 hb); replace HB := Aside0.mk (bt_ HB hb); (try clear hb); (try clear hb2); (try clear hk); (try clear hi); have hcz24_0 := cz_ BK339 0 (.int .i64 a0_0); have hcz24_1 := cz_ BK339 1 (.slice A0_1 l0_1.length c0_1); have hfz24_0 := blk_frozen BK339.out 0; have hfz24_1 := blk_frozen BK339.out 1) | ((with_reducible refine gate_callee (f := 12) rfl ?_); refine gl_ (some 23) Try.func12 #[.agg #[.int .i64 a0_0, .slice A0_1 l0_1.length c0_1]] ?_; (with_reducible refine (laws_toGraph.calls k a0_0 _ _ l0_1 t341 t342 _ ?side1 ?side2 A10.out).mono ?_); (case side1 => exact cb_ HR0_1 HB); (case side2 => exact HC0_1.out); rintro e w25 ⟨v343, rfl, ho0, hb⟩; refine ⟨_, rfl, ?_⟩; have HO344 := Aside0.mk (Kd.R_lower ho0 (bz_ HB)); replace BK339 := Aside0.mk (bb_ BK339 hb); replace HB := Aside0.mk (bt_ HB hb); (try clear hb); (try clear hb2); (try clear hk); (try clear hi); (try clear ho0); obtain ⟨Ao26, co26, eo26⟩ := Kd.R_slice HO344.out; subst eo26) | ((with_reducible refine gate_callee (f := 19) rfl ?_); refine gl_ (some 27) Try.func19 #[.agg #[.int .i64 t341, .slice Ao26 t342.length co26], .int .i64 a1, .int .i64 a2, .int .i64 a3] ?_; (with_reducible refine (spec_Shares.calls k t341 _ _ t342 a1 a2 a3 t345 _ ?side1 ?side2 A11.out).mono ?_); (case side1 => exact rc_ HO344); (case side2 => exact (Kd.R_reads' HO344.out).2.1); rintro e w27 ⟨v346, rfl, ho0, hb⟩; refine ⟨_, rfl, ?_⟩; have HO347 := Aside0.mk (Kd.R_lower ho0 (bz_ HB)); replace HO344 := rb_ HO344 hb; replace BK339 := Aside0.mk (bb_ BK339 hb); replace HB := Aside0.mk (bt_ HB hb); (try clear hb); (try clear hb2); (try clear hk); (try clear hi); (try clear ho0); have hcz28_0 := cz_ BK339 0 (.int .i64 a0_0); have hcz28_1 := cz_ BK339 1 (.slice A0_1 l0_1.length c0_1); have hfz28_0 := blk_frozen BK339.out 0; have hfz28_1 := blk_frozen BK339.out 1) | ((with_reducible refine gate_callee (f := 12) rfl ?_); refine gl_ (some 29) Try.func12 #[.agg #[.int .i64 a0_0, .slice A0_1 l0_1.length c0_1]] ?_; (with_reducible refine (laws_toGraph.calls k a0_0 _ _ l0_1 t348 t349 _ ?side1 ?side2 A12.out).mono ?_); (case side1 => exact cb_ HR0_1 HB); (case side2 => exact HC0_1.out); rintro e w29 ⟨v350, rfl, ho0, hb⟩; refine ⟨_, rfl, ?_⟩; have HO351 := Aside0.mk (Kd.R_lower (Kd.R_new' ho0 (Kd.R_lt (hd_ HO344))) (bz_ HB)); replace HO347 := rb_ HO347 hb; replace HO344 := Aside0.mk (Kd.R_elder' (hd_ HO344) (Kd.R_base ho0) hb); replace BK339 := Aside0.mk (bb_ BK339 hb); replace HB := Aside0.mk (bt_ HB hb); (try clear hb); (try clear hb2); (try clear hk); (try clear hi); (try clear ho0)) | ((with_reducible refine gate_dst (N := 11) rfl ?_); refine box_event ?hg (N := 11) ?hd (cs := #[.int .i64 0, .slice none 0 0]) (t := 30) ?hr ?_; (case hd => rfl); (case hg => rfl); (case hr => first | (go_simp; done) | (go_simp; rfl)); intro gb352 hg w30 hbox hb; have BK352 := Aside0.mk hbox; have GW352 := ge_ HB hg; have GE352 := ge_ HB hg; have NB339_352 := nl_ BK339 hg; have NB352_339 := ng_ BK339 hg; replace HO344 := rb_ HO344 hb; replace HO347 := rb_ HO347 hb; replace HO351 := rb_ HO351 hb; replace HB := Aside0.mk (bt_ HB hb); replace BK339 := Aside0.mk (bb_ BK339 hb); clear hb hbox hg; have hnb31 := NB352_339.out; have hnc31 := NB339_352.out; have hcz32_0 := cz_ BK352 0 (.int .i64 0); have hcz32_1 := cz_ BK352 1 (.slice none 0 0); have hfz32_0 := blk_frozen BK352.out 0; have hfz32_1 := blk_frozen BK352.out 1; obtain ⟨Ao33, co33, eo33⟩ := Kd.R_slice HO351.out; subst eo33) | ((with_reducible refine gate_callee (f := 20) rfl ?_); refine gl_ (some 34) Try.func20 #[.agg #[.int .i64 t348, .slice Ao33 t349.length co33], .int .i64 a1, .int .i64 a2, .int .i64 a3] ?_; (with_reducible refine (impl_Shares.calls k t348 _ _ t349 a1 a2 a3 t353 _ ?side1 ?side2 A13.out).mono ?_); (case side1 => refine (Kd.R_reads' (e := 76) (base := w.heap.size) (ok := fun k_ => (True ∧ some k_ ≠ (.slice Ao26 t342.length co26 : Value).ownBlock)) (n := t349.length) (c := co33) ?_).2.2; exact (hs_ HO351 BK352)); (case side2 => exact (Kd.R_reads' HO351.out).2.1); rintro e w34 ⟨v354, rfl, ho0, hb⟩; refine ⟨_, rfl, ?_⟩; have HO355 := Aside0.mk (Kd.R_lower (Kd.R_new' ho0 (Kd.R_lt (hs_ HO347 BK352))) (bz_ HB)); replace HO344 := rs_ HO344 BK352 hb; replace HO351 := rs_ HO351 BK352 hb; replace HO347 := Aside0.mk (Kd.R_elder' (hs_ HO347 BK352) (Kd.R_base ho0) hb); replace BK339 := bf_ BK339 NB339_352 hb; replace BK352 := Aside0.mk (blk_below (g := gb352) (o := .cells #[.int .i64 t348, .slice Ao33 t349.length co33] 30 (0, 0)) (by (with_reducible repeat (first | refine blk_drewN ?_ _ | refine blk_drew ?_ | refine blk_alloc ?_ _)); refine blk_put (cs := #[.int .i64 t348, .slice none 0 0]) ?_ 1 _ rfl; (with_reducible repeat (first | refine blk_drewN ?_ _ | refine blk_drew ?_ | refine blk_alloc ?_ _)); refine blk_put (cs := #[.int .i64 0, .slice none 0 0]) ?_ 0 _ rfl; (with_reducible repeat (first | refine blk_drewN ?_ _ | refine blk_drew ?_ | refine blk_alloc ?_ _)); exact BK352.out) hb); replace HB := Aside0.mk (bt_ HB hb); (try clear hb); (try clear hb2); (try clear hk); (try clear hi); (try clear ho0); obtain ⟨Ao35, co35, eo35⟩ := Kd.R_slice HO355.out; subst eo35; obtain ⟨Ao36, co36, eo36⟩ := Kd.R_slice HO347.out; subst eo36) | ((with_reducible refine gate_callee (f := 14) rfl ?_); refine gl_ (some 37) Try.func14 #[.slice Ao35 t353.length co35, .slice Ao36 t345.length co36] ?_; (with_reducible refine (laws_eqIntS.calls k _ _ t353 _ _ t345 true _ ?side1 ?side2 ?side3 ?side4 A14.out).mono ?_); (case side1 => exact rc_ HO355); (case side2 => exact (Kd.R_reads' HO355.out).2.1); (case side3 => exact rc_ HO347); (case side4 => exact (Kd.R_reads' HO347.out).2.1); rintro e w' ⟨rfl, ⟨nd, rfl⟩⟩; refine ⟨_, rfl, ?_⟩))
 (try (rw [drewN_self w34]; generalize hq_ : World.drewN w34 _ = w34; replace HO344 : Aside0 (Kd.R k76 76 w34 w.heap.size (fun k_ => some k_ ≠ (.slice Ao33 t349.length co33 : Value).ownBlock) (.slice Ao26 t342.length co26) t342) := ⟨by rw [← hq_]; exact (by (with_reducible repeat (first | apply Kd.R_alloc | apply Kd.R_drewN | apply Kd.R_drew)); exact Kd.R_mono HO344.out (fun _ hk => hk.2))⟩; replace HO347 : Aside0 (Kd.R (Kd.int .i64) 3 w34 w.heap.size (fun k_ => some k_ ≠ (.slice Ao35 t353.length co35 : Value).ownBlock) (.slice Ao36 t345.length co36) t345) := ⟨by rw [← hq_]; exact (by (with_reducible repeat (first | apply Kd.R_alloc | apply Kd.R_drewN | apply Kd.R_drew)); exact Kd.R_mono HO347.out (fun _ hk => hk.2))⟩; replace HO351 : Aside0 (Kd.R k76 76 w34 w.heap.size (fun k_ => some k_ ≠ (.slice Ao26 t342.length co26 : Value).ownBlock) (.slice Ao33 t349.length co33) t349) := ⟨by rw [← hq_]; exact (by (with_reducible repeat (first | apply Kd.R_alloc | apply Kd.R_drewN | apply Kd.R_drew)); exact Kd.R_mono HO351.out (fun _ hk => hk.2))⟩; replace HO355 : Aside0 (Kd.R (Kd.int .i64) 3 w34 w.heap.size (fun k_ => some k_ ≠ (.slice Ao36 t345.length co36 : Value).ownBlock) (.slice Ao35 t353.length co35) t353) := ⟨by rw [← hq_]; exact (by (with_reducible repeat (first | apply Kd.R_alloc | apply Kd.R_drewN | apply Kd.R_drew)); exact Kd.R_mono HO355.out (fun _ hk => hk.2))⟩; replace BK339 : Aside0 (w34.heap[gb339]? = some (.cells #[.int .i64 a0_0, .slice A0_1 l0_1.length c0_1] 24 (0, 0))) := ⟨by rw [← hq_]; exact (by (with_reducible repeat (first | refine blk_drewN ?_ _ | refine blk_drew ?_ | refine blk_alloc ?_ _)); exact BK339.out)⟩; replace BK352 : Aside0 (w34.heap[gb352]? = some (.cells #[.int .i64 t348, .slice Ao33 t349.length co33] 30 (0, 0))) := ⟨by rw [← hq_]; exact (by (with_reducible repeat (first | refine blk_drewN ?_ _ | refine blk_drew ?_ | refine blk_alloc ?_ _)); exact BK352.out)⟩; replace HB : Aside0 (Below w.heap.size w w34) := ⟨by rw [← hq_]; exact (by repeat (first | (with_reducible first | exact HB.out | apply below_alloc | apply pw_below_drewN | apply below_drew1 | refine below_set ?_ GE339.out | refine below_set ?_ GE352.out) | exact HB.out))⟩; clear hq_))
 replace HO344 := Aside0.mk (Kd.R_drew HO344.out)
 replace HO347 := Aside0.mk (Kd.R_drew HO347.out)
 replace HO351 := Aside0.mk (Kd.R_drew HO351.out)
 replace HO355 := Aside0.mk (Kd.R_drew HO355.out)
 replace BK339 := Aside0.mk (blk_drew BK339.out)
 replace BK352 := Aside0.mk (blk_drew BK352.out)
 replace HB := Aside0.mk (below_drew1 HB.out)
 refine start_ (n := 5) (S := fun w' => w'.cell? ⟨gb352, 0, none⟩ = some (.int .i64 t348) ∧ w'.cell? ⟨gb352, 1, none⟩ = some (.slice Ao33 t349.length co33) ∧ w'.cell? ⟨gb339, 0, none⟩ = some (.int .i64 a0_0) ∧ w'.cell? ⟨gb339, 1, none⟩ = some (.slice A0_1 l0_1.length c0_1)) (ds := []) ba14_0 (by kernel_rfl) rfl rfl ⟨(blk_cell BK352.out 0).trans rfl, (blk_cell BK352.out 1).trans rfl, (blk_cell BK339.out 0).trans rfl, (blk_cell BK339.out 1).trans rfl⟩ (fun hHeld => ?_)
 generalize w34.drew = w37 at HO344 HO347 HO351 HO355 BK339 BK352 HB hHeld ⊢
 refine take_ (i := 0) (N := some 39) (v := ?_) (a' := ?_) ba14_1 rfl rfl (by kernel_rfl) (fun _ _ _ h => h) (Or.inl ⟨by rfl, ?_⟩) hHeld ?_ ?_
 rotate_left; · rintro w' ⟨s0, s1, s2, s3⟩; go_simp; with_reducible rfl
 rotate_left; · simp only [Act.put, List.setIfInBounds_toArray, List.set_cons_zero, List.set_cons_succ, i64_w, i32_w]; rfl
 refine take_ (i := 1) (N := some 40) (v := ?_) (a' := ?_) ba14_2 rfl rfl (by kernel_rfl) (fun _ _ _ h => h) (Or.inl ⟨by rfl, ?_⟩) hHeld ?_ ?_
 rotate_left; · rintro w' ⟨s0, s1, s2, s3⟩; go_simp; with_reducible rfl
 rotate_left; · simp only [Act.put, List.setIfInBounds_toArray, List.set_cons_zero, List.set_cons_succ, i64_w, i32_w]; rfl
 refine one_ (i := 2) (N := some 41) ba14_3 rfl rfl (by kernel_rfl) (by decide) (fun K hK => ?_)
 refine gz_ Try.func12 #[.agg #[.int .i64 a0_0, .slice A0_1 l0_1.length c0_1]] ?_
 with_reducible refine (laws_toGraph.calls k a0_0 _ _ l0_1 t357 t358 _ ?side1 ?side2 A16.out).mono ?_
 (case side1 => exact cb_ HR0_1 HB)
 (case side2 => exact HC0_1.out)
 rintro e w38 ⟨v359, rfl, ho0, hb⟩
 refine ⟨_, rfl, ?_⟩
 have HO360 := Aside0.mk (Kd.R_lower (Kd.R_new' (Kd.R_new' ho0 (Kd.R_lt (hd_ HO344))) (Kd.R_lt (hd_ HO351))) (bz_ HB))
 replace HO347 := rb_ HO347 hb
 replace HO355 := rb_ HO355 hb
 replace HO344 := Aside0.mk (Kd.R_elder' (hd_ HO344) (Kd.R_base ho0) hb)
 replace HO351 := Aside0.mk (Kd.R_elder' (hd_ HO351) (Kd.R_base ho0) hb)
 replace BK339 := Aside0.mk (bb_ BK339 hb)
 replace BK352 := Aside0.mk (bb_ BK352 hb)
 replace HB := Aside0.mk (bt_ HB hb)
 (try clear hb)
 (try clear hb2)
 (try clear hk)
 (try clear hi)
 (try clear ho0)
 obtain ⟨Ao39, co39, eo39⟩ := Kd.R_slice HO360.out
 (first | subst eo39 | (injection eo39 with f1_ f2_ f3_; have f4_ := f1_.symm; have f5_ := f3_.symm; clear f1_ f2_ f3_; subst f4_; subst f5_))
 refine hK.out _ _ ⟨(blk_cell BK352.out 0).trans rfl, (blk_cell BK352.out 1).trans rfl, (blk_cell BK339.out 0).trans rfl, (blk_cell BK339.out 1).trans rfl⟩ (fun hHeld => ?_)
 clear hK K
 refine nz_ 41 ?_
 refine one_ (i := 3) (N := some 42) ba14_4 rfl rfl (by kernel_rfl) (by decide) (fun K hK => ?_)
 refine gz_ Try.func15 #[.agg #[.int .i64 t348, .slice Ao33 t349.length co33], .agg #[.int .i64 t357, .slice Ao39 t358.length co39]] ?_
 with_reducible refine (laws_eqGraph.calls k t348 _ _ t349 t357 _ _ t358 true _ ?side1 ?side2 ?side3 ?side4 A17.out).mono ?_
 (case side1 => exact rc_ HO351)
 (case side2 => exact (Kd.R_reads' HO351.out).2.1)
 (case side3 => exact rc_ HO360)
 (case side4 => exact (Kd.R_reads' HO360.out).2.1)
 rintro e w40 ⟨rfl, hb⟩
 refine ⟨_, rfl, ?_⟩
 replace HO344 := rb_ HO344 hb
 replace HO347 := rb_ HO347 hb
 replace HO351 := rb_ HO351 hb
 replace HO355 := rb_ HO355 hb
 replace HO360 := rb_ HO360 hb
 replace BK339 := Aside0.mk (bb_ BK339 hb)
 replace BK352 := Aside0.mk (bb_ BK352 hb)
 replace HB := Aside0.mk (bt_ HB hb)
 (try clear hb)
 (try clear hb2)
 (try clear hk)
 (try clear hi)
 refine hK.out _ _ ⟨(blk_cell BK352.out 0).trans rfl, (blk_cell BK352.out 1).trans rfl, (blk_cell BK339.out 0).trans rfl, (blk_cell BK339.out 1).trans rfl⟩ (fun hHeld => ?_)
 clear hK K
 refine nz_ 42 ?_
 refine pure_ (i := 4) (N := some 43) (v := ?_) (a' := ?_) ba14_5 rfl rfl (by kernel_rfl) (fun _ _ _ h => h) (Or.inl ⟨by rfl, ?_⟩) ?_ ?_
 rotate_left; · intro w'; go_simp; with_reducible rfl
 rotate_left; · simp only [Act.put, List.setIfInBounds_toArray, List.set_cons_zero, List.set_cons_succ, i64_w, i32_w]; rfl
 refine done_ (by kernel_rfl) ?_
 have hcz41_0 := cz_ BK352 0 (.int .i64 t348)
 have hcz41_1 := cz_ BK352 1 (.slice Ao33 t349.length co33)
 have hfz41_0 := blk_frozen BK352.out 0
 have hfz41_1 := blk_frozen BK352.out 1
 go_upto_region 14 with (first | ((with_reducible refine gate_callee (f := 16) rfl ?_); refine gl_ (some 46) Try.func16 #[.agg #[.int .i64 t348, .slice Ao33 t349.length co33], .int .i64 1] ?_; (with_reducible refine (laws_markGraph.calls k t348 (fun k_ => some k_ = (.slice Ao33 t349.length co33 : Value).ownBlock) (.slice Ao33 t349.length co33) t349 1 t362 t363 w _ ?side1 ?side2 A19.out).mono ?_); (case side1 => exact by_ HB); (case side2 => exact Kd.R_tight rfl HO351.out); rintro e w42 ⟨rfl, hy0, hb, hkp⟩; refine ⟨_, rfl, ?_⟩; replace BK339 := bk_ BK339 hkp (fun hs_ => (Kd.R_ne HO351.out BK339.out (by decide)) hs_); replace HO344 := kp_ (fun k_ => some k_ ≠ (.slice Ao33 t349.length co33 : Value).ownBlock ∧ some k_ ≠ (.slice Ao39 t358.length co39 : Value).ownBlock) (HO344.out) hkp; replace HO347 := kp_ (fun k_ => some k_ ≠ (.slice Ao35 t353.length co35 : Value).ownBlock) ((Kd.R_apart' HO347.out (Kd.R_typed HO351.out) (by decide))) hkp; replace BK352 := bk_ BK352 hkp (fun hs_ => (Kd.R_ne HO351.out BK352.out (by decide)) hs_); replace HO355 := kp_ (fun k_ => some k_ ≠ (.slice Ao36 t345.length co36 : Value).ownBlock) ((Kd.R_apart' HO355.out (Kd.R_typed HO351.out) (by decide))) hkp; replace HO351 := Aside0.mk (Kd.R_reok rfl hy0 (fun k_ e_ => HO351.out.1 k_ e_)); replace HO360 := kp_ (fun k_ => some k_ ≠ (.slice Ao26 t342.length co26 : Value).ownBlock ∧ some k_ ≠ (.slice Ao33 t349.length co33 : Value).ownBlock) (HO360.out) hkp; replace HB := Aside0.mk (hb); (try clear hb); (try clear hkp); (try clear hy0)))
 (try simp only [Act.put, List.setIfInBounds_toArray, List.set_cons_zero, List.set_cons_succ])
 go_cut [54] (fun v54 wc => ∃ (kq : Nat) (x54_19 : Bool), v54 = .bool x54_19 ∧ Aside0 (laws_FnExactShares.j0 kq a1 a2 a3 t345 t353 x54_19 a0_0 l0_1 = some r) ∧ Aside0 (kq ≤ k) ∧ Aside0 (Kd.R (Kd.int .i64) 3 wc w.heap.size (fun k_ => some k_ ≠ ((.slice Ao35 t353.length co35) : Value).ownBlock) (.slice Ao36 t345.length co36) t345) ∧ Aside0 (Kd.R (Kd.int .i64) 3 wc w.heap.size (fun k_ => some k_ ≠ ((.slice Ao36 t345.length co36) : Value).ownBlock) (.slice Ao35 t353.length co35) t353) ∧ Aside0 (Kd.R k76 76 wc w.heap.size (fun _ => True) (.slice Ao33 t349.length co33) t363) ∧ Aside0 (wc.heap[gb339]? = some (.cells #[.int .i64 a0_0, (.slice A0_1 l0_1.length c0_1)] 24 (0, 0))) ∧ Aside0 (wc.heap[gb352]? = some (.cells #[.int .i64 t348, (.slice Ao33 t349.length co33)] 30 (0, 0))) ∧ Aside0 (Below w.heap.size w wc))
 case first =>
  have H := HC20.out
  clear HC20
  by_cases c43 : t362 < 0
  ·rw [if_pos c43] at H
   have c43b0 : decide (t362 < 0) = true := decide_eq_true c43
   clear c43
   (first | rw [c43b0] | (simp only [i64_w, i32_w]; rw [c43b0]) | skip)
   have H' := Aside0.mk H
   clear H
   go_wp2
   go_meet
   case rel => exact ⟨_, (true), (by first | rfl | (simp; done) | (simp [*]; done)), H', ⟨by first | omega | exact Nat.le_refl _⟩, ⟨by (with_reducible repeat (first | apply Kd.R_alloc | apply Kd.R_drewN | apply Kd.R_drew)); exact HO347.out⟩, ⟨by (with_reducible repeat (first | apply Kd.R_alloc | apply Kd.R_drewN | apply Kd.R_drew)); exact HO355.out⟩, ⟨by (with_reducible repeat (first | apply Kd.R_alloc | apply Kd.R_drewN | apply Kd.R_drew)); exact Kd.R_mono HO351.out (fun _ hk => trivial)⟩, ⟨by (with_reducible repeat (first | refine blk_drewN ?_ _ | refine blk_drew ?_ | refine blk_alloc ?_ _)); exact BK339.out⟩, ⟨by (with_reducible repeat (first | refine blk_drewN ?_ _ | refine blk_drew ?_ | refine blk_alloc ?_ _)); exact BK352.out⟩, ⟨by repeat (first | (with_reducible first | exact HB.out | apply below_alloc | apply pw_below_drewN | apply below_drew1 | refine below_set ?_ GE339.out | refine below_set ?_ GE352.out) | exact HB.out)⟩⟩
  rw [if_neg c43] at H
  have c43b0 : decide (t362 < 0) = false := decide_eq_false c43
  clear c43
  (first | rw [c43b0] | (simp only [i64_w, i32_w]; rw [c43b0]) | skip)
  replace H := Option.bind_eq_some_iff.mp H
  obtain ⟨t364, A440, H⟩ := H
  have A44 := Aside0.mk A440
  clear A440
  have H' := Aside0.mk H
  clear H
  go_wp2_with (first | (go_at_call 14; (with_reducible refine (laws_eqIntS.calls k _ _ t353 _ _ t345 t364 _ ?side1 ?side2 ?side3 ?side4 A44.out).mono ?_); (case side1 => exact rc_ HO355); (case side2 => exact (Kd.R_reads' HO355.out).2.1); (case side3 => exact rc_ HO347); (case side4 => exact (Kd.R_reads' HO347.out).2.1); rintro e w' ⟨rfl, ⟨nd, rfl⟩⟩))
  go_meet
  case rel => exact ⟨_, (!t364), (by first | rfl | (simp; done) | (simp [*]; done)), H', ⟨by first | omega | exact Nat.le_refl _⟩, ⟨by (with_reducible repeat (first | apply Kd.R_alloc | apply Kd.R_drewN | apply Kd.R_drew)); exact HO347.out⟩, ⟨by (with_reducible repeat (first | apply Kd.R_alloc | apply Kd.R_drewN | apply Kd.R_drew)); exact HO355.out⟩, ⟨by (with_reducible repeat (first | apply Kd.R_alloc | apply Kd.R_drewN | apply Kd.R_drew)); exact Kd.R_mono HO351.out (fun _ hk => trivial)⟩, ⟨by (with_reducible repeat (first | refine blk_drewN ?_ _ | refine blk_drew ?_ | refine blk_alloc ?_ _)); exact BK339.out⟩, ⟨by (with_reducible repeat (first | refine blk_drewN ?_ _ | refine blk_drew ?_ | refine blk_alloc ?_ _)); exact BK352.out⟩, ⟨by repeat (first | (with_reducible first | exact HB.out | apply below_alloc | apply pw_below_drewN | apply below_drew1 | refine below_set ?_ GE339.out | refine below_set ?_ GE352.out) | exact HB.out)⟩⟩
 case rest =>
  clear HC20
  try clear c1
  try clear c2
  try clear p2
  try clear c3
  try clear c4
  try clear c6
  try clear c6b0
  try clear c10
  try clear c12
  try clear c14
  try clear c15
  try clear c16
  try clear c18
  try clear c19
  try clear c20
  try clear c31
  try clear c43
  try clear c43b0
  try clear hcz22_0
  try clear hcz22_1
  try clear hcz24_0
  try clear hcz24_1
  try clear hcz28_0
  try clear hcz28_1
  try clear hcz32_0
  try clear hcz32_1
  try clear hcz41_0
  try clear hcz41_1
  try clear hcz8_0
  try clear hcz8_1
  try clear hfz22_0
  try clear hfz22_1
  try clear hfz24_0
  try clear hfz24_1
  try clear hfz28_0
  try clear hfz28_1
  try clear hfz32_0
  try clear hfz32_1
  try clear hfz41_0
  try clear hfz41_1
  try clear hfz8_0
  try clear hfz8_1
  obtain ⟨kq, x54_19, rfl, HA, HJ19, HO_10, HO_12, HO_353001, BK339, BK352, HB⟩ := hcut
  have hl353001_19 := (Kd.R_reads' HO_353001.out).1
  rw [hl353001_19] at HO_353001
  (try simp only [hl353001_19])
  (try simp only [hl353001_19] at BK339)
  (try simp only [hl353001_19] at BK352)
  (try simp only [hl353001_19] at HO_10)
  (try simp only [hl353001_19] at HO_12)
  cases kq with
  | zero => exact absurd HA.out (by simp [laws_FnExactShares.j0])
  | succ kj19 =>
   have H := HA.out
   clear HA
   simp only [laws_FnExactShares.j0] at H
   by_cases c45 : x54_19 = true
   ·subst c45
    rw [if_pos rfl] at H
    obtain rfl := Option.some.inj H
    go_wp2
    go_ret
    exact ⟨by first | rfl | (simp [errW_none, errW_some] <;> rfl) | (simp [*, errW_none, errW_some] <;> rfl), by repeat (first | (with_reducible first | exact HB.out | apply below_alloc | apply pw_below_drewN | apply below_drew1 | refine below_set ?_ GE339.out | refine below_set ?_ GE352.out) | exact HB.out)⟩
   replace c45 := Bool.eq_false_iff.mpr c45
   subst c45
   rw [if_neg (show ¬ (false = true) by decide)] at H
   replace H := Option.bind_eq_some_iff.mp H
   obtain ⟨⟨t365, t366⟩, A460, H⟩ := H
   have A46 := Aside0.mk A460
   clear A460
   replace H := Option.bind_eq_some_iff.mp H
   obtain ⟨t367, A470, H⟩ := H
   have A47 := Aside0.mk A470
   clear A470
   by_cases c48 : t367 < 0
   ·rw [if_pos c48] at H
    have c48b0 : decide (t367 < 0) = true := decide_eq_true c48
    clear c48
    obtain rfl := Option.some.inj H
    go_wp2_with (first | ((with_reducible refine gate_callee (f := 17) rfl ?_); refine gl_ (some 57) Try.func17 #[.slice Ao35 t353.length co35, .int .i64 1] ?_; (with_reducible refine (laws_markIntS.calls kj19 (fun k_ => some k_ = (.slice Ao35 t353.length co35 : Value).ownBlock) (.slice Ao35 t353.length co35) t353 1 t365 t366 w _ ?side1 ?side2 A46.out).mono ?_); (case side1 => exact by_ HB); (case side2 => exact Kd.R_tight rfl HO_12.out); rintro e w49 ⟨rfl, hy0, hb, hkp⟩; refine ⟨_, rfl, ?_⟩; replace HO_10 := kp_ (fun k_ => some k_ ≠ (.slice Ao35 t353.length co35 : Value).ownBlock) (HO_10.out) hkp; replace HO_353001 := kp_ (fun k_ => True) ((Kd.R_apart' HO_353001.out (Kd.R_typed HO_12.out) (by decide))) hkp; replace BK339 := bk_ BK339 hkp (fun hs_ => (Kd.R_ne HO_12.out BK339.out (by decide)) hs_); replace BK352 := bk_ BK352 hkp (fun hs_ => (Kd.R_ne HO_12.out BK352.out (by decide)) hs_); replace HO_12 := Aside0.mk (Kd.R_reok rfl hy0 (fun k_ e_ => HO_12.out.1 k_ e_)); replace HB := Aside0.mk (hb); (try clear hb); (try clear hkp); (try clear hy0)) | ((with_reducible refine gate_callee (f := 18) rfl ?_); refine goesL_ (some 60) rfl rfl Try.func18 (by kernel_rfl) rfl #[.slice Ao35 t366.length co35, .int .i64 1] rfl (by (try simp only [List.map_toArray, List.map_cons, List.map_nil]); first | done | (rw [show t366.length = t353.length from (Kd.R_reads' HO_12.out).1.symm] <;> rfl) | rfl | (simp only [List.length_drop, List.length_take]; rfl)) ?_; (with_reducible refine (laws_heldIntS.calls kj19 _ _ t366 1 t367 _ ?side1 ?side2 A47.out).mono ?_); (case side1 => exact rc_ HO_12); (case side2 => rw [show t366.length = t353.length from (Kd.R_reads' HO_12.out).1.symm]; exact (Kd.R_reads' HO_12.out).2.1); rintro e w' ⟨rfl, ⟨nd, rfl⟩⟩; refine ⟨_, rfl, ?_⟩))
    go_ret
    exact ⟨by first | rfl | (simp [errW_none, errW_some] <;> rfl) | (simp [*, errW_none, errW_some] <;> rfl), by repeat (first | (with_reducible first | exact HB.out | apply below_alloc | apply pw_below_drewN | apply below_drew1 | refine below_set ?_ GE339.out | refine below_set ?_ GE352.out) | exact HB.out)⟩
   rw [if_neg c48] at H
   have c48b0 : decide (t367 < 0) = false := decide_eq_false c48
   clear c48
   by_cases c50 : t367 = t365
   rotate_left
   ·rw [if_neg c50] at H
    have c50b0 : (t367 == t365) = false := beq_eq_false_iff_ne.mpr c50
    have c50b1 : (t367 != t365) = true := bne_iff_ne.mpr c50
    obtain rfl := Option.some.inj H
    go_wp2_with (first | ((with_reducible refine gate_callee (f := 17) rfl ?_); refine gl_ (some 57) Try.func17 #[.slice Ao35 t353.length co35, .int .i64 1] ?_; (with_reducible refine (laws_markIntS.calls kj19 (fun k_ => some k_ = (.slice Ao35 t353.length co35 : Value).ownBlock) (.slice Ao35 t353.length co35) t353 1 t365 t366 w _ ?side1 ?side2 A46.out).mono ?_); (case side1 => exact by_ HB); (case side2 => exact Kd.R_tight rfl HO_12.out); rintro e w86 ⟨rfl, hy0, hb, hkp⟩; refine ⟨_, rfl, ?_⟩; replace HO_10 := kp_ (fun k_ => some k_ ≠ (.slice Ao35 t353.length co35 : Value).ownBlock) (HO_10.out) hkp; replace HO_353001 := kp_ (fun k_ => True) ((Kd.R_apart' HO_353001.out (Kd.R_typed HO_12.out) (by decide))) hkp; replace BK339 := bk_ BK339 hkp (fun hs_ => (Kd.R_ne HO_12.out BK339.out (by decide)) hs_); replace BK352 := bk_ BK352 hkp (fun hs_ => (Kd.R_ne HO_12.out BK352.out (by decide)) hs_); replace HO_12 := Aside0.mk (Kd.R_reok rfl hy0 (fun k_ e_ => HO_12.out.1 k_ e_)); replace HB := Aside0.mk (hb); (try clear hb); (try clear hkp); (try clear hy0)) | ((with_reducible refine gate_callee (f := 18) rfl ?_); refine goesL_ (some 60) rfl rfl Try.func18 (by kernel_rfl) rfl #[.slice Ao35 t366.length co35, .int .i64 1] rfl (by (try simp only [List.map_toArray, List.map_cons, List.map_nil]); first | done | (rw [show t366.length = t353.length from (Kd.R_reads' HO_12.out).1.symm] <;> rfl) | rfl | (simp only [List.length_drop, List.length_take]; rfl)) ?_; (with_reducible refine (laws_heldIntS.calls kj19 _ _ t366 1 t367 _ ?side1 ?side2 A47.out).mono ?_); (case side1 => exact rc_ HO_12); (case side2 => rw [show t366.length = t353.length from (Kd.R_reads' HO_12.out).1.symm]; exact (Kd.R_reads' HO_12.out).2.1); rintro e w' ⟨rfl, ⟨nd, rfl⟩⟩; refine ⟨_, rfl, ?_⟩))
    go_ret
    exact ⟨by first | rfl | (simp [errW_none, errW_some] <;> rfl) | (simp [*, errW_none, errW_some] <;> rfl), by repeat (first | (with_reducible first | exact HB.out | apply below_alloc | apply pw_below_drewN | apply below_drew1 | refine below_set ?_ GE339.out | refine below_set ?_ GE352.out) | exact HB.out)⟩
   rw [if_pos c50] at H
   have c50b0 : (t367 == t365) = true := beq_iff_eq.mpr c50
   have c50b1 : (t367 != t365) = false := bne_eq_false_iff_eq.mpr c50
   clear c50
   replace H := Option.bind_eq_some_iff.mp H
   obtain ⟨⟨t368, t369⟩, A510, H⟩ := H
   have A51 := Aside0.mk A510
   clear A510
   replace H := Option.bind_eq_some_iff.mp H
   obtain ⟨t372, A520, H⟩ := H
   have A52 := Aside0.mk A520
   clear A520
   replace H := Option.bind_eq_some_iff.mp H
   obtain ⟨t375, A530, H⟩ := H
   have A53 := Aside0.mk A530
   clear A530
   by_cases c54 : t375 = true
   rotate_left
   ·replace c54 := Bool.eq_false_iff.mpr c54
    subst c54
    rw [if_neg (show ¬ (false = true) by decide)] at H
    obtain rfl := Option.some.inj H
    go_wp2_with (first | ((with_reducible refine gate_callee (f := 17) rfl ?_); refine gl_ (some 57) Try.func17 #[.slice Ao35 t353.length co35, .int .i64 1] ?_; (with_reducible refine (laws_markIntS.calls kj19 (fun k_ => some k_ = (.slice Ao35 t353.length co35 : Value).ownBlock) (.slice Ao35 t353.length co35) t353 1 t365 t366 w _ ?side1 ?side2 A46.out).mono ?_); (case side1 => exact by_ HB); (case side2 => exact Kd.R_tight rfl HO_12.out); rintro e w79 ⟨rfl, hy0, hb, hkp⟩; refine ⟨_, rfl, ?_⟩; replace HO_10 := kp_ (fun k_ => some k_ ≠ (.slice Ao35 t353.length co35 : Value).ownBlock) (HO_10.out) hkp; replace HO_353001 := kp_ (fun k_ => True) ((Kd.R_apart' HO_353001.out (Kd.R_typed HO_12.out) (by decide))) hkp; replace BK339 := bk_ BK339 hkp (fun hs_ => (Kd.R_ne HO_12.out BK339.out (by decide)) hs_); replace BK352 := bk_ BK352 hkp (fun hs_ => (Kd.R_ne HO_12.out BK352.out (by decide)) hs_); replace HO_12 := Aside0.mk (Kd.R_reok rfl hy0 (fun k_ e_ => HO_12.out.1 k_ e_)); replace HB := Aside0.mk (hb); (try clear hb); (try clear hkp); (try clear hy0)) | ((with_reducible refine gate_callee (f := 18) rfl ?_); refine goesL_ (some 60) rfl rfl Try.func18 (by kernel_rfl) rfl #[.slice Ao35 t366.length co35, .int .i64 1] rfl (by (try simp only [List.map_toArray, List.map_cons, List.map_nil]); first | done | (rw [show t366.length = t353.length from (Kd.R_reads' HO_12.out).1.symm] <;> rfl) | rfl | (simp only [List.length_drop, List.length_take]; rfl)) ?_; (with_reducible refine (laws_heldIntS.calls kj19 _ _ t366 1 t367 _ ?side1 ?side2 A47.out).mono ?_); (case side1 => exact rc_ HO_12); (case side2 => rw [show t366.length = t353.length from (Kd.R_reads' HO_12.out).1.symm]; exact (Kd.R_reads' HO_12.out).2.1); rintro e w' ⟨rfl, ⟨nd, rfl⟩⟩; refine ⟨_, rfl, ?_⟩; have hnb80 := NB339_352.out; have hnc80 := NB352_339.out; have hcz81_0 := cz_ BK339 0 (.int .i64 a0_0); have hcz81_1 := cz_ BK339 1 (.slice A0_1 l0_1.length c0_1); have hfz81_0 := blk_frozen BK339.out 0; have hfz81_1 := blk_frozen BK339.out 1) | ((with_reducible refine gate_callee (f := 12) rfl ?_); refine gl_ (some 67) Try.func12 #[.agg #[.int .i64 a0_0, .slice A0_1 l0_1.length c0_1]] ?_; (with_reducible refine (laws_toGraph.calls kj19 a0_0 _ _ l0_1 t368 t369 _ ?side1 ?side2 A51.out).mono ?_); (case side1 => exact cc_ HR0_1 HB); (case side2 => exact HC0_1.out); rintro e w82 ⟨v370, rfl, ho0, hb⟩; refine ⟨_, rfl, ?_⟩; have HO371 := Aside0.mk (Kd.R_lower (Kd.R_new' ho0 (Kd.R_lt (hd_ HO_353001))) (bz_ HB)); replace HO_10 := rb_ HO_10 hb; replace HO_12 := rb_ HO_12 hb; replace HO_353001 := Aside0.mk (Kd.R_elder' (hd_ HO_353001) (Kd.R_base ho0) hb); replace BK339 := Aside0.mk (bb_ BK339 hb); replace BK352 := Aside0.mk (bb_ BK352 hb); replace HB := Aside0.mk (bt_ HB hb); (try clear hb); (try clear hb2); (try clear hk); (try clear hi); (try clear ho0); obtain ⟨Ao83, co83, eo83⟩ := Kd.R_slice HO371.out; subst eo83) | ((with_reducible refine gate_callee (f := 20) rfl ?_); refine gl_ (some 71) Try.func20 #[.agg #[.int .i64 t368, .slice Ao83 t369.length co83], .int .i64 a1, .int .i64 a2, .int .i64 a3] ?_; (with_reducible refine (impl_Shares.calls kj19 t368 _ _ t369 a1 a2 a3 t372 _ ?side1 ?side2 A52.out).mono ?_); (case side1 => exact rc_ HO371); (case side2 => exact (Kd.R_reads' HO371.out).2.1); rintro e w84 ⟨v373, rfl, ho0, hb⟩; refine ⟨_, rfl, ?_⟩; have HO374 := Aside0.mk (Kd.R_lower (Kd.R_new' (Kd.R_new' ho0 (Kd.R_lt (hd_ HO_10))) (Kd.R_lt (hd_ HO_12))) (bz_ HB)); replace HO_353001 := rb_ HO_353001 hb; replace HO371 := rb_ HO371 hb; replace HO_10 := Aside0.mk (Kd.R_elder' (hd_ HO_10) (Kd.R_base ho0) hb); replace HO_12 := Aside0.mk (Kd.R_elder' (hd_ HO_12) (Kd.R_base ho0) hb); replace BK339 := Aside0.mk (bb_ BK339 hb); replace BK352 := Aside0.mk (bb_ BK352 hb); replace HB := Aside0.mk (bt_ HB hb); (try clear hb); (try clear hb2); (try clear hk); (try clear hi); (try clear ho0); obtain ⟨Ao85, co85, eo85⟩ := Kd.R_slice HO374.out; subst eo85) | ((with_reducible refine gate_callee (f := 14) rfl ?_); refine gl_ (some 74) Try.func14 #[.slice Ao85 t372.length co85, .slice Ao36 t345.length co36] ?_; (with_reducible refine (laws_eqIntS.calls kj19 _ _ t372 _ _ t345 false _ ?side1 ?side2 ?side3 ?side4 A53.out).mono ?_); (case side1 => exact rc_ HO374); (case side2 => exact (Kd.R_reads' HO374.out).2.1); (case side3 => exact rc_ HO_10); (case side4 => exact (Kd.R_reads' HO_10.out).2.1); rintro e w' ⟨rfl, ⟨nd, rfl⟩⟩; refine ⟨_, rfl, ?_⟩))
    go_ret
    exact ⟨by first | rfl | (simp [errW_none, errW_some] <;> rfl) | (simp [*, errW_none, errW_some] <;> rfl), by repeat (first | (with_reducible first | exact HB.out | apply below_alloc | apply pw_below_drewN | apply below_drew1 | refine below_set ?_ GE339.out | refine below_set ?_ GE352.out) | exact HB.out)⟩
   subst c54
   rw [if_pos rfl] at H
   replace H := Option.bind_eq_some_iff.mp H
   obtain ⟨t376, A550, H⟩ := H
   have A55 := Aside0.mk A550
   clear A550
   by_cases c56 : t376 < 0
   ·rw [if_pos c56] at H
    have c56b0 : decide (t376 < 0) = true := decide_eq_true c56
    clear c56
    obtain rfl := Option.some.inj H
    go_wp2_with (first | ((with_reducible refine gate_callee (f := 17) rfl ?_); refine gl_ (some 57) Try.func17 #[.slice Ao35 t353.length co35, .int .i64 1] ?_; (with_reducible refine (laws_markIntS.calls kj19 (fun k_ => some k_ = (.slice Ao35 t353.length co35 : Value).ownBlock) (.slice Ao35 t353.length co35) t353 1 t365 t366 w _ ?side1 ?side2 A46.out).mono ?_); (case side1 => exact by_ HB); (case side2 => exact Kd.R_tight rfl HO_12.out); rintro e w57 ⟨rfl, hy0, hb, hkp⟩; refine ⟨_, rfl, ?_⟩; replace HO_10 := kp_ (fun k_ => some k_ ≠ (.slice Ao35 t353.length co35 : Value).ownBlock) (HO_10.out) hkp; replace HO_353001 := kp_ (fun k_ => True) ((Kd.R_apart' HO_353001.out (Kd.R_typed HO_12.out) (by decide))) hkp; replace BK339 := bk_ BK339 hkp (fun hs_ => (Kd.R_ne HO_12.out BK339.out (by decide)) hs_); replace BK352 := bk_ BK352 hkp (fun hs_ => (Kd.R_ne HO_12.out BK352.out (by decide)) hs_); replace HO_12 := Aside0.mk (Kd.R_reok rfl hy0 (fun k_ e_ => HO_12.out.1 k_ e_)); replace HB := Aside0.mk (hb); (try clear hb); (try clear hkp); (try clear hy0)) | ((with_reducible refine gate_callee (f := 18) rfl ?_); refine goesL_ (some 60) rfl rfl Try.func18 (by kernel_rfl) rfl #[.slice Ao35 t366.length co35, .int .i64 1] rfl (by (try simp only [List.map_toArray, List.map_cons, List.map_nil]); first | done | (rw [show t366.length = t353.length from (Kd.R_reads' HO_12.out).1.symm] <;> rfl) | rfl | (simp only [List.length_drop, List.length_take]; rfl)) ?_; (with_reducible refine (laws_heldIntS.calls kj19 _ _ t366 1 t367 _ ?side1 ?side2 A47.out).mono ?_); (case side1 => exact rc_ HO_12); (case side2 => rw [show t366.length = t353.length from (Kd.R_reads' HO_12.out).1.symm]; exact (Kd.R_reads' HO_12.out).2.1); rintro e w' ⟨rfl, ⟨nd, rfl⟩⟩; refine ⟨_, rfl, ?_⟩; have hnb58 := NB339_352.out; have hnc58 := NB352_339.out; have hcz59_0 := cz_ BK339 0 (.int .i64 a0_0); have hcz59_1 := cz_ BK339 1 (.slice A0_1 l0_1.length c0_1); have hfz59_0 := blk_frozen BK339.out 0; have hfz59_1 := blk_frozen BK339.out 1) | ((with_reducible refine gate_callee (f := 12) rfl ?_); refine gl_ (some 67) Try.func12 #[.agg #[.int .i64 a0_0, .slice A0_1 l0_1.length c0_1]] ?_; (with_reducible refine (laws_toGraph.calls kj19 a0_0 _ _ l0_1 t368 t369 _ ?side1 ?side2 A51.out).mono ?_); (case side1 => exact cc_ HR0_1 HB); (case side2 => exact HC0_1.out); rintro e w60 ⟨v370, rfl, ho0, hb⟩; refine ⟨_, rfl, ?_⟩; have HO371 := Aside0.mk (Kd.R_lower (Kd.R_new' ho0 (Kd.R_lt (hd_ HO_353001))) (bz_ HB)); replace HO_10 := rb_ HO_10 hb; replace HO_12 := rb_ HO_12 hb; replace HO_353001 := Aside0.mk (Kd.R_elder' (hd_ HO_353001) (Kd.R_base ho0) hb); replace BK339 := Aside0.mk (bb_ BK339 hb); replace BK352 := Aside0.mk (bb_ BK352 hb); replace HB := Aside0.mk (bt_ HB hb); (try clear hb); (try clear hb2); (try clear hk); (try clear hi); (try clear ho0); obtain ⟨Ao61, co61, eo61⟩ := Kd.R_slice HO371.out; subst eo61) | ((with_reducible refine gate_callee (f := 20) rfl ?_); refine gl_ (some 71) Try.func20 #[.agg #[.int .i64 t368, .slice Ao61 t369.length co61], .int .i64 a1, .int .i64 a2, .int .i64 a3] ?_; (with_reducible refine (impl_Shares.calls kj19 t368 _ _ t369 a1 a2 a3 t372 _ ?side1 ?side2 A52.out).mono ?_); (case side1 => exact rc_ HO371); (case side2 => exact (Kd.R_reads' HO371.out).2.1); rintro e w62 ⟨v373, rfl, ho0, hb⟩; refine ⟨_, rfl, ?_⟩; have HO374 := Aside0.mk (Kd.R_lower (Kd.R_new' (Kd.R_new' ho0 (Kd.R_lt (hd_ HO_10))) (Kd.R_lt (hd_ HO_12))) (bz_ HB)); replace HO_353001 := rb_ HO_353001 hb; replace HO371 := rb_ HO371 hb; replace HO_10 := Aside0.mk (Kd.R_elder' (hd_ HO_10) (Kd.R_base ho0) hb); replace HO_12 := Aside0.mk (Kd.R_elder' (hd_ HO_12) (Kd.R_base ho0) hb); replace BK339 := Aside0.mk (bb_ BK339 hb); replace BK352 := Aside0.mk (bb_ BK352 hb); replace HB := Aside0.mk (bt_ HB hb); (try clear hb); (try clear hb2); (try clear hk); (try clear hi); (try clear ho0); obtain ⟨Ao63, co63, eo63⟩ := Kd.R_slice HO374.out; subst eo63) | ((with_reducible refine gate_callee (f := 14) rfl ?_); refine gl_ (some 74) Try.func14 #[.slice Ao63 t372.length co63, .slice Ao36 t345.length co36] ?_; (with_reducible refine (laws_eqIntS.calls kj19 _ _ t372 _ _ t345 true _ ?side1 ?side2 ?side3 ?side4 A53.out).mono ?_); (case side1 => exact rc_ HO374); (case side2 => exact (Kd.R_reads' HO374.out).2.1); (case side3 => exact rc_ HO_10); (case side4 => exact (Kd.R_reads' HO_10.out).2.1); rintro e w' ⟨rfl, ⟨nd, rfl⟩⟩; refine ⟨_, rfl, ?_⟩) | ((with_reducible refine gate_callee (f := 18) rfl ?_); refine goesL_ (some 78) rfl rfl Try.func18 (by kernel_rfl) rfl #[.slice Ao35 t366.length co35, .int .i64 1] rfl (by (try simp only [List.map_toArray, List.map_cons, List.map_nil]); first | done | (rw [show t366.length = t353.length from (Kd.R_reads' HO_12.out).1.symm] <;> rfl) | rfl | (simp only [List.length_drop, List.length_take]; rfl)) ?_; (with_reducible refine (laws_heldIntS.calls kj19 _ _ t366 1 t376 _ ?side1 ?side2 A55.out).mono ?_); (case side1 => exact rc_ HO_12); (case side2 => rw [show t366.length = t353.length from (Kd.R_reads' HO_12.out).1.symm]; exact (Kd.R_reads' HO_12.out).2.1); rintro e w' ⟨rfl, ⟨nd, rfl⟩⟩; refine ⟨_, rfl, ?_⟩))
    go_ret
    exact ⟨by first | rfl | (simp [errW_none, errW_some] <;> rfl) | (simp [*, errW_none, errW_some] <;> rfl), by repeat (first | (with_reducible first | exact HB.out | apply below_alloc | apply pw_below_drewN | apply below_drew1 | refine below_set ?_ GE339.out | refine below_set ?_ GE352.out) | exact HB.out)⟩
   rw [if_neg c56] at H
   have c56b0 : decide (t376 < 0) = false := decide_eq_false c56
   clear c56
   by_cases c64 : t376 = t365
   rotate_left
   ·rw [if_neg c64] at H
    have c64b0 : (t376 == t365) = false := beq_eq_false_iff_ne.mpr c64
    have c64b1 : (t376 != t365) = true := bne_iff_ne.mpr c64
    obtain rfl := Option.some.inj H
    go_wp2_with (first | ((with_reducible refine gate_callee (f := 17) rfl ?_); refine gl_ (some 57) Try.func17 #[.slice Ao35 t353.length co35, .int .i64 1] ?_; (with_reducible refine (laws_markIntS.calls kj19 (fun k_ => some k_ = (.slice Ao35 t353.length co35 : Value).ownBlock) (.slice Ao35 t353.length co35) t353 1 t365 t366 w _ ?side1 ?side2 A46.out).mono ?_); (case side1 => exact by_ HB); (case side2 => exact Kd.R_tight rfl HO_12.out); rintro e w72 ⟨rfl, hy0, hb, hkp⟩; refine ⟨_, rfl, ?_⟩; replace HO_10 := kp_ (fun k_ => some k_ ≠ (.slice Ao35 t353.length co35 : Value).ownBlock) (HO_10.out) hkp; replace HO_353001 := kp_ (fun k_ => True) ((Kd.R_apart' HO_353001.out (Kd.R_typed HO_12.out) (by decide))) hkp; replace BK339 := bk_ BK339 hkp (fun hs_ => (Kd.R_ne HO_12.out BK339.out (by decide)) hs_); replace BK352 := bk_ BK352 hkp (fun hs_ => (Kd.R_ne HO_12.out BK352.out (by decide)) hs_); replace HO_12 := Aside0.mk (Kd.R_reok rfl hy0 (fun k_ e_ => HO_12.out.1 k_ e_)); replace HB := Aside0.mk (hb); (try clear hb); (try clear hkp); (try clear hy0)) | ((with_reducible refine gate_callee (f := 18) rfl ?_); refine goesL_ (some 60) rfl rfl Try.func18 (by kernel_rfl) rfl #[.slice Ao35 t366.length co35, .int .i64 1] rfl (by (try simp only [List.map_toArray, List.map_cons, List.map_nil]); first | done | (rw [show t366.length = t353.length from (Kd.R_reads' HO_12.out).1.symm] <;> rfl) | rfl | (simp only [List.length_drop, List.length_take]; rfl)) ?_; (with_reducible refine (laws_heldIntS.calls kj19 _ _ t366 1 t367 _ ?side1 ?side2 A47.out).mono ?_); (case side1 => exact rc_ HO_12); (case side2 => rw [show t366.length = t353.length from (Kd.R_reads' HO_12.out).1.symm]; exact (Kd.R_reads' HO_12.out).2.1); rintro e w' ⟨rfl, ⟨nd, rfl⟩⟩; refine ⟨_, rfl, ?_⟩; have hnb73 := NB339_352.out; have hnc73 := NB352_339.out; have hcz74_0 := cz_ BK339 0 (.int .i64 a0_0); have hcz74_1 := cz_ BK339 1 (.slice A0_1 l0_1.length c0_1); have hfz74_0 := blk_frozen BK339.out 0; have hfz74_1 := blk_frozen BK339.out 1) | ((with_reducible refine gate_callee (f := 12) rfl ?_); refine gl_ (some 67) Try.func12 #[.agg #[.int .i64 a0_0, .slice A0_1 l0_1.length c0_1]] ?_; (with_reducible refine (laws_toGraph.calls kj19 a0_0 _ _ l0_1 t368 t369 _ ?side1 ?side2 A51.out).mono ?_); (case side1 => exact cc_ HR0_1 HB); (case side2 => exact HC0_1.out); rintro e w75 ⟨v370, rfl, ho0, hb⟩; refine ⟨_, rfl, ?_⟩; have HO371 := Aside0.mk (Kd.R_lower (Kd.R_new' ho0 (Kd.R_lt (hd_ HO_353001))) (bz_ HB)); replace HO_10 := rb_ HO_10 hb; replace HO_12 := rb_ HO_12 hb; replace HO_353001 := Aside0.mk (Kd.R_elder' (hd_ HO_353001) (Kd.R_base ho0) hb); replace BK339 := Aside0.mk (bb_ BK339 hb); replace BK352 := Aside0.mk (bb_ BK352 hb); replace HB := Aside0.mk (bt_ HB hb); (try clear hb); (try clear hb2); (try clear hk); (try clear hi); (try clear ho0); obtain ⟨Ao76, co76, eo76⟩ := Kd.R_slice HO371.out; subst eo76) | ((with_reducible refine gate_callee (f := 20) rfl ?_); refine gl_ (some 71) Try.func20 #[.agg #[.int .i64 t368, .slice Ao76 t369.length co76], .int .i64 a1, .int .i64 a2, .int .i64 a3] ?_; (with_reducible refine (impl_Shares.calls kj19 t368 _ _ t369 a1 a2 a3 t372 _ ?side1 ?side2 A52.out).mono ?_); (case side1 => exact rc_ HO371); (case side2 => exact (Kd.R_reads' HO371.out).2.1); rintro e w77 ⟨v373, rfl, ho0, hb⟩; refine ⟨_, rfl, ?_⟩; have HO374 := Aside0.mk (Kd.R_lower (Kd.R_new' (Kd.R_new' ho0 (Kd.R_lt (hd_ HO_10))) (Kd.R_lt (hd_ HO_12))) (bz_ HB)); replace HO_353001 := rb_ HO_353001 hb; replace HO371 := rb_ HO371 hb; replace HO_10 := Aside0.mk (Kd.R_elder' (hd_ HO_10) (Kd.R_base ho0) hb); replace HO_12 := Aside0.mk (Kd.R_elder' (hd_ HO_12) (Kd.R_base ho0) hb); replace BK339 := Aside0.mk (bb_ BK339 hb); replace BK352 := Aside0.mk (bb_ BK352 hb); replace HB := Aside0.mk (bt_ HB hb); (try clear hb); (try clear hb2); (try clear hk); (try clear hi); (try clear ho0); obtain ⟨Ao78, co78, eo78⟩ := Kd.R_slice HO374.out; subst eo78) | ((with_reducible refine gate_callee (f := 14) rfl ?_); refine gl_ (some 74) Try.func14 #[.slice Ao78 t372.length co78, .slice Ao36 t345.length co36] ?_; (with_reducible refine (laws_eqIntS.calls kj19 _ _ t372 _ _ t345 true _ ?side1 ?side2 ?side3 ?side4 A53.out).mono ?_); (case side1 => exact rc_ HO374); (case side2 => exact (Kd.R_reads' HO374.out).2.1); (case side3 => exact rc_ HO_10); (case side4 => exact (Kd.R_reads' HO_10.out).2.1); rintro e w' ⟨rfl, ⟨nd, rfl⟩⟩; refine ⟨_, rfl, ?_⟩) | ((with_reducible refine gate_callee (f := 18) rfl ?_); refine goesL_ (some 78) rfl rfl Try.func18 (by kernel_rfl) rfl #[.slice Ao35 t366.length co35, .int .i64 1] rfl (by (try simp only [List.map_toArray, List.map_cons, List.map_nil]); first | done | (rw [show t366.length = t353.length from (Kd.R_reads' HO_12.out).1.symm] <;> rfl) | rfl | (simp only [List.length_drop, List.length_take]; rfl)) ?_; (with_reducible refine (laws_heldIntS.calls kj19 _ _ t366 1 t376 _ ?side1 ?side2 A55.out).mono ?_); (case side1 => exact rc_ HO_12); (case side2 => rw [show t366.length = t353.length from (Kd.R_reads' HO_12.out).1.symm]; exact (Kd.R_reads' HO_12.out).2.1); rintro e w' ⟨rfl, ⟨nd, rfl⟩⟩; refine ⟨_, rfl, ?_⟩))
    go_ret
    exact ⟨by first | rfl | (simp [errW_none, errW_some] <;> rfl) | (simp [*, errW_none, errW_some] <;> rfl), by repeat (first | (with_reducible first | exact HB.out | apply below_alloc | apply pw_below_drewN | apply below_drew1 | refine below_set ?_ GE339.out | refine below_set ?_ GE352.out) | exact HB.out)⟩
   rw [if_pos c64] at H
   have c64b0 : (t376 == t365) = true := beq_iff_eq.mpr c64
   have c64b1 : (t376 != t365) = false := bne_eq_false_iff_eq.mpr c64
   clear c64
   obtain rfl := Option.some.inj H
   go_wp2_with (first | ((with_reducible refine gate_callee (f := 17) rfl ?_); refine gl_ (some 57) Try.func17 #[.slice Ao35 t353.length co35, .int .i64 1] ?_; (with_reducible refine (laws_markIntS.calls kj19 (fun k_ => some k_ = (.slice Ao35 t353.length co35 : Value).ownBlock) (.slice Ao35 t353.length co35) t353 1 t365 t366 w _ ?side1 ?side2 A46.out).mono ?_); (case side1 => exact by_ HB); (case side2 => exact Kd.R_tight rfl HO_12.out); rintro e w65 ⟨rfl, hy0, hb, hkp⟩; refine ⟨_, rfl, ?_⟩; replace HO_10 := kp_ (fun k_ => some k_ ≠ (.slice Ao35 t353.length co35 : Value).ownBlock) (HO_10.out) hkp; replace HO_353001 := kp_ (fun k_ => True) ((Kd.R_apart' HO_353001.out (Kd.R_typed HO_12.out) (by decide))) hkp; replace BK339 := bk_ BK339 hkp (fun hs_ => (Kd.R_ne HO_12.out BK339.out (by decide)) hs_); replace BK352 := bk_ BK352 hkp (fun hs_ => (Kd.R_ne HO_12.out BK352.out (by decide)) hs_); replace HO_12 := Aside0.mk (Kd.R_reok rfl hy0 (fun k_ e_ => HO_12.out.1 k_ e_)); replace HB := Aside0.mk (hb); (try clear hb); (try clear hkp); (try clear hy0)) | ((with_reducible refine gate_callee (f := 18) rfl ?_); refine goesL_ (some 60) rfl rfl Try.func18 (by kernel_rfl) rfl #[.slice Ao35 t366.length co35, .int .i64 1] rfl (by (try simp only [List.map_toArray, List.map_cons, List.map_nil]); first | done | (rw [show t366.length = t353.length from (Kd.R_reads' HO_12.out).1.symm] <;> rfl) | rfl | (simp only [List.length_drop, List.length_take]; rfl)) ?_; (with_reducible refine (laws_heldIntS.calls kj19 _ _ t366 1 t367 _ ?side1 ?side2 A47.out).mono ?_); (case side1 => exact rc_ HO_12); (case side2 => rw [show t366.length = t353.length from (Kd.R_reads' HO_12.out).1.symm]; exact (Kd.R_reads' HO_12.out).2.1); rintro e w' ⟨rfl, ⟨nd, rfl⟩⟩; refine ⟨_, rfl, ?_⟩; have hnb66 := NB339_352.out; have hnc66 := NB352_339.out; have hcz67_0 := cz_ BK339 0 (.int .i64 a0_0); have hcz67_1 := cz_ BK339 1 (.slice A0_1 l0_1.length c0_1); have hfz67_0 := blk_frozen BK339.out 0; have hfz67_1 := blk_frozen BK339.out 1) | ((with_reducible refine gate_callee (f := 12) rfl ?_); refine gl_ (some 67) Try.func12 #[.agg #[.int .i64 a0_0, .slice A0_1 l0_1.length c0_1]] ?_; (with_reducible refine (laws_toGraph.calls kj19 a0_0 _ _ l0_1 t368 t369 _ ?side1 ?side2 A51.out).mono ?_); (case side1 => exact cc_ HR0_1 HB); (case side2 => exact HC0_1.out); rintro e w68 ⟨v370, rfl, ho0, hb⟩; refine ⟨_, rfl, ?_⟩; have HO371 := Aside0.mk (Kd.R_lower (Kd.R_new' ho0 (Kd.R_lt (hd_ HO_353001))) (bz_ HB)); replace HO_10 := rb_ HO_10 hb; replace HO_12 := rb_ HO_12 hb; replace HO_353001 := Aside0.mk (Kd.R_elder' (hd_ HO_353001) (Kd.R_base ho0) hb); replace BK339 := Aside0.mk (bb_ BK339 hb); replace BK352 := Aside0.mk (bb_ BK352 hb); replace HB := Aside0.mk (bt_ HB hb); (try clear hb); (try clear hb2); (try clear hk); (try clear hi); (try clear ho0); obtain ⟨Ao69, co69, eo69⟩ := Kd.R_slice HO371.out; subst eo69) | ((with_reducible refine gate_callee (f := 20) rfl ?_); refine gl_ (some 71) Try.func20 #[.agg #[.int .i64 t368, .slice Ao69 t369.length co69], .int .i64 a1, .int .i64 a2, .int .i64 a3] ?_; (with_reducible refine (impl_Shares.calls kj19 t368 _ _ t369 a1 a2 a3 t372 _ ?side1 ?side2 A52.out).mono ?_); (case side1 => exact rc_ HO371); (case side2 => exact (Kd.R_reads' HO371.out).2.1); rintro e w70 ⟨v373, rfl, ho0, hb⟩; refine ⟨_, rfl, ?_⟩; have HO374 := Aside0.mk (Kd.R_lower (Kd.R_new' (Kd.R_new' ho0 (Kd.R_lt (hd_ HO_10))) (Kd.R_lt (hd_ HO_12))) (bz_ HB)); replace HO_353001 := rb_ HO_353001 hb; replace HO371 := rb_ HO371 hb; replace HO_10 := Aside0.mk (Kd.R_elder' (hd_ HO_10) (Kd.R_base ho0) hb); replace HO_12 := Aside0.mk (Kd.R_elder' (hd_ HO_12) (Kd.R_base ho0) hb); replace BK339 := Aside0.mk (bb_ BK339 hb); replace BK352 := Aside0.mk (bb_ BK352 hb); replace HB := Aside0.mk (bt_ HB hb); (try clear hb); (try clear hb2); (try clear hk); (try clear hi); (try clear ho0); obtain ⟨Ao71, co71, eo71⟩ := Kd.R_slice HO374.out; subst eo71) | ((with_reducible refine gate_callee (f := 14) rfl ?_); refine gl_ (some 74) Try.func14 #[.slice Ao71 t372.length co71, .slice Ao36 t345.length co36] ?_; (with_reducible refine (laws_eqIntS.calls kj19 _ _ t372 _ _ t345 true _ ?side1 ?side2 ?side3 ?side4 A53.out).mono ?_); (case side1 => exact rc_ HO374); (case side2 => exact (Kd.R_reads' HO374.out).2.1); (case side3 => exact rc_ HO_10); (case side4 => exact (Kd.R_reads' HO_10.out).2.1); rintro e w' ⟨rfl, ⟨nd, rfl⟩⟩; refine ⟨_, rfl, ?_⟩) | ((with_reducible refine gate_callee (f := 18) rfl ?_); refine goesL_ (some 78) rfl rfl Try.func18 (by kernel_rfl) rfl #[.slice Ao35 t366.length co35, .int .i64 1] rfl (by (try simp only [List.map_toArray, List.map_cons, List.map_nil]); first | done | (rw [show t366.length = t353.length from (Kd.R_reads' HO_12.out).1.symm] <;> rfl) | rfl | (simp only [List.length_drop, List.length_take]; rfl)) ?_; (with_reducible refine (laws_heldIntS.calls kj19 _ _ t366 1 t376 _ ?side1 ?side2 A55.out).mono ?_); (case side1 => exact rc_ HO_12); (case side2 => rw [show t366.length = t353.length from (Kd.R_reads' HO_12.out).1.symm]; exact (Kd.R_reads' HO_12.out).2.1); rintro e w' ⟨rfl, ⟨nd, rfl⟩⟩; refine ⟨_, rfl, ?_⟩))
   go_ret
   exact ⟨by first | rfl | (simp [errW_none, errW_some] <;> rfl) | (simp [*, errW_none, errW_some] <;> rfl), by repeat (first | (with_reducible first | exact HB.out | apply below_alloc | apply pw_below_drewN | apply below_drew1 | refine below_set ?_ GE339.out | refine below_set ?_ GE352.out) | exact HB.out)⟩

end Go.Proofs.Ythmahcohcphljaa.QFnExactShares
