/- Contracts of functions that the law reaches: what each call returns and what it leaves in memory. Made by this session over the print of the kit. -/
import Derived.Test.YteopiggdpadolaaQFnExactAllDistancesx0
import Derived.Test.YteopiggdpadolaaQFnExactAllDistancesx1
import Derived.Test.YteopiggdpadolaaQFnExactAllDistancesx2
import Derived.Test.YteopiggdpadolaaQFnExactAllDistancesx4
import Derived.Test.YteopiggdpadolaaQFnExactAllDistancesx6
import Derived.Test.YteopiggdpadolaaQFnExactAllDistancesx7
namespace Go.Proofs.Yteopiggdpadolaa.QFnExactAllDistances
open Go.RowKit Go.Proofs.YteopiggdpadolaaU.PrintWords Go.Proofs.YteopiggdpadolaaU.PrintLast Go.Proofs.YteopiggdpadolaaU.PrintMore
attribute [local go_sem] max2_int min2_int max_two min_two max_three min_three max_four min_four   -- for this text's walks alone
set_option linter.unusedVariables false
set_option linter.unusedSimpArgs false
def ba8_0 : Array Bool := #[false, false, false, false, false]
def ba8_1 : Array Bool := #[true, false, false, false, false]
def ba8_2 : Array Bool := #[true, true, false, false, false]
def ba8_3 : Array Bool := #[true, true, true, false, false]
def ba8_4 : Array Bool := #[true, true, true, true, false]
def ba8_5 : Array Bool := #[true, true, true, true, true]

/-! ### laws_FnExactAllDistances: function 8 -/
def laws_FnExactAllDistances.j0 : Nat → List (List Int) → List (List Int) → Bool → Int → List (S82) → Option (Bool)
 | 0, _, _, _, _, _ => none
 | k + 1, x4, x6, x42, x227000, x227001 => if x42 = true then (some false) else ((laws_markIntSS.f k x6 1).bind fun bt252 => ((laws_heldIntSS.f k bt252.2 1).bind fun t254 => (if t254 < 0 then (some false) else (if t254 = bt252.1 then ((laws_toGraph.f k x227000 x227001).bind fun bt255 => ((impl_AllDistances.f k bt255.1 bt255.2).bind fun t259 => ((laws_eqIntSS.f k t259 x4).bind fun t262 => (if t262 = true then ((laws_heldIntSS.f k bt252.2 1).bind fun t263 => (if t263 < 0 then (some false) else (if t263 = bt252.1 then (some true) else (some false)))) else (some false))))) else (some false)))))
def laws_FnExactAllDistances.f (k : Nat) (a0_0 : Int) (l0_1 : List (S82)) : Option (Bool) := (laws_szGraph.f a0_0 l0_1 1048576).bind fun t227 => (if t227 < 0 then (some true) else ((laws_toGraph.f k a0_0 l0_1).bind fun bt228 => ((spec_AllDistances.f k bt228.1 bt228.2).bind fun t232 => ((laws_toGraph.f k a0_0 l0_1).bind fun bt235 => ((impl_AllDistances.f k bt235.1 bt235.2).bind fun t240 => ((laws_eqIntSS.f k t240 t232).bind fun t243 => (if t243 = true then ((laws_toGraph.f k a0_0 l0_1).bind fun bt244 => ((laws_eqGraph.f k bt235.1 bt235.2 bt244.1 bt244.2).bind fun t248 => (if t248 = true then ((laws_markGraph.f k bt235.1 bt235.2 1).bind fun bt249 => (if bt249.1 < 0 then (laws_FnExactAllDistances.j0 k t232 t240 true a0_0 l0_1) else ((laws_eqIntSS.f k t240 t232).bind fun t251 => (laws_FnExactAllDistances.j0 k t232 t240 (!t251) a0_0 l0_1)))) else (some false)))) else (some false))))))))
theorem laws_FnExactAllDistances.mono_l : ∀ k, (∀ y0 y1 y2 y3 y4, LeO (laws_FnExactAllDistances.j0 k y0 y1 y2 y3 y4) (laws_FnExactAllDistances.j0 (k + 1) y0 y1 y2 y3 y4))
 | 0 => fun _ _ _ _ _ r h => by simp [laws_FnExactAllDistances.j0] at h
 | k + 1 => by
  have ih0 := laws_FnExactAllDistances.mono_l k
  ·intro y0 y1 y2 y3 y4
   unfold laws_FnExactAllDistances.j0
   repeat' first
   | (with_reducible exact ih0 _ _ _ _ _)
   | (with_reducible exact impl_AllDistances.mono _ _ _)
   | (with_reducible exact laws_eqGraph.mono _ _ _ _ _)
   | (with_reducible exact laws_eqIntSS.mono _ _ _)
   | (with_reducible exact laws_heldIntSS.mono _ _ _)
   | (with_reducible exact laws_markGraph.mono _ _ _ _)
   | (with_reducible exact laws_markIntSS.mono _ _ _)
   | (with_reducible exact laws_toGraph.mono _ _ _)
   | (with_reducible exact spec_AllDistances.mono _ _ _)
   | (with_reducible exact LeO.refl _)
   | (with_reducible exact LeO.none _)
   | (with_reducible refine LeO.ite ?_ ?_)
   | (with_reducible refine LeO.bind ?_ (fun _ => ?_))
   | exact ih0 _ _ _ _ _
   | exact impl_AllDistances.mono _ _ _
   | exact laws_eqGraph.mono _ _ _ _ _
   | exact laws_eqIntSS.mono _ _ _
   | exact laws_heldIntSS.mono _ _ _
   | exact laws_markGraph.mono _ _ _ _
   | exact laws_markIntSS.mono _ _ _
   | exact laws_toGraph.mono _ _ _
   | exact spec_AllDistances.mono _ _ _
   | exact LeO.none _
   | refine LeO.ite ?_ ?_
   | refine LeO.bind ?_ (fun _ => ?_)
theorem laws_FnExactAllDistances.mono : ∀ a0 a1 k, LeO (laws_FnExactAllDistances.f k a0 a1) (laws_FnExactAllDistances.f (k + 1) a0 a1) := by
 intro a0 a1 k
 have ih0 := laws_FnExactAllDistances.mono_l k
 unfold laws_FnExactAllDistances.f
 repeat' first
   | (with_reducible exact ih0 _ _ _ _ _)
   | (with_reducible exact impl_AllDistances.mono _ _ _)
   | (with_reducible exact laws_eqGraph.mono _ _ _ _ _)
   | (with_reducible exact laws_eqIntSS.mono _ _ _)
   | (with_reducible exact laws_heldIntSS.mono _ _ _)
   | (with_reducible exact laws_markGraph.mono _ _ _ _)
   | (with_reducible exact laws_markIntSS.mono _ _ _)
   | (with_reducible exact laws_toGraph.mono _ _ _)
   | (with_reducible exact spec_AllDistances.mono _ _ _)
   | (with_reducible exact LeO.refl _)
   | (with_reducible exact LeO.none _)
   | (with_reducible refine LeO.ite ?_ ?_)
   | (with_reducible refine LeO.bind ?_ (fun _ => ?_))
   | exact ih0 _ _ _ _ _
   | exact impl_AllDistances.mono _ _ _
   | exact laws_eqGraph.mono _ _ _ _ _
   | exact laws_eqIntSS.mono _ _ _
   | exact laws_heldIntSS.mono _ _ _
   | exact laws_markGraph.mono _ _ _ _
   | exact laws_markIntSS.mono _ _ _
   | exact laws_toGraph.mono _ _ _
   | exact spec_AllDistances.mono _ _ _
   | exact LeO.none _
   | refine LeO.ite ?_ ?_
   | refine LeO.bind ?_ (fun _ => ?_)
set_option maxHeartbeats 8000000 in
set_option maxRecDepth 100000 in
theorem laws_FnExactAllDistances.calls (k : Nat) (a0_0 : Int) (A0_1 : Option Addr) (c0_1 : Nat) (l0_1 : List (S82)) (r : Bool) (w : World) (hr0_1 : Kd.C k82 w A0_1 l0_1.length l0_1) (hc0_1 : l0_1.length ≤ c0_1) (h : laws_FnExactAllDistances.f k a0_0 l0_1 = some r) :
  Calls Try.prog 8 #[.agg #[.int .i64 a0_0, .slice A0_1 l0_1.length c0_1]] w fun e w' => e = .returned (.bool r) ∧ Below w.heap.size w w' := by
 have hu24 := Try.underlying24
 have hu30 := Try.underlying30
 have HR0_1 := Aside0.mk hr0_1
 have HC0_1 := Aside0.mk hc0_1
 clear hr0_1 hc0_1
 have HB := Aside0.mk (Below.refl w.heap.size w)
 have H : ((laws_szGraph.f a0_0 l0_1 1048576).bind fun t227 => (if t227 < 0 then (some true) else ((laws_toGraph.f k a0_0 l0_1).bind fun bt228 => ((spec_AllDistances.f k bt228.1 bt228.2).bind fun t232 => ((laws_toGraph.f k a0_0 l0_1).bind fun bt235 => ((impl_AllDistances.f k bt235.1 bt235.2).bind fun t240 => ((laws_eqIntSS.f k t240 t232).bind fun t243 => (if t243 = true then ((laws_toGraph.f k a0_0 l0_1).bind fun bt244 => ((laws_eqGraph.f k bt235.1 bt235.2 bt244.1 bt244.2).bind fun t248 => (if t248 = true then ((laws_markGraph.f k bt235.1 bt235.2 1).bind fun bt249 => (if bt249.1 < 0 then (laws_FnExactAllDistances.j0 k t232 t240 true a0_0 l0_1) else ((laws_eqIntSS.f k t240 t232).bind fun t251 => (laws_FnExactAllDistances.j0 k t232 t240 (!t251) a0_0 l0_1)))) else (some false)))) else (some false))))))))) = some r := h
 clear h
 replace H := Option.bind_eq_some_iff.mp H
 obtain ⟨t227, A20, H⟩ := H
 have A2 := Aside0.mk A20
 clear A20
 by_cases c3 : t227 < 0
 ·rw [if_pos c3] at H
  have c3b0 : decide (t227 < 0) = true := decide_eq_true c3
  clear c3
  obtain rfl := Option.some.inj H
  go_enter Try.func8, Try.ntmps8
  go_wp2_with (first | ((with_reducible refine gate_dst (N := 1) rfl ?_); refine box_event ?hg (N := 1) ?hd (cs := #[.int .i64 a0_0, .slice A0_1 l0_1.length c0_1]) (t := 24) ?hr ?_; (case hd => rfl); (case hg => rfl); (case hr => first | (go_simp; done) | (go_simp; rfl)); intro gb226 hg w4 hbox hb; have BK226 := Aside0.mk hbox; have GW226 := ge_ HB hg; have GE226 := ge_ HB hg; replace HB := Aside0.mk (bt_ HB hb); clear hb hbox hg; have hcz5_0 := cz_ BK226 0 (.int .i64 a0_0); have hcz5_1 := cz_ BK226 1 (.slice A0_1 l0_1.length c0_1); have hfz5_0 := blk_frozen BK226.out 0; have hfz5_1 := blk_frozen BK226.out 1) | ((with_reducible refine gate_callee (f := 15) rfl ?_); refine gl_ (some 13) Try.func15 #[.agg #[.int .i64 a0_0, .slice A0_1 l0_1.length c0_1], .int .i64 1048576] ?_; (with_reducible refine (laws_szGraph.calls a0_0 _ _ l0_1 1048576 t227 _ ?side1 ?side2 A2.out).mono ?_); (case side1 => exact cb_ HR0_1 HB); (case side2 => exact HC0_1.out); rintro e w6 ⟨rfl, hb⟩; refine ⟨_, rfl, ?_⟩; replace BK226 := Aside0.mk (bb_ BK226 hb); replace HB := Aside0.mk (bt_ HB hb); (try clear hb); (try clear hb2); (try clear hk); (try clear hi)))
  go_ret
  exact ⟨by first | rfl | (simp [errW_none, errW_some] <;> rfl) | (simp [*, errW_none, errW_some] <;> rfl), by repeat (first | (with_reducible first | exact HB.out | apply below_alloc | apply pw_below_drewN | apply below_drew1 | refine below_set ?_ GE226.out) | exact HB.out)⟩
 ·rw [if_neg c3] at H
  have c3b0 : decide (t227 < 0) = false := decide_eq_false c3
  clear c3
  replace H := Option.bind_eq_some_iff.mp H
  obtain ⟨⟨t228, t229⟩, A70, H⟩ := H
  have A7 := Aside0.mk A70
  clear A70
  replace H := Option.bind_eq_some_iff.mp H
  obtain ⟨t232, A80, H⟩ := H
  have A8 := Aside0.mk A80
  clear A80
  replace H := Option.bind_eq_some_iff.mp H
  obtain ⟨⟨t235, t236⟩, A90, H⟩ := H
  have A9 := Aside0.mk A90
  clear A90
  replace H := Option.bind_eq_some_iff.mp H
  obtain ⟨t240, A100, H⟩ := H
  have A10 := Aside0.mk A100
  clear A100
  replace H := Option.bind_eq_some_iff.mp H
  obtain ⟨t243, A110, H⟩ := H
  have A11 := Aside0.mk A110
  clear A110
  by_cases c12 : t243 = true
  ·subst c12
   rw [if_pos rfl] at H
   replace H := Option.bind_eq_some_iff.mp H
   obtain ⟨⟨t244, t245⟩, A130, H⟩ := H
   have A13 := Aside0.mk A130
   clear A130
   replace H := Option.bind_eq_some_iff.mp H
   obtain ⟨t248, A140, H⟩ := H
   have A14 := Aside0.mk A140
   clear A140
   by_cases c15 : t248 = true
   ·subst c15
    rw [if_pos rfl] at H
    replace H := Option.bind_eq_some_iff.mp H
    obtain ⟨⟨t249, t250⟩, A160, H⟩ := H
    have A16 := Aside0.mk A160
    clear A160
    have HC17 := Aside0.mk H
    clear H
    go_enter Try.func8, Try.ntmps8
    try go_wp2_with (first | ((with_reducible refine gate_dst (N := 1) rfl ?_); refine box_event ?hg (N := 1) ?hd (cs := #[.int .i64 a0_0, .slice A0_1 l0_1.length c0_1]) (t := 24) ?hr ?_; (case hd => rfl); (case hg => rfl); (case hr => first | (go_simp; done) | (go_simp; rfl)); intro gb226 hg w18 hbox hb; have BK226 := Aside0.mk hbox; have GW226 := ge_ HB hg; have GE226 := ge_ HB hg; replace HB := Aside0.mk (bt_ HB hb); clear hb hbox hg; have hcz19_0 := cz_ BK226 0 (.int .i64 a0_0); have hcz19_1 := cz_ BK226 1 (.slice A0_1 l0_1.length c0_1); have hfz19_0 := blk_frozen BK226.out 0; have hfz19_1 := blk_frozen BK226.out 1) | ((with_reducible refine gate_callee (f := 15) rfl ?_); refine gl_ (some 13) Try.func15 #[.agg #[.int .i64 a0_0, .slice A0_1 l0_1.length c0_1], .int .i64 1048576] ?_; (with_reducible refine (laws_szGraph.calls a0_0 _ _ l0_1 1048576 t227 _ ?side1 ?side2 A2.out).mono ?_); (case side1 => exact cb_ HR0_1 HB); (case side2 => exact HC0_1.out); rintro e w20 ⟨rfl, hb⟩; refine ⟨_, rfl, ?_⟩; replace BK226 := Aside0.mk (bb_ BK226 hb); replace HB := Aside0.mk (bt_ HB hb); (try clear hb); (try clear hb2); (try clear hk); (try clear hi); have hcz21_0 := cz_ BK226 0 (.int .i64 a0_0); have hcz21_1 := cz_ BK226 1 (.slice A0_1 l0_1.length c0_1); have hfz21_0 := blk_frozen BK226.out 0; have hfz21_1 := blk_frozen BK226.out 1) | ((with_reducible refine gate_callee (f := 17) rfl ?_); refine gl_ (some 17) Try.func17 #[.agg #[.int .i64 a0_0, .slice A0_1 l0_1.length c0_1]] ?_; (with_reducible refine (laws_toGraph.calls k a0_0 _ _ l0_1 t228 t229 _ ?side1 ?side2 A7.out).mono ?_); (case side1 => exact cb_ HR0_1 HB); (case side2 => exact HC0_1.out); rintro e w22 ⟨v230, rfl, ho0, hb⟩; refine ⟨_, rfl, ?_⟩; have HO231 := Aside0.mk (Kd.R_lower ho0 (bz_ HB)); replace BK226 := Aside0.mk (bb_ BK226 hb); replace HB := Aside0.mk (bt_ HB hb); (try clear hb); (try clear hb2); (try clear hk); (try clear hi); (try clear ho0); obtain ⟨Ao23, co23, eo23⟩ := Kd.R_slice HO231.out; subst eo23) | ((with_reducible refine gate_callee (f := 34) rfl ?_); refine gl_ (some 18) Try.func34 #[.agg #[.int .i64 t228, .slice Ao23 t229.length co23]] ?_; (with_reducible refine (spec_AllDistances.calls k t228 _ _ t229 t232 _ ?side1 ?side2 A8.out).mono ?_); (case side1 => exact rc_ HO231); (case side2 => exact (Kd.R_reads' HO231.out).2.1); rintro e w24 ⟨v233, rfl, ho0, hb⟩; refine ⟨_, rfl, ?_⟩; have HO234 := Aside0.mk (Kd.S_lower ho0 (bz_ HB)); replace HO231 := rb_ HO231 hb; replace BK226 := Aside0.mk (bb_ BK226 hb); replace HB := Aside0.mk (bt_ HB hb); (try clear hb); (try clear hb2); (try clear hk); (try clear hi); (try clear ho0); have hcz25_0 := cz_ BK226 0 (.int .i64 a0_0); have hcz25_1 := cz_ BK226 1 (.slice A0_1 l0_1.length c0_1); have hfz25_0 := blk_frozen BK226.out 0; have hfz25_1 := blk_frozen BK226.out 1) | ((with_reducible refine gate_callee (f := 17) rfl ?_); refine gl_ (some 20) Try.func17 #[.agg #[.int .i64 a0_0, .slice A0_1 l0_1.length c0_1]] ?_; (with_reducible refine (laws_toGraph.calls k a0_0 _ _ l0_1 t235 t236 _ ?side1 ?side2 A9.out).mono ?_); (case side1 => exact cb_ HR0_1 HB); (case side2 => exact HC0_1.out); rintro e w26 ⟨v237, rfl, ho0, hb⟩; refine ⟨_, rfl, ?_⟩; have HO238 := Aside0.mk (Kd.R_lower (Kd.R_new' ho0 (Kd.R_lt (hd_ HO231))) (bz_ HB)); replace HO234 := Aside0.mk (Kd.S_below (by (with_reducible repeat (first | apply Kd.S_alloc | apply Kd.S_drewN | apply Kd.S_drew)); exact HO234.out) hb); replace HO231 := Aside0.mk (Kd.R_elder' (hd_ HO231) (Kd.R_base ho0) hb); replace BK226 := Aside0.mk (bb_ BK226 hb); replace HB := Aside0.mk (bt_ HB hb); (try clear hb); (try clear hb2); (try clear hk); (try clear hi); (try clear ho0)) | ((with_reducible refine gate_dst (N := 5) rfl ?_); refine box_event ?hg (N := 5) ?hd (cs := #[.int .i64 0, .slice none 0 0]) (t := 30) ?hr ?_; (case hd => rfl); (case hg => rfl); (case hr => first | (go_simp; done) | (go_simp; rfl)); intro gb239 hg w27 hbox hb; have BK239 := Aside0.mk hbox; have GW239 := ge_ HB hg; have GE239 := ge_ HB hg; have NB226_239 := nl_ BK226 hg; have NB239_226 := ng_ BK226 hg; replace HO231 := rb_ HO231 hb; replace HO234 := Aside0.mk (Kd.S_below (by (with_reducible repeat (first | apply Kd.S_alloc | apply Kd.S_drewN | apply Kd.S_drew)); exact HO234.out) hb); replace HO238 := rb_ HO238 hb; replace HB := Aside0.mk (bt_ HB hb); replace BK226 := Aside0.mk (bb_ BK226 hb); clear hb hbox hg; have hnb28 := NB239_226.out; have hnc28 := NB226_239.out; have hcz29_0 := cz_ BK239 0 (.int .i64 0); have hcz29_1 := cz_ BK239 1 (.slice none 0 0); have hfz29_0 := blk_frozen BK239.out 0; have hfz29_1 := blk_frozen BK239.out 1; obtain ⟨Ao30, co30, eo30⟩ := Kd.R_slice HO238.out; subst eo30) | ((with_reducible refine gate_callee (f := 35) rfl ?_); refine gl_ (some 22) Try.func35 #[.agg #[.int .i64 t235, .slice Ao30 t236.length co30]] ?_; (with_reducible refine (impl_AllDistances.calls k t235 _ _ t236 t240 _ ?side1 ?side2 A10.out).mono ?_); (case side1 => refine (Kd.R_reads' (e := 67) (base := w.heap.size) (ok := fun k_ => (True ∧ some k_ ≠ (.slice Ao23 t229.length co23 : Value).ownBlock)) (n := t236.length) (c := co30) ?_).2.2; exact (hs_ HO238 BK239)); (case side2 => exact (Kd.R_reads' HO238.out).2.1); rintro e w31 ⟨v241, rfl, ho0, hb⟩; refine ⟨_, rfl, ?_⟩; obtain ⟨B_, eB_, HO242⟩ := split_ ho0 (bz_ HB); replace HO231 := rs_ HO231 BK239 hb; replace HO238 := oldR_ (hs_ HO238 BK239) hb eB_; replace HO234 := oldS_ (by (with_reducible repeat (first | apply Kd.S_alloc | apply Kd.S_drewN | apply Kd.S_drew)); exact (Kd.S_mono (Kd.S_far (p := ⟨gb239, 1, none⟩) (Kd.S_far (p := ⟨gb239, 0, none⟩) (Kd.S_types HO234.out BK239.out (by decide)) (fun _ hk => hk.2) (.int .i64 t235)) (fun _ hk => hk.2) (.slice Ao30 t236.length co30)) (fun _ h_ => h_.1))) hb eB_; have hl226_ : gb226 < B_ := (by rw [eB_]; exact bg_ BK226 NB226_239); replace BK226 := bf_ BK226 NB226_239 hb; have hl239_ : gb239 < B_ := (by rw [eB_]; exact blk_lt (g := gb239) (o := .cells #[.int .i64 t235, .slice Ao30 t236.length co30] 30 (0, 0)) (by (with_reducible repeat (first | refine blk_drewN ?_ _ | refine blk_drew ?_ | refine blk_alloc ?_ _)); refine blk_put (cs := #[.int .i64 t235, .slice none 0 0]) ?_ 1 _ rfl; (with_reducible repeat (first | refine blk_drewN ?_ _ | refine blk_drew ?_ | refine blk_alloc ?_ _)); refine blk_put (cs := #[.int .i64 0, .slice none 0 0]) ?_ 0 _ rfl; (with_reducible repeat (first | refine blk_drewN ?_ _ | refine blk_drew ?_ | refine blk_alloc ?_ _)); exact BK239.out)); replace BK239 := Aside0.mk (blk_below (g := gb239) (o := .cells #[.int .i64 t235, .slice Ao30 t236.length co30] 30 (0, 0)) (by (with_reducible repeat (first | refine blk_drewN ?_ _ | refine blk_drew ?_ | refine blk_alloc ?_ _)); refine blk_put (cs := #[.int .i64 t235, .slice none 0 0]) ?_ 1 _ rfl; (with_reducible repeat (first | refine blk_drewN ?_ _ | refine blk_drew ?_ | refine blk_alloc ?_ _)); refine blk_put (cs := #[.int .i64 0, .slice none 0 0]) ?_ 0 _ rfl; (with_reducible repeat (first | refine blk_drewN ?_ _ | refine blk_drew ?_ | refine blk_alloc ?_ _)); exact BK239.out) hb); replace HB := Aside0.mk (bt_ HB hb); (try clear hb); (try clear hb2); (try clear hk); (try clear hi); (try clear ho0); obtain ⟨Ao32, co32, eo32⟩ := Kd.S_slice HO242.out; subst eo32; obtain ⟨Ao33, co33, eo33⟩ := Kd.S_slice HO234.out; subst eo33) | ((with_reducible refine gate_callee (f := 36) rfl ?_); refine gl_ (some 25) Try.func36 #[.slice Ao32 t240.length co32, .slice Ao33 t232.length co33] ?_; (with_reducible refine (laws_eqIntSS.calls k _ _ t240 _ _ t232 true _ ?side1 ?side2 ?side3 ?side4 A11.out).mono ?_); (case side1 => repeat (first | exact (Kd.S_reads' HO242.out).2.2 | (with_reducible refine Kd.C_alloc ?_ _) | (with_reducible refine Kd.C_drewN ?_ _) | (with_reducible refine Kd.C_drew ?_))); (case side2 => exact (Kd.S_reads' HO242.out).2.1); (case side3 => repeat (first | exact (Kd.S_reads' HO234.out).2.2 | (with_reducible refine Kd.C_alloc ?_ _) | (with_reducible refine Kd.C_drewN ?_ _) | (with_reducible refine Kd.C_drew ?_))); (case side4 => exact (Kd.S_reads' HO234.out).2.1); rintro e w' ⟨rfl, ⟨nd, rfl⟩⟩; refine ⟨_, rfl, ?_⟩))
    (try (rw [drewN_self w31]; generalize hq_ : World.drewN w31 _ = w31; replace HO231 : Aside0 (Kd.R k67 67 w31 w.heap.size (fun k_ => some k_ ≠ (.slice Ao30 t236.length co30 : Value).ownBlock) (.slice Ao23 t229.length co23) t229) := ⟨by rw [← hq_]; exact (by (with_reducible repeat (first | apply Kd.R_alloc | apply Kd.R_drewN | apply Kd.R_drew)); exact Kd.R_mono HO231.out (fun _ hk => hk.2))⟩; replace HO234 : Aside0 (Kd.S (Kd.slice 3 (Kd.int .i64)) 25 w31 w.heap.size (fun k_ => k_ < B_) (.slice Ao33 t232.length co33) t232) := ⟨by rw [← hq_]; exact (by (with_reducible repeat (first | apply Kd.S_alloc | apply Kd.S_drewN | apply Kd.S_drew)); exact Kd.S_mono HO234.out (fun _ hk => hk))⟩; replace HO238 : Aside0 (Kd.R k67 67 w31 w.heap.size (fun k_ => k_ < B_) (.slice Ao30 t236.length co30) t236) := ⟨by rw [← hq_]; exact (by (with_reducible repeat (first | apply Kd.R_alloc | apply Kd.R_drewN | apply Kd.R_drew)); exact Kd.R_mono HO238.out (fun _ hk => hk))⟩; replace HO242 : Aside0 (Kd.S (Kd.slice 3 (Kd.int .i64)) 25 w31 w.heap.size (fun k_ => B_ ≤ k_) (.slice Ao32 t240.length co32) t240) := ⟨by rw [← hq_]; exact (by (with_reducible repeat (first | apply Kd.S_alloc | apply Kd.S_drewN | apply Kd.S_drew)); exact Kd.S_mono HO242.out (fun _ hk => hk))⟩; replace BK226 : Aside0 (w31.heap[gb226]? = some (.cells #[.int .i64 a0_0, .slice A0_1 l0_1.length c0_1] 24 (0, 0))) := ⟨by rw [← hq_]; exact (by (with_reducible repeat (first | refine blk_drewN ?_ _ | refine blk_drew ?_ | refine blk_alloc ?_ _)); exact BK226.out)⟩; replace BK239 : Aside0 (w31.heap[gb239]? = some (.cells #[.int .i64 t235, .slice Ao30 t236.length co30] 30 (0, 0))) := ⟨by rw [← hq_]; exact (by (with_reducible repeat (first | refine blk_drewN ?_ _ | refine blk_drew ?_ | refine blk_alloc ?_ _)); exact BK239.out)⟩; replace HB : Aside0 (Below w.heap.size w w31) := ⟨by rw [← hq_]; exact (by repeat (first | (with_reducible first | exact HB.out | apply below_alloc | apply pw_below_drewN | apply below_drew1 | refine below_set ?_ GE226.out | refine below_set ?_ GE239.out) | exact HB.out))⟩; clear hq_))
    replace HO231 := Aside0.mk (Kd.R_drew HO231.out)
    replace HO234 := Aside0.mk (Kd.S_drew HO234.out)
    replace HO238 := Aside0.mk (Kd.R_drew HO238.out)
    replace HO242 := Aside0.mk (Kd.S_drew HO242.out)
    replace BK226 := Aside0.mk (blk_drew BK226.out)
    replace BK239 := Aside0.mk (blk_drew BK239.out)
    replace HB := Aside0.mk (below_drew1 HB.out)
    refine start_ (n := 5) (S := fun w' => w'.cell? ⟨gb239, 0, none⟩ = some (.int .i64 t235) ∧ w'.cell? ⟨gb239, 1, none⟩ = some (.slice Ao30 t236.length co30) ∧ w'.cell? ⟨gb226, 0, none⟩ = some (.int .i64 a0_0) ∧ w'.cell? ⟨gb226, 1, none⟩ = some (.slice A0_1 l0_1.length c0_1)) (ds := []) ba8_0 (by kernel_rfl) rfl rfl ⟨(blk_cell BK239.out 0).trans rfl, (blk_cell BK239.out 1).trans rfl, (blk_cell BK226.out 0).trans rfl, (blk_cell BK226.out 1).trans rfl⟩ (fun hHeld => ?_)
    generalize w31.drew = w34 at HO231 HO234 HO238 HO242 BK226 BK239 HB hHeld ⊢
    refine take_ (i := 0) (N := some 27) (v := ?_) (a' := ?_) ba8_1 rfl rfl (by kernel_rfl) (fun _ _ _ h => h) (Or.inl ⟨by rfl, ?_⟩) hHeld ?_ ?_
    rotate_left; · rintro w' ⟨s0, s1, s2, s3⟩; go_simp; with_reducible rfl
    rotate_left; · simp only [Act.put, List.setIfInBounds_toArray, List.set_cons_zero, List.set_cons_succ, i64_w, i32_w]; rfl
    refine take_ (i := 1) (N := some 28) (v := ?_) (a' := ?_) ba8_2 rfl rfl (by kernel_rfl) (fun _ _ _ h => h) (Or.inl ⟨by rfl, ?_⟩) hHeld ?_ ?_
    rotate_left; · rintro w' ⟨s0, s1, s2, s3⟩; go_simp; with_reducible rfl
    rotate_left; · simp only [Act.put, List.setIfInBounds_toArray, List.set_cons_zero, List.set_cons_succ, i64_w, i32_w]; rfl
    refine one_ (i := 2) (N := some 29) ba8_3 rfl rfl (by kernel_rfl) (by decide) (fun K hK => ?_)
    refine gz_ Try.func17 #[.agg #[.int .i64 a0_0, .slice A0_1 l0_1.length c0_1]] ?_
    with_reducible refine (laws_toGraph.calls k a0_0 _ _ l0_1 t244 t245 _ ?side1 ?side2 A13.out).mono ?_
    (case side1 => exact cb_ HR0_1 HB)
    (case side2 => exact HC0_1.out)
    rintro e w35 ⟨v246, rfl, ho0, hb⟩
    refine ⟨_, rfl, ?_⟩
    have HO247 := Aside0.mk (Kd.R_lower (Kd.R_new' (Kd.R_new' ho0 (Kd.R_lt (hd_ HO231))) (Kd.R_lt (hd_ HO238))) (bz_ HB))
    replace HO234 := Aside0.mk (Kd.S_below (by (with_reducible repeat (first | apply Kd.S_alloc | apply Kd.S_drewN | apply Kd.S_drew)); exact HO234.out) hb)
    replace HO242 := Aside0.mk (Kd.S_below (by (with_reducible repeat (first | apply Kd.S_alloc | apply Kd.S_drewN | apply Kd.S_drew)); exact HO242.out) hb)
    replace HO231 := Aside0.mk (Kd.R_elder' (hd_ HO231) (Kd.R_base ho0) hb)
    replace HO238 := Aside0.mk (Kd.R_elder' (hd_ HO238) (Kd.R_base ho0) hb)
    replace BK226 := Aside0.mk (bb_ BK226 hb)
    replace BK239 := Aside0.mk (bb_ BK239 hb)
    replace HB := Aside0.mk (bt_ HB hb)
    (try clear hb)
    (try clear hb2)
    (try clear hk)
    (try clear hi)
    (try clear ho0)
    obtain ⟨Ao36, co36, eo36⟩ := Kd.R_slice HO247.out
    (first | subst eo36 | (injection eo36 with f1_ f2_ f3_; have f4_ := f1_.symm; have f5_ := f3_.symm; clear f1_ f2_ f3_; subst f4_; subst f5_))
    refine hK.out _ _ ⟨(blk_cell BK239.out 0).trans rfl, (blk_cell BK239.out 1).trans rfl, (blk_cell BK226.out 0).trans rfl, (blk_cell BK226.out 1).trans rfl⟩ (fun hHeld => ?_)
    clear hK K
    refine nz_ 29 ?_
    refine one_ (i := 3) (N := some 30) ba8_4 rfl rfl (by kernel_rfl) (by decide) (fun K hK => ?_)
    refine gz_ Try.func20 #[.agg #[.int .i64 t235, .slice Ao30 t236.length co30], .agg #[.int .i64 t244, .slice Ao36 t245.length co36]] ?_
    with_reducible refine (laws_eqGraph.calls k t235 _ _ t236 t244 _ _ t245 true _ ?side1 ?side2 ?side3 ?side4 A14.out).mono ?_
    (case side1 => exact rc_ HO238)
    (case side2 => exact (Kd.R_reads' HO238.out).2.1)
    (case side3 => exact rc_ HO247)
    (case side4 => exact (Kd.R_reads' HO247.out).2.1)
    rintro e w37 ⟨rfl, hb⟩
    refine ⟨_, rfl, ?_⟩
    replace HO231 := rb_ HO231 hb
    replace HO234 := Aside0.mk (Kd.S_below (by (with_reducible repeat (first | apply Kd.S_alloc | apply Kd.S_drewN | apply Kd.S_drew)); exact HO234.out) hb)
    replace HO238 := rb_ HO238 hb
    replace HO242 := Aside0.mk (Kd.S_below (by (with_reducible repeat (first | apply Kd.S_alloc | apply Kd.S_drewN | apply Kd.S_drew)); exact HO242.out) hb)
    replace HO247 := rb_ HO247 hb
    replace BK226 := Aside0.mk (bb_ BK226 hb)
    replace BK239 := Aside0.mk (bb_ BK239 hb)
    replace HB := Aside0.mk (bt_ HB hb)
    (try clear hb)
    (try clear hb2)
    (try clear hk)
    (try clear hi)
    refine hK.out _ _ ⟨(blk_cell BK239.out 0).trans rfl, (blk_cell BK239.out 1).trans rfl, (blk_cell BK226.out 0).trans rfl, (blk_cell BK226.out 1).trans rfl⟩ (fun hHeld => ?_)
    clear hK K
    refine nz_ 30 ?_
    refine pure_ (i := 4) (N := some 31) (v := ?_) (a' := ?_) ba8_5 rfl rfl (by kernel_rfl) (fun _ _ _ h => h) (Or.inl ⟨by rfl, ?_⟩) ?_ ?_
    rotate_left; · intro w'; go_simp; with_reducible rfl
    rotate_left; · simp only [Act.put, List.setIfInBounds_toArray, List.set_cons_zero, List.set_cons_succ, i64_w, i32_w]; rfl
    refine done_ (by kernel_rfl) ?_
    have hcz38_0 := cz_ BK239 0 (.int .i64 t235)
    have hcz38_1 := cz_ BK239 1 (.slice Ao30 t236.length co30)
    have hfz38_0 := blk_frozen BK239.out 0
    have hfz38_1 := blk_frozen BK239.out 1
    go_upto_region 14 with (first | ((with_reducible refine gate_callee (f := 26) rfl ?_); refine gl_ (some 34) Try.func26 #[.agg #[.int .i64 t235, .slice Ao30 t236.length co30], .int .i64 1] ?_; (with_reducible refine (laws_markGraph.calls k t235 (fun k_ => some k_ = (.slice Ao30 t236.length co30 : Value).ownBlock) (.slice Ao30 t236.length co30) t236 1 t249 t250 w _ ?side1 ?side2 A16.out).mono ?_); (case side1 => exact by_ HB); (case side2 => exact Kd.R_tight rfl HO238.out); rintro e w39 ⟨rfl, hy0, hb, hkp⟩; refine ⟨_, rfl, ?_⟩; replace BK226 := bk_ BK226 hkp (fun hs_ => (Kd.R_ne HO238.out BK226.out (by decide)) hs_); replace HO231 := kp_ (fun k_ => some k_ ≠ (.slice Ao30 t236.length co30 : Value).ownBlock ∧ some k_ ≠ (.slice Ao36 t245.length co36 : Value).ownBlock) (HO231.out) hkp; replace HO234 := ksp_ (fun k_ => k_ < B_) ((Kd.S_apart' HO234.out (Kd.R_typed HO238.out) (by decide))) hkp; replace BK239 := bk_ BK239 hkp (fun hs_ => (Kd.R_ne HO238.out BK239.out (by decide)) hs_); replace HO242 := ksp_ (fun k_ => B_ ≤ k_) ((Kd.S_apart' HO242.out (Kd.R_typed HO238.out) (by decide))) hkp; replace HO238 := Aside0.mk (Kd.R_reok rfl hy0 (fun k_ e_ => HO238.out.1 k_ e_)); replace HO247 := kp_ (fun k_ => some k_ ≠ (.slice Ao23 t229.length co23 : Value).ownBlock ∧ some k_ ≠ (.slice Ao30 t236.length co30 : Value).ownBlock) (HO247.out) hkp; replace HB := Aside0.mk (hb); (try clear hb); (try clear hkp); (try clear hy0)))
    (try simp only [Act.put, List.setIfInBounds_toArray, List.set_cons_zero, List.set_cons_succ])
    go_cut [42] (fun v42 wc => ∃ (kq : Nat) (x42_16 : Bool), v42 = .bool x42_16 ∧ Aside0 (laws_FnExactAllDistances.j0 kq t232 t240 x42_16 a0_0 l0_1 = some r) ∧ Aside0 (kq ≤ k) ∧ Aside0 (Kd.S (Kd.slice 3 (Kd.int .i64)) 25 wc w.heap.size (fun k_ => k_ < B_) (.slice Ao33 t232.length co33) t232) ∧ Aside0 (Kd.S (Kd.slice 3 (Kd.int .i64)) 25 wc w.heap.size (fun k_ => B_ ≤ k_) (.slice Ao32 t240.length co32) t240) ∧ Aside0 (Kd.R k67 67 wc w.heap.size (fun k_ => k_ < B_) (.slice Ao30 t236.length co30) t250) ∧ Aside0 (wc.heap[gb226]? = some (.cells #[.int .i64 a0_0, (.slice A0_1 l0_1.length c0_1)] 24 (0, 0))) ∧ Aside0 (wc.heap[gb239]? = some (.cells #[.int .i64 t235, (.slice Ao30 t236.length co30)] 30 (0, 0))) ∧ Aside0 (Below w.heap.size w wc))
    case first =>
     have H := HC17.out
     clear HC17
     by_cases c40 : t249 < 0
     ·rw [if_pos c40] at H
      have c40b0 : decide (t249 < 0) = true := decide_eq_true c40
      clear c40
      (first | rw [c40b0] | (simp only [i64_w, i32_w]; rw [c40b0]) | skip)
      have H' := Aside0.mk H
      clear H
      go_wp2
      go_meet
      case rel => exact ⟨_, (true), (by first | rfl | (simp; done) | (simp [*]; done)), H', ⟨by first | omega | exact Nat.le_refl _⟩, ⟨by (with_reducible repeat (first | apply Kd.S_alloc | apply Kd.S_drewN | apply Kd.S_drew)); exact HO234.out⟩, ⟨by (with_reducible repeat (first | apply Kd.S_alloc | apply Kd.S_drewN | apply Kd.S_drew)); exact HO242.out⟩, ⟨by (with_reducible repeat (first | apply Kd.R_alloc | apply Kd.R_drewN | apply Kd.R_drew)); exact Kd.R_mono HO238.out (fun _ hk => by first | exact hk | grind | trivial)⟩, ⟨by (with_reducible repeat (first | refine blk_drewN ?_ _ | refine blk_drew ?_ | refine blk_alloc ?_ _)); exact BK226.out⟩, ⟨by (with_reducible repeat (first | refine blk_drewN ?_ _ | refine blk_drew ?_ | refine blk_alloc ?_ _)); exact BK239.out⟩, ⟨by repeat (first | (with_reducible first | exact HB.out | apply below_alloc | apply pw_below_drewN | apply below_drew1 | refine below_set ?_ GE226.out | refine below_set ?_ GE239.out) | exact HB.out)⟩⟩
     ·rw [if_neg c40] at H
      have c40b0 : decide (t249 < 0) = false := decide_eq_false c40
      clear c40
      (first | rw [c40b0] | (simp only [i64_w, i32_w]; rw [c40b0]) | skip)
      replace H := Option.bind_eq_some_iff.mp H
      obtain ⟨t251, A410, H⟩ := H
      have A41 := Aside0.mk A410
      clear A410
      have H' := Aside0.mk H
      clear H
      go_wp2_with (first | (go_at_call 36; (with_reducible refine (laws_eqIntSS.calls k _ _ t240 _ _ t232 t251 _ ?side1 ?side2 ?side3 ?side4 A41.out).mono ?_); (case side1 => repeat (first | exact (Kd.S_reads' HO242.out).2.2 | (with_reducible refine Kd.C_alloc ?_ _) | (with_reducible refine Kd.C_drewN ?_ _) | (with_reducible refine Kd.C_drew ?_))); (case side2 => exact (Kd.S_reads' HO242.out).2.1); (case side3 => repeat (first | exact (Kd.S_reads' HO234.out).2.2 | (with_reducible refine Kd.C_alloc ?_ _) | (with_reducible refine Kd.C_drewN ?_ _) | (with_reducible refine Kd.C_drew ?_))); (case side4 => exact (Kd.S_reads' HO234.out).2.1); rintro e w' ⟨rfl, ⟨nd, rfl⟩⟩))
      go_meet
      case rel => exact ⟨_, (!t251), (by first | rfl | (simp; done) | (simp [*]; done)), H', ⟨by first | omega | exact Nat.le_refl _⟩, ⟨by (with_reducible repeat (first | apply Kd.S_alloc | apply Kd.S_drewN | apply Kd.S_drew)); exact HO234.out⟩, ⟨by (with_reducible repeat (first | apply Kd.S_alloc | apply Kd.S_drewN | apply Kd.S_drew)); exact HO242.out⟩, ⟨by (with_reducible repeat (first | apply Kd.R_alloc | apply Kd.R_drewN | apply Kd.R_drew)); exact Kd.R_mono HO238.out (fun _ hk => by first | exact hk | grind | trivial)⟩, ⟨by (with_reducible repeat (first | refine blk_drewN ?_ _ | refine blk_drew ?_ | refine blk_alloc ?_ _)); exact BK226.out⟩, ⟨by (with_reducible repeat (first | refine blk_drewN ?_ _ | refine blk_drew ?_ | refine blk_alloc ?_ _)); exact BK239.out⟩, ⟨by repeat (first | (with_reducible first | exact HB.out | apply below_alloc | apply pw_below_drewN | apply below_drew1 | refine below_set ?_ GE226.out | refine below_set ?_ GE239.out) | exact HB.out)⟩⟩
    case rest =>
     clear HC17
     try clear c1
     try clear c2
     try clear p2
     try clear c3
     try clear c3b0
     try clear c4
     try clear c8
     try clear c12
     try clear c15
     try clear c17
     try clear c20
     try clear c26
     try clear c28
     try clear c34
     try clear c35
     try clear c36
     try clear c40
     try clear c40b0
     try clear hcz19_0
     try clear hcz19_1
     try clear hcz21_0
     try clear hcz21_1
     try clear hcz25_0
     try clear hcz25_1
     try clear hcz29_0
     try clear hcz29_1
     try clear hcz38_0
     try clear hcz38_1
     try clear hcz5_0
     try clear hcz5_1
     try clear hfz19_0
     try clear hfz19_1
     try clear hfz21_0
     try clear hfz21_1
     try clear hfz25_0
     try clear hfz25_1
     try clear hfz29_0
     try clear hfz29_1
     try clear hfz38_0
     try clear hfz38_1
     try clear hfz5_0
     try clear hfz5_1
     obtain ⟨kq, x42_16, rfl, HA, HJ16, HO_4, HO_6, HO_240001, BK226, BK239, HB⟩ := hcut
     have hl240001_16 := (Kd.R_reads' HO_240001.out).1
     rw [hl240001_16] at HO_240001
     (try simp only [hl240001_16])
     (try simp only [hl240001_16] at BK226)
     (try simp only [hl240001_16] at BK239)
     (try simp only [hl240001_16] at HO_4)
     (try simp only [hl240001_16] at HO_6)
     cases kq with
     | zero => exact absurd HA.out (by simp [laws_FnExactAllDistances.j0])
     | succ kj16 =>
      have H := HA.out
      clear HA
      simp only [laws_FnExactAllDistances.j0] at H
      by_cases c42 : x42_16 = true
      ·subst c42
       rw [if_pos rfl] at H
       obtain rfl := Option.some.inj H
       go_wp2
       go_ret
       exact ⟨by first | rfl | (simp [errW_none, errW_some] <;> rfl) | (simp [*, errW_none, errW_some] <;> rfl), by repeat (first | (with_reducible first | exact HB.out | apply below_alloc | apply pw_below_drewN | apply below_drew1 | refine below_set ?_ GE226.out | refine below_set ?_ GE239.out) | exact HB.out)⟩
      ·replace c42 := Bool.eq_false_iff.mpr c42
       subst c42
       rw [if_neg (show ¬ (false = true) by decide)] at H
       replace H := Option.bind_eq_some_iff.mp H
       obtain ⟨⟨t252, t253⟩, A430, H⟩ := H
       have A43 := Aside0.mk A430
       clear A430
       replace H := Option.bind_eq_some_iff.mp H
       obtain ⟨t254, A440, H⟩ := H
       have A44 := Aside0.mk A440
       clear A440
       by_cases c45 : t254 < 0
       ·rw [if_pos c45] at H
        have c45b0 : decide (t254 < 0) = true := decide_eq_true c45
        clear c45
        obtain rfl := Option.some.inj H
        go_wp2_with (first | ((with_reducible refine gate_callee (f := 37) rfl ?_); refine gl_ (some 45) Try.func37 #[.slice Ao32 t240.length co32, .int .i64 1] ?_; (with_reducible refine (laws_markIntSS.calls kj16 (fun k_ => B_ ≤ k_) (.slice Ao32 t240.length co32) t240 1 t252 t253 w _ ?side1 ?side2 A43.out).mono ?_); (case side1 => exact by_ HB); (case side2 => exact HO_6.out); rintro e w46 ⟨rfl, hy0, hb, hkp⟩; refine ⟨_, rfl, ?_⟩; replace HO_4 := ksp_ (fun k_ => k_ < B_) (HO_4.out) hkp; replace HO_240001 := kp_ (fun k_ => True) ((Kd.R_apart' HO_240001.out (Kd.S_typed HO_6.out) (by decide))) hkp; replace BK226 := bk_ BK226 hkp (fun hs_ => Nat.not_le.2 hl226_ hs_); replace BK239 := bk_ BK239 hkp (fun hs_ => Nat.not_le.2 hl239_ hs_); replace HO_6 := Aside0.mk hy0; replace HB := Aside0.mk (hb); (try clear hb); (try clear hkp); (try clear hy0)) | ((with_reducible refine gate_callee (f := 38) rfl ?_); refine goesL_ (some 48) rfl rfl Try.func38 (by kernel_rfl) rfl #[.slice Ao32 t253.length co32, .int .i64 1] rfl (by (try simp only [List.map_toArray, List.map_cons, List.map_nil]); first | done | (rw [show t253.length = t240.length from (Kd.S_reads' HO_6.out).1.symm] <;> rfl) | rfl | (simp only [List.length_drop, List.length_take]; rfl)) ?_; (with_reducible refine (laws_heldIntSS.calls kj16 _ _ t253 1 t254 _ ?side1 ?side2 A44.out).mono ?_); (case side1 => repeat (first | exact (Kd.S_reads' HO_6.out).2.2 | (with_reducible refine Kd.C_alloc ?_ _) | (with_reducible refine Kd.C_drewN ?_ _) | (with_reducible refine Kd.C_drew ?_))); (case side2 => rw [show t253.length = t240.length from (Kd.S_reads' HO_6.out).1.symm]; exact (Kd.S_reads' HO_6.out).2.1); rintro e w' ⟨rfl, ⟨nd, rfl⟩⟩; refine ⟨_, rfl, ?_⟩))
        go_ret
        exact ⟨by first | rfl | (simp [errW_none, errW_some] <;> rfl) | (simp [*, errW_none, errW_some] <;> rfl), by repeat (first | (with_reducible first | exact HB.out | apply below_alloc | apply pw_below_drewN | apply below_drew1 | refine below_set ?_ GE226.out | refine below_set ?_ GE239.out) | exact HB.out)⟩
       ·rw [if_neg c45] at H
        have c45b0 : decide (t254 < 0) = false := decide_eq_false c45
        clear c45
        by_cases c47 : t254 = t252
        ·rw [if_pos c47] at H
         have c47b0 : (t254 == t252) = true := beq_iff_eq.mpr c47
         have c47b1 : (t254 != t252) = false := bne_eq_false_iff_eq.mpr c47
         clear c47
         replace H := Option.bind_eq_some_iff.mp H
         obtain ⟨⟨t255, t256⟩, A480, H⟩ := H
         have A48 := Aside0.mk A480
         clear A480
         replace H := Option.bind_eq_some_iff.mp H
         obtain ⟨t259, A490, H⟩ := H
         have A49 := Aside0.mk A490
         clear A490
         replace H := Option.bind_eq_some_iff.mp H
         obtain ⟨t262, A500, H⟩ := H
         have A50 := Aside0.mk A500
         clear A500
         by_cases c51 : t262 = true
         ·subst c51
          rw [if_pos rfl] at H
          replace H := Option.bind_eq_some_iff.mp H
          obtain ⟨t263, A520, H⟩ := H
          have A52 := Aside0.mk A520
          clear A520
          by_cases c53 : t263 < 0
          ·rw [if_pos c53] at H
           have c53b0 : decide (t263 < 0) = true := decide_eq_true c53
           clear c53
           obtain rfl := Option.some.inj H
           go_wp2_with (first | ((with_reducible refine gate_callee (f := 37) rfl ?_); refine gl_ (some 45) Try.func37 #[.slice Ao32 t240.length co32, .int .i64 1] ?_; (with_reducible refine (laws_markIntSS.calls kj16 (fun k_ => B_ ≤ k_) (.slice Ao32 t240.length co32) t240 1 t252 t253 w _ ?side1 ?side2 A43.out).mono ?_); (case side1 => exact by_ HB); (case side2 => exact HO_6.out); rintro e w54 ⟨rfl, hy0, hb, hkp⟩; refine ⟨_, rfl, ?_⟩; replace HO_4 := ksp_ (fun k_ => k_ < B_) (HO_4.out) hkp; replace HO_240001 := kp_ (fun k_ => True) ((Kd.R_apart' HO_240001.out (Kd.S_typed HO_6.out) (by decide))) hkp; replace BK226 := bk_ BK226 hkp (fun hs_ => Nat.not_le.2 hl226_ hs_); replace BK239 := bk_ BK239 hkp (fun hs_ => Nat.not_le.2 hl239_ hs_); replace HO_6 := Aside0.mk hy0; replace HB := Aside0.mk (hb); (try clear hb); (try clear hkp); (try clear hy0)) | ((with_reducible refine gate_callee (f := 38) rfl ?_); refine goesL_ (some 48) rfl rfl Try.func38 (by kernel_rfl) rfl #[.slice Ao32 t253.length co32, .int .i64 1] rfl (by (try simp only [List.map_toArray, List.map_cons, List.map_nil]); first | done | (rw [show t253.length = t240.length from (Kd.S_reads' HO_6.out).1.symm] <;> rfl) | rfl | (simp only [List.length_drop, List.length_take]; rfl)) ?_; (with_reducible refine (laws_heldIntSS.calls kj16 _ _ t253 1 t254 _ ?side1 ?side2 A44.out).mono ?_); (case side1 => repeat (first | exact (Kd.S_reads' HO_6.out).2.2 | (with_reducible refine Kd.C_alloc ?_ _) | (with_reducible refine Kd.C_drewN ?_ _) | (with_reducible refine Kd.C_drew ?_))); (case side2 => rw [show t253.length = t240.length from (Kd.S_reads' HO_6.out).1.symm]; exact (Kd.S_reads' HO_6.out).2.1); rintro e w' ⟨rfl, ⟨nd, rfl⟩⟩; refine ⟨_, rfl, ?_⟩; have hnb55 := NB226_239.out; have hnc55 := NB239_226.out; have hcz56_0 := cz_ BK226 0 (.int .i64 a0_0); have hcz56_1 := cz_ BK226 1 (.slice A0_1 l0_1.length c0_1); have hfz56_0 := blk_frozen BK226.out 0; have hfz56_1 := blk_frozen BK226.out 1) | ((with_reducible refine gate_callee (f := 17) rfl ?_); refine gl_ (some 55) Try.func17 #[.agg #[.int .i64 a0_0, .slice A0_1 l0_1.length c0_1]] ?_; (with_reducible refine (laws_toGraph.calls kj16 a0_0 _ _ l0_1 t255 t256 _ ?side1 ?side2 A48.out).mono ?_); (case side1 => exact cc_ HR0_1 HB); (case side2 => exact HC0_1.out); rintro e w57 ⟨v257, rfl, ho0, hb⟩; refine ⟨_, rfl, ?_⟩; have HO258 := Aside0.mk (Kd.R_lower (Kd.R_new' ho0 (Kd.R_lt (hd_ HO_240001))) (bz_ HB)); replace HO_4 := Aside0.mk (Kd.S_below (by (with_reducible repeat (first | apply Kd.S_alloc | apply Kd.S_drewN | apply Kd.S_drew)); exact HO_4.out) hb); replace HO_6 := Aside0.mk (Kd.S_below (by (with_reducible repeat (first | apply Kd.S_alloc | apply Kd.S_drewN | apply Kd.S_drew)); exact HO_6.out) hb); replace HO_240001 := Aside0.mk (Kd.R_elder' (hd_ HO_240001) (Kd.R_base ho0) hb); replace BK226 := Aside0.mk (bb_ BK226 hb); replace BK239 := Aside0.mk (bb_ BK239 hb); replace HB := Aside0.mk (bt_ HB hb); (try clear hb); (try clear hb2); (try clear hk); (try clear hi); (try clear ho0); obtain ⟨Ao58, co58, eo58⟩ := Kd.R_slice HO258.out; subst eo58) | ((with_reducible refine gate_callee (f := 35) rfl ?_); refine gl_ (some 56) Try.func35 #[.agg #[.int .i64 t255, .slice Ao58 t256.length co58]] ?_; (with_reducible refine (impl_AllDistances.calls kj16 t255 _ _ t256 t259 _ ?side1 ?side2 A49.out).mono ?_); (case side1 => exact rc_ HO258); (case side2 => exact (Kd.R_reads' HO258.out).2.1); rintro e w59 ⟨v260, rfl, ho0, hb⟩; refine ⟨_, rfl, ?_⟩; have HO261 := Aside0.mk (Kd.S_lower (Kd.S_new' (Kd.S_new' ho0 (Kd.S_lt (by (with_reducible repeat (first | apply Kd.S_alloc | apply Kd.S_drewN | apply Kd.S_drew)); exact HO_4.out))) (Kd.S_lt (by (with_reducible repeat (first | apply Kd.S_alloc | apply Kd.S_drewN | apply Kd.S_drew)); exact HO_6.out))) (bz_ HB)); replace HO_240001 := rb_ HO_240001 hb; replace HO258 := rb_ HO258 hb; replace HO_4 := Aside0.mk (Kd.S_elder' (by (with_reducible repeat (first | apply Kd.S_alloc | apply Kd.S_drewN | apply Kd.S_drew)); exact HO_4.out) (Kd.S_base ho0) hb); replace HO_6 := Aside0.mk (Kd.S_elder' (by (with_reducible repeat (first | apply Kd.S_alloc | apply Kd.S_drewN | apply Kd.S_drew)); exact HO_6.out) (Kd.S_base ho0) hb); replace BK226 := Aside0.mk (bb_ BK226 hb); replace BK239 := Aside0.mk (bb_ BK239 hb); replace HB := Aside0.mk (bt_ HB hb); (try clear hb); (try clear hb2); (try clear hk); (try clear hi); (try clear ho0); obtain ⟨Ao60, co60, eo60⟩ := Kd.S_slice HO261.out; subst eo60) | ((with_reducible refine gate_callee (f := 36) rfl ?_); refine gl_ (some 59) Try.func36 #[.slice Ao60 t259.length co60, .slice Ao33 t232.length co33] ?_; (with_reducible refine (laws_eqIntSS.calls kj16 _ _ t259 _ _ t232 true _ ?side1 ?side2 ?side3 ?side4 A50.out).mono ?_); (case side1 => repeat (first | exact (Kd.S_reads' HO261.out).2.2 | (with_reducible refine Kd.C_alloc ?_ _) | (with_reducible refine Kd.C_drewN ?_ _) | (with_reducible refine Kd.C_drew ?_))); (case side2 => exact (Kd.S_reads' HO261.out).2.1); (case side3 => repeat (first | exact (Kd.S_reads' HO_4.out).2.2 | (with_reducible refine Kd.C_alloc ?_ _) | (with_reducible refine Kd.C_drewN ?_ _) | (with_reducible refine Kd.C_drew ?_))); (case side4 => exact (Kd.S_reads' HO_4.out).2.1); rintro e w' ⟨rfl, ⟨nd, rfl⟩⟩; refine ⟨_, rfl, ?_⟩) | ((with_reducible refine gate_callee (f := 38) rfl ?_); refine goesL_ (some 63) rfl rfl Try.func38 (by kernel_rfl) rfl #[.slice Ao32 t253.length co32, .int .i64 1] rfl (by (try simp only [List.map_toArray, List.map_cons, List.map_nil]); first | done | (rw [show t253.length = t240.length from (Kd.S_reads' HO_6.out).1.symm] <;> rfl) | rfl | (simp only [List.length_drop, List.length_take]; rfl)) ?_; (with_reducible refine (laws_heldIntSS.calls kj16 _ _ t253 1 t263 _ ?side1 ?side2 A52.out).mono ?_); (case side1 => repeat (first | exact (Kd.S_reads' HO_6.out).2.2 | (with_reducible refine Kd.C_alloc ?_ _) | (with_reducible refine Kd.C_drewN ?_ _) | (with_reducible refine Kd.C_drew ?_))); (case side2 => rw [show t253.length = t240.length from (Kd.S_reads' HO_6.out).1.symm]; exact (Kd.S_reads' HO_6.out).2.1); rintro e w' ⟨rfl, ⟨nd, rfl⟩⟩; refine ⟨_, rfl, ?_⟩))
           go_ret
           exact ⟨by first | rfl | (simp [errW_none, errW_some] <;> rfl) | (simp [*, errW_none, errW_some] <;> rfl), by repeat (first | (with_reducible first | exact HB.out | apply below_alloc | apply pw_below_drewN | apply below_drew1 | refine below_set ?_ GE226.out | refine below_set ?_ GE239.out) | exact HB.out)⟩
          ·rw [if_neg c53] at H
           have c53b0 : decide (t263 < 0) = false := decide_eq_false c53
           clear c53
           by_cases c61 : t263 = t252
           ·rw [if_pos c61] at H
            have c61b0 : (t263 == t252) = true := beq_iff_eq.mpr c61
            have c61b1 : (t263 != t252) = false := bne_eq_false_iff_eq.mpr c61
            clear c61
            obtain rfl := Option.some.inj H
            go_wp2_with (first | ((with_reducible refine gate_callee (f := 37) rfl ?_); refine gl_ (some 45) Try.func37 #[.slice Ao32 t240.length co32, .int .i64 1] ?_; (with_reducible refine (laws_markIntSS.calls kj16 (fun k_ => B_ ≤ k_) (.slice Ao32 t240.length co32) t240 1 t252 t253 w _ ?side1 ?side2 A43.out).mono ?_); (case side1 => exact by_ HB); (case side2 => exact HO_6.out); rintro e w62 ⟨rfl, hy0, hb, hkp⟩; refine ⟨_, rfl, ?_⟩; replace HO_4 := ksp_ (fun k_ => k_ < B_) (HO_4.out) hkp; replace HO_240001 := kp_ (fun k_ => True) ((Kd.R_apart' HO_240001.out (Kd.S_typed HO_6.out) (by decide))) hkp; replace BK226 := bk_ BK226 hkp (fun hs_ => Nat.not_le.2 hl226_ hs_); replace BK239 := bk_ BK239 hkp (fun hs_ => Nat.not_le.2 hl239_ hs_); replace HO_6 := Aside0.mk hy0; replace HB := Aside0.mk (hb); (try clear hb); (try clear hkp); (try clear hy0)) | ((with_reducible refine gate_callee (f := 38) rfl ?_); refine goesL_ (some 48) rfl rfl Try.func38 (by kernel_rfl) rfl #[.slice Ao32 t253.length co32, .int .i64 1] rfl (by (try simp only [List.map_toArray, List.map_cons, List.map_nil]); first | done | (rw [show t253.length = t240.length from (Kd.S_reads' HO_6.out).1.symm] <;> rfl) | rfl | (simp only [List.length_drop, List.length_take]; rfl)) ?_; (with_reducible refine (laws_heldIntSS.calls kj16 _ _ t253 1 t254 _ ?side1 ?side2 A44.out).mono ?_); (case side1 => repeat (first | exact (Kd.S_reads' HO_6.out).2.2 | (with_reducible refine Kd.C_alloc ?_ _) | (with_reducible refine Kd.C_drewN ?_ _) | (with_reducible refine Kd.C_drew ?_))); (case side2 => rw [show t253.length = t240.length from (Kd.S_reads' HO_6.out).1.symm]; exact (Kd.S_reads' HO_6.out).2.1); rintro e w' ⟨rfl, ⟨nd, rfl⟩⟩; refine ⟨_, rfl, ?_⟩; have hnb63 := NB226_239.out; have hnc63 := NB239_226.out; have hcz64_0 := cz_ BK226 0 (.int .i64 a0_0); have hcz64_1 := cz_ BK226 1 (.slice A0_1 l0_1.length c0_1); have hfz64_0 := blk_frozen BK226.out 0; have hfz64_1 := blk_frozen BK226.out 1) | ((with_reducible refine gate_callee (f := 17) rfl ?_); refine gl_ (some 55) Try.func17 #[.agg #[.int .i64 a0_0, .slice A0_1 l0_1.length c0_1]] ?_; (with_reducible refine (laws_toGraph.calls kj16 a0_0 _ _ l0_1 t255 t256 _ ?side1 ?side2 A48.out).mono ?_); (case side1 => exact cc_ HR0_1 HB); (case side2 => exact HC0_1.out); rintro e w65 ⟨v257, rfl, ho0, hb⟩; refine ⟨_, rfl, ?_⟩; have HO258 := Aside0.mk (Kd.R_lower (Kd.R_new' ho0 (Kd.R_lt (hd_ HO_240001))) (bz_ HB)); replace HO_4 := Aside0.mk (Kd.S_below (by (with_reducible repeat (first | apply Kd.S_alloc | apply Kd.S_drewN | apply Kd.S_drew)); exact HO_4.out) hb); replace HO_6 := Aside0.mk (Kd.S_below (by (with_reducible repeat (first | apply Kd.S_alloc | apply Kd.S_drewN | apply Kd.S_drew)); exact HO_6.out) hb); replace HO_240001 := Aside0.mk (Kd.R_elder' (hd_ HO_240001) (Kd.R_base ho0) hb); replace BK226 := Aside0.mk (bb_ BK226 hb); replace BK239 := Aside0.mk (bb_ BK239 hb); replace HB := Aside0.mk (bt_ HB hb); (try clear hb); (try clear hb2); (try clear hk); (try clear hi); (try clear ho0); obtain ⟨Ao66, co66, eo66⟩ := Kd.R_slice HO258.out; subst eo66) | ((with_reducible refine gate_callee (f := 35) rfl ?_); refine gl_ (some 56) Try.func35 #[.agg #[.int .i64 t255, .slice Ao66 t256.length co66]] ?_; (with_reducible refine (impl_AllDistances.calls kj16 t255 _ _ t256 t259 _ ?side1 ?side2 A49.out).mono ?_); (case side1 => exact rc_ HO258); (case side2 => exact (Kd.R_reads' HO258.out).2.1); rintro e w67 ⟨v260, rfl, ho0, hb⟩; refine ⟨_, rfl, ?_⟩; have HO261 := Aside0.mk (Kd.S_lower (Kd.S_new' (Kd.S_new' ho0 (Kd.S_lt (by (with_reducible repeat (first | apply Kd.S_alloc | apply Kd.S_drewN | apply Kd.S_drew)); exact HO_4.out))) (Kd.S_lt (by (with_reducible repeat (first | apply Kd.S_alloc | apply Kd.S_drewN | apply Kd.S_drew)); exact HO_6.out))) (bz_ HB)); replace HO_240001 := rb_ HO_240001 hb; replace HO258 := rb_ HO258 hb; replace HO_4 := Aside0.mk (Kd.S_elder' (by (with_reducible repeat (first | apply Kd.S_alloc | apply Kd.S_drewN | apply Kd.S_drew)); exact HO_4.out) (Kd.S_base ho0) hb); replace HO_6 := Aside0.mk (Kd.S_elder' (by (with_reducible repeat (first | apply Kd.S_alloc | apply Kd.S_drewN | apply Kd.S_drew)); exact HO_6.out) (Kd.S_base ho0) hb); replace BK226 := Aside0.mk (bb_ BK226 hb); replace BK239 := Aside0.mk (bb_ BK239 hb); replace HB := Aside0.mk (bt_ HB hb); (try clear hb); (try clear hb2); (try clear hk); (try clear hi); (try clear ho0); obtain ⟨Ao68, co68, eo68⟩ := Kd.S_slice HO261.out; subst eo68) | ((with_reducible refine gate_callee (f := 36) rfl ?_); refine gl_ (some 59) Try.func36 #[.slice Ao68 t259.length co68, .slice Ao33 t232.length co33] ?_; (with_reducible refine (laws_eqIntSS.calls kj16 _ _ t259 _ _ t232 true _ ?side1 ?side2 ?side3 ?side4 A50.out).mono ?_); (case side1 => repeat (first | exact (Kd.S_reads' HO261.out).2.2 | (with_reducible refine Kd.C_alloc ?_ _) | (with_reducible refine Kd.C_drewN ?_ _) | (with_reducible refine Kd.C_drew ?_))); (case side2 => exact (Kd.S_reads' HO261.out).2.1); (case side3 => repeat (first | exact (Kd.S_reads' HO_4.out).2.2 | (with_reducible refine Kd.C_alloc ?_ _) | (with_reducible refine Kd.C_drewN ?_ _) | (with_reducible refine Kd.C_drew ?_))); (case side4 => exact (Kd.S_reads' HO_4.out).2.1); rintro e w' ⟨rfl, ⟨nd, rfl⟩⟩; refine ⟨_, rfl, ?_⟩) | ((with_reducible refine gate_callee (f := 38) rfl ?_); refine goesL_ (some 63) rfl rfl Try.func38 (by kernel_rfl) rfl #[.slice Ao32 t253.length co32, .int .i64 1] rfl (by (try simp only [List.map_toArray, List.map_cons, List.map_nil]); first | done | (rw [show t253.length = t240.length from (Kd.S_reads' HO_6.out).1.symm] <;> rfl) | rfl | (simp only [List.length_drop, List.length_take]; rfl)) ?_; (with_reducible refine (laws_heldIntSS.calls kj16 _ _ t253 1 t263 _ ?side1 ?side2 A52.out).mono ?_); (case side1 => repeat (first | exact (Kd.S_reads' HO_6.out).2.2 | (with_reducible refine Kd.C_alloc ?_ _) | (with_reducible refine Kd.C_drewN ?_ _) | (with_reducible refine Kd.C_drew ?_))); (case side2 => rw [show t253.length = t240.length from (Kd.S_reads' HO_6.out).1.symm]; exact (Kd.S_reads' HO_6.out).2.1); rintro e w' ⟨rfl, ⟨nd, rfl⟩⟩; refine ⟨_, rfl, ?_⟩))
            go_ret
            exact ⟨by first | rfl | (simp [errW_none, errW_some] <;> rfl) | (simp [*, errW_none, errW_some] <;> rfl), by repeat (first | (with_reducible first | exact HB.out | apply below_alloc | apply pw_below_drewN | apply below_drew1 | refine below_set ?_ GE226.out | refine below_set ?_ GE239.out) | exact HB.out)⟩
           ·rw [if_neg c61] at H
            have c61b0 : (t263 == t252) = false := beq_eq_false_iff_ne.mpr c61
            have c61b1 : (t263 != t252) = true := bne_iff_ne.mpr c61
            obtain rfl := Option.some.inj H
            go_wp2_with (first | ((with_reducible refine gate_callee (f := 37) rfl ?_); refine gl_ (some 45) Try.func37 #[.slice Ao32 t240.length co32, .int .i64 1] ?_; (with_reducible refine (laws_markIntSS.calls kj16 (fun k_ => B_ ≤ k_) (.slice Ao32 t240.length co32) t240 1 t252 t253 w _ ?side1 ?side2 A43.out).mono ?_); (case side1 => exact by_ HB); (case side2 => exact HO_6.out); rintro e w69 ⟨rfl, hy0, hb, hkp⟩; refine ⟨_, rfl, ?_⟩; replace HO_4 := ksp_ (fun k_ => k_ < B_) (HO_4.out) hkp; replace HO_240001 := kp_ (fun k_ => True) ((Kd.R_apart' HO_240001.out (Kd.S_typed HO_6.out) (by decide))) hkp; replace BK226 := bk_ BK226 hkp (fun hs_ => Nat.not_le.2 hl226_ hs_); replace BK239 := bk_ BK239 hkp (fun hs_ => Nat.not_le.2 hl239_ hs_); replace HO_6 := Aside0.mk hy0; replace HB := Aside0.mk (hb); (try clear hb); (try clear hkp); (try clear hy0)) | ((with_reducible refine gate_callee (f := 38) rfl ?_); refine goesL_ (some 48) rfl rfl Try.func38 (by kernel_rfl) rfl #[.slice Ao32 t253.length co32, .int .i64 1] rfl (by (try simp only [List.map_toArray, List.map_cons, List.map_nil]); first | done | (rw [show t253.length = t240.length from (Kd.S_reads' HO_6.out).1.symm] <;> rfl) | rfl | (simp only [List.length_drop, List.length_take]; rfl)) ?_; (with_reducible refine (laws_heldIntSS.calls kj16 _ _ t253 1 t254 _ ?side1 ?side2 A44.out).mono ?_); (case side1 => repeat (first | exact (Kd.S_reads' HO_6.out).2.2 | (with_reducible refine Kd.C_alloc ?_ _) | (with_reducible refine Kd.C_drewN ?_ _) | (with_reducible refine Kd.C_drew ?_))); (case side2 => rw [show t253.length = t240.length from (Kd.S_reads' HO_6.out).1.symm]; exact (Kd.S_reads' HO_6.out).2.1); rintro e w' ⟨rfl, ⟨nd, rfl⟩⟩; refine ⟨_, rfl, ?_⟩; have hnb70 := NB226_239.out; have hnc70 := NB239_226.out; have hcz71_0 := cz_ BK226 0 (.int .i64 a0_0); have hcz71_1 := cz_ BK226 1 (.slice A0_1 l0_1.length c0_1); have hfz71_0 := blk_frozen BK226.out 0; have hfz71_1 := blk_frozen BK226.out 1) | ((with_reducible refine gate_callee (f := 17) rfl ?_); refine gl_ (some 55) Try.func17 #[.agg #[.int .i64 a0_0, .slice A0_1 l0_1.length c0_1]] ?_; (with_reducible refine (laws_toGraph.calls kj16 a0_0 _ _ l0_1 t255 t256 _ ?side1 ?side2 A48.out).mono ?_); (case side1 => exact cc_ HR0_1 HB); (case side2 => exact HC0_1.out); rintro e w72 ⟨v257, rfl, ho0, hb⟩; refine ⟨_, rfl, ?_⟩; have HO258 := Aside0.mk (Kd.R_lower (Kd.R_new' ho0 (Kd.R_lt (hd_ HO_240001))) (bz_ HB)); replace HO_4 := Aside0.mk (Kd.S_below (by (with_reducible repeat (first | apply Kd.S_alloc | apply Kd.S_drewN | apply Kd.S_drew)); exact HO_4.out) hb); replace HO_6 := Aside0.mk (Kd.S_below (by (with_reducible repeat (first | apply Kd.S_alloc | apply Kd.S_drewN | apply Kd.S_drew)); exact HO_6.out) hb); replace HO_240001 := Aside0.mk (Kd.R_elder' (hd_ HO_240001) (Kd.R_base ho0) hb); replace BK226 := Aside0.mk (bb_ BK226 hb); replace BK239 := Aside0.mk (bb_ BK239 hb); replace HB := Aside0.mk (bt_ HB hb); (try clear hb); (try clear hb2); (try clear hk); (try clear hi); (try clear ho0); obtain ⟨Ao73, co73, eo73⟩ := Kd.R_slice HO258.out; subst eo73) | ((with_reducible refine gate_callee (f := 35) rfl ?_); refine gl_ (some 56) Try.func35 #[.agg #[.int .i64 t255, .slice Ao73 t256.length co73]] ?_; (with_reducible refine (impl_AllDistances.calls kj16 t255 _ _ t256 t259 _ ?side1 ?side2 A49.out).mono ?_); (case side1 => exact rc_ HO258); (case side2 => exact (Kd.R_reads' HO258.out).2.1); rintro e w74 ⟨v260, rfl, ho0, hb⟩; refine ⟨_, rfl, ?_⟩; have HO261 := Aside0.mk (Kd.S_lower (Kd.S_new' (Kd.S_new' ho0 (Kd.S_lt (by (with_reducible repeat (first | apply Kd.S_alloc | apply Kd.S_drewN | apply Kd.S_drew)); exact HO_4.out))) (Kd.S_lt (by (with_reducible repeat (first | apply Kd.S_alloc | apply Kd.S_drewN | apply Kd.S_drew)); exact HO_6.out))) (bz_ HB)); replace HO_240001 := rb_ HO_240001 hb; replace HO258 := rb_ HO258 hb; replace HO_4 := Aside0.mk (Kd.S_elder' (by (with_reducible repeat (first | apply Kd.S_alloc | apply Kd.S_drewN | apply Kd.S_drew)); exact HO_4.out) (Kd.S_base ho0) hb); replace HO_6 := Aside0.mk (Kd.S_elder' (by (with_reducible repeat (first | apply Kd.S_alloc | apply Kd.S_drewN | apply Kd.S_drew)); exact HO_6.out) (Kd.S_base ho0) hb); replace BK226 := Aside0.mk (bb_ BK226 hb); replace BK239 := Aside0.mk (bb_ BK239 hb); replace HB := Aside0.mk (bt_ HB hb); (try clear hb); (try clear hb2); (try clear hk); (try clear hi); (try clear ho0); obtain ⟨Ao75, co75, eo75⟩ := Kd.S_slice HO261.out; subst eo75) | ((with_reducible refine gate_callee (f := 36) rfl ?_); refine gl_ (some 59) Try.func36 #[.slice Ao75 t259.length co75, .slice Ao33 t232.length co33] ?_; (with_reducible refine (laws_eqIntSS.calls kj16 _ _ t259 _ _ t232 true _ ?side1 ?side2 ?side3 ?side4 A50.out).mono ?_); (case side1 => repeat (first | exact (Kd.S_reads' HO261.out).2.2 | (with_reducible refine Kd.C_alloc ?_ _) | (with_reducible refine Kd.C_drewN ?_ _) | (with_reducible refine Kd.C_drew ?_))); (case side2 => exact (Kd.S_reads' HO261.out).2.1); (case side3 => repeat (first | exact (Kd.S_reads' HO_4.out).2.2 | (with_reducible refine Kd.C_alloc ?_ _) | (with_reducible refine Kd.C_drewN ?_ _) | (with_reducible refine Kd.C_drew ?_))); (case side4 => exact (Kd.S_reads' HO_4.out).2.1); rintro e w' ⟨rfl, ⟨nd, rfl⟩⟩; refine ⟨_, rfl, ?_⟩) | ((with_reducible refine gate_callee (f := 38) rfl ?_); refine goesL_ (some 63) rfl rfl Try.func38 (by kernel_rfl) rfl #[.slice Ao32 t253.length co32, .int .i64 1] rfl (by (try simp only [List.map_toArray, List.map_cons, List.map_nil]); first | done | (rw [show t253.length = t240.length from (Kd.S_reads' HO_6.out).1.symm] <;> rfl) | rfl | (simp only [List.length_drop, List.length_take]; rfl)) ?_; (with_reducible refine (laws_heldIntSS.calls kj16 _ _ t253 1 t263 _ ?side1 ?side2 A52.out).mono ?_); (case side1 => repeat (first | exact (Kd.S_reads' HO_6.out).2.2 | (with_reducible refine Kd.C_alloc ?_ _) | (with_reducible refine Kd.C_drewN ?_ _) | (with_reducible refine Kd.C_drew ?_))); (case side2 => rw [show t253.length = t240.length from (Kd.S_reads' HO_6.out).1.symm]; exact (Kd.S_reads' HO_6.out).2.1); rintro e w' ⟨rfl, ⟨nd, rfl⟩⟩; refine ⟨_, rfl, ?_⟩))
            go_ret
            exact ⟨by first | rfl | (simp [errW_none, errW_some] <;> rfl) | (simp [*, errW_none, errW_some] <;> rfl), by repeat (first | (with_reducible first | exact HB.out | apply below_alloc | apply pw_below_drewN | apply below_drew1 | refine below_set ?_ GE226.out | refine below_set ?_ GE239.out) | exact HB.out)⟩
         ·replace c51 := Bool.eq_false_iff.mpr c51
          subst c51
          rw [if_neg (show ¬ (false = true) by decide)] at H
          obtain rfl := Option.some.inj H
          go_wp2_with (first | ((with_reducible refine gate_callee (f := 37) rfl ?_); refine gl_ (some 45) Try.func37 #[.slice Ao32 t240.length co32, .int .i64 1] ?_; (with_reducible refine (laws_markIntSS.calls kj16 (fun k_ => B_ ≤ k_) (.slice Ao32 t240.length co32) t240 1 t252 t253 w _ ?side1 ?side2 A43.out).mono ?_); (case side1 => exact by_ HB); (case side2 => exact HO_6.out); rintro e w76 ⟨rfl, hy0, hb, hkp⟩; refine ⟨_, rfl, ?_⟩; replace HO_4 := ksp_ (fun k_ => k_ < B_) (HO_4.out) hkp; replace HO_240001 := kp_ (fun k_ => True) ((Kd.R_apart' HO_240001.out (Kd.S_typed HO_6.out) (by decide))) hkp; replace BK226 := bk_ BK226 hkp (fun hs_ => Nat.not_le.2 hl226_ hs_); replace BK239 := bk_ BK239 hkp (fun hs_ => Nat.not_le.2 hl239_ hs_); replace HO_6 := Aside0.mk hy0; replace HB := Aside0.mk (hb); (try clear hb); (try clear hkp); (try clear hy0)) | ((with_reducible refine gate_callee (f := 38) rfl ?_); refine goesL_ (some 48) rfl rfl Try.func38 (by kernel_rfl) rfl #[.slice Ao32 t253.length co32, .int .i64 1] rfl (by (try simp only [List.map_toArray, List.map_cons, List.map_nil]); first | done | (rw [show t253.length = t240.length from (Kd.S_reads' HO_6.out).1.symm] <;> rfl) | rfl | (simp only [List.length_drop, List.length_take]; rfl)) ?_; (with_reducible refine (laws_heldIntSS.calls kj16 _ _ t253 1 t254 _ ?side1 ?side2 A44.out).mono ?_); (case side1 => repeat (first | exact (Kd.S_reads' HO_6.out).2.2 | (with_reducible refine Kd.C_alloc ?_ _) | (with_reducible refine Kd.C_drewN ?_ _) | (with_reducible refine Kd.C_drew ?_))); (case side2 => rw [show t253.length = t240.length from (Kd.S_reads' HO_6.out).1.symm]; exact (Kd.S_reads' HO_6.out).2.1); rintro e w' ⟨rfl, ⟨nd, rfl⟩⟩; refine ⟨_, rfl, ?_⟩; have hnb77 := NB226_239.out; have hnc77 := NB239_226.out; have hcz78_0 := cz_ BK226 0 (.int .i64 a0_0); have hcz78_1 := cz_ BK226 1 (.slice A0_1 l0_1.length c0_1); have hfz78_0 := blk_frozen BK226.out 0; have hfz78_1 := blk_frozen BK226.out 1) | ((with_reducible refine gate_callee (f := 17) rfl ?_); refine gl_ (some 55) Try.func17 #[.agg #[.int .i64 a0_0, .slice A0_1 l0_1.length c0_1]] ?_; (with_reducible refine (laws_toGraph.calls kj16 a0_0 _ _ l0_1 t255 t256 _ ?side1 ?side2 A48.out).mono ?_); (case side1 => exact cc_ HR0_1 HB); (case side2 => exact HC0_1.out); rintro e w79 ⟨v257, rfl, ho0, hb⟩; refine ⟨_, rfl, ?_⟩; have HO258 := Aside0.mk (Kd.R_lower (Kd.R_new' ho0 (Kd.R_lt (hd_ HO_240001))) (bz_ HB)); replace HO_4 := Aside0.mk (Kd.S_below (by (with_reducible repeat (first | apply Kd.S_alloc | apply Kd.S_drewN | apply Kd.S_drew)); exact HO_4.out) hb); replace HO_6 := Aside0.mk (Kd.S_below (by (with_reducible repeat (first | apply Kd.S_alloc | apply Kd.S_drewN | apply Kd.S_drew)); exact HO_6.out) hb); replace HO_240001 := Aside0.mk (Kd.R_elder' (hd_ HO_240001) (Kd.R_base ho0) hb); replace BK226 := Aside0.mk (bb_ BK226 hb); replace BK239 := Aside0.mk (bb_ BK239 hb); replace HB := Aside0.mk (bt_ HB hb); (try clear hb); (try clear hb2); (try clear hk); (try clear hi); (try clear ho0); obtain ⟨Ao80, co80, eo80⟩ := Kd.R_slice HO258.out; subst eo80) | ((with_reducible refine gate_callee (f := 35) rfl ?_); refine gl_ (some 56) Try.func35 #[.agg #[.int .i64 t255, .slice Ao80 t256.length co80]] ?_; (with_reducible refine (impl_AllDistances.calls kj16 t255 _ _ t256 t259 _ ?side1 ?side2 A49.out).mono ?_); (case side1 => exact rc_ HO258); (case side2 => exact (Kd.R_reads' HO258.out).2.1); rintro e w81 ⟨v260, rfl, ho0, hb⟩; refine ⟨_, rfl, ?_⟩; have HO261 := Aside0.mk (Kd.S_lower (Kd.S_new' (Kd.S_new' ho0 (Kd.S_lt (by (with_reducible repeat (first | apply Kd.S_alloc | apply Kd.S_drewN | apply Kd.S_drew)); exact HO_4.out))) (Kd.S_lt (by (with_reducible repeat (first | apply Kd.S_alloc | apply Kd.S_drewN | apply Kd.S_drew)); exact HO_6.out))) (bz_ HB)); replace HO_240001 := rb_ HO_240001 hb; replace HO258 := rb_ HO258 hb; replace HO_4 := Aside0.mk (Kd.S_elder' (by (with_reducible repeat (first | apply Kd.S_alloc | apply Kd.S_drewN | apply Kd.S_drew)); exact HO_4.out) (Kd.S_base ho0) hb); replace HO_6 := Aside0.mk (Kd.S_elder' (by (with_reducible repeat (first | apply Kd.S_alloc | apply Kd.S_drewN | apply Kd.S_drew)); exact HO_6.out) (Kd.S_base ho0) hb); replace BK226 := Aside0.mk (bb_ BK226 hb); replace BK239 := Aside0.mk (bb_ BK239 hb); replace HB := Aside0.mk (bt_ HB hb); (try clear hb); (try clear hb2); (try clear hk); (try clear hi); (try clear ho0); obtain ⟨Ao82, co82, eo82⟩ := Kd.S_slice HO261.out; subst eo82) | ((with_reducible refine gate_callee (f := 36) rfl ?_); refine gl_ (some 59) Try.func36 #[.slice Ao82 t259.length co82, .slice Ao33 t232.length co33] ?_; (with_reducible refine (laws_eqIntSS.calls kj16 _ _ t259 _ _ t232 false _ ?side1 ?side2 ?side3 ?side4 A50.out).mono ?_); (case side1 => repeat (first | exact (Kd.S_reads' HO261.out).2.2 | (with_reducible refine Kd.C_alloc ?_ _) | (with_reducible refine Kd.C_drewN ?_ _) | (with_reducible refine Kd.C_drew ?_))); (case side2 => exact (Kd.S_reads' HO261.out).2.1); (case side3 => repeat (first | exact (Kd.S_reads' HO_4.out).2.2 | (with_reducible refine Kd.C_alloc ?_ _) | (with_reducible refine Kd.C_drewN ?_ _) | (with_reducible refine Kd.C_drew ?_))); (case side4 => exact (Kd.S_reads' HO_4.out).2.1); rintro e w' ⟨rfl, ⟨nd, rfl⟩⟩; refine ⟨_, rfl, ?_⟩))
          go_ret
          exact ⟨by first | rfl | (simp [errW_none, errW_some] <;> rfl) | (simp [*, errW_none, errW_some] <;> rfl), by repeat (first | (with_reducible first | exact HB.out | apply below_alloc | apply pw_below_drewN | apply below_drew1 | refine below_set ?_ GE226.out | refine below_set ?_ GE239.out) | exact HB.out)⟩
        ·rw [if_neg c47] at H
         have c47b0 : (t254 == t252) = false := beq_eq_false_iff_ne.mpr c47
         have c47b1 : (t254 != t252) = true := bne_iff_ne.mpr c47
         obtain rfl := Option.some.inj H
         go_wp2_with (first | ((with_reducible refine gate_callee (f := 37) rfl ?_); refine gl_ (some 45) Try.func37 #[.slice Ao32 t240.length co32, .int .i64 1] ?_; (with_reducible refine (laws_markIntSS.calls kj16 (fun k_ => B_ ≤ k_) (.slice Ao32 t240.length co32) t240 1 t252 t253 w _ ?side1 ?side2 A43.out).mono ?_); (case side1 => exact by_ HB); (case side2 => exact HO_6.out); rintro e w83 ⟨rfl, hy0, hb, hkp⟩; refine ⟨_, rfl, ?_⟩; replace HO_4 := ksp_ (fun k_ => k_ < B_) (HO_4.out) hkp; replace HO_240001 := kp_ (fun k_ => True) ((Kd.R_apart' HO_240001.out (Kd.S_typed HO_6.out) (by decide))) hkp; replace BK226 := bk_ BK226 hkp (fun hs_ => Nat.not_le.2 hl226_ hs_); replace BK239 := bk_ BK239 hkp (fun hs_ => Nat.not_le.2 hl239_ hs_); replace HO_6 := Aside0.mk hy0; replace HB := Aside0.mk (hb); (try clear hb); (try clear hkp); (try clear hy0)) | ((with_reducible refine gate_callee (f := 38) rfl ?_); refine goesL_ (some 48) rfl rfl Try.func38 (by kernel_rfl) rfl #[.slice Ao32 t253.length co32, .int .i64 1] rfl (by (try simp only [List.map_toArray, List.map_cons, List.map_nil]); first | done | (rw [show t253.length = t240.length from (Kd.S_reads' HO_6.out).1.symm] <;> rfl) | rfl | (simp only [List.length_drop, List.length_take]; rfl)) ?_; (with_reducible refine (laws_heldIntSS.calls kj16 _ _ t253 1 t254 _ ?side1 ?side2 A44.out).mono ?_); (case side1 => repeat (first | exact (Kd.S_reads' HO_6.out).2.2 | (with_reducible refine Kd.C_alloc ?_ _) | (with_reducible refine Kd.C_drewN ?_ _) | (with_reducible refine Kd.C_drew ?_))); (case side2 => rw [show t253.length = t240.length from (Kd.S_reads' HO_6.out).1.symm]; exact (Kd.S_reads' HO_6.out).2.1); rintro e w' ⟨rfl, ⟨nd, rfl⟩⟩; refine ⟨_, rfl, ?_⟩))
         go_ret
         exact ⟨by first | rfl | (simp [errW_none, errW_some] <;> rfl) | (simp [*, errW_none, errW_some] <;> rfl), by repeat (first | (with_reducible first | exact HB.out | apply below_alloc | apply pw_below_drewN | apply below_drew1 | refine below_set ?_ GE226.out | refine below_set ?_ GE239.out) | exact HB.out)⟩
   ·replace c15 := Bool.eq_false_iff.mpr c15
    subst c15
    rw [if_neg (show ¬ (false = true) by decide)] at H
    obtain rfl := Option.some.inj H
    go_enter Try.func8, Try.ntmps8
    try go_wp2_with (first | ((with_reducible refine gate_dst (N := 1) rfl ?_); refine box_event ?hg (N := 1) ?hd (cs := #[.int .i64 a0_0, .slice A0_1 l0_1.length c0_1]) (t := 24) ?hr ?_; (case hd => rfl); (case hg => rfl); (case hr => first | (go_simp; done) | (go_simp; rfl)); intro gb226 hg w84 hbox hb; have BK226 := Aside0.mk hbox; have GW226 := ge_ HB hg; have GE226 := ge_ HB hg; replace HB := Aside0.mk (bt_ HB hb); clear hb hbox hg; have hcz85_0 := cz_ BK226 0 (.int .i64 a0_0); have hcz85_1 := cz_ BK226 1 (.slice A0_1 l0_1.length c0_1); have hfz85_0 := blk_frozen BK226.out 0; have hfz85_1 := blk_frozen BK226.out 1) | ((with_reducible refine gate_callee (f := 15) rfl ?_); refine gl_ (some 13) Try.func15 #[.agg #[.int .i64 a0_0, .slice A0_1 l0_1.length c0_1], .int .i64 1048576] ?_; (with_reducible refine (laws_szGraph.calls a0_0 _ _ l0_1 1048576 t227 _ ?side1 ?side2 A2.out).mono ?_); (case side1 => exact cb_ HR0_1 HB); (case side2 => exact HC0_1.out); rintro e w86 ⟨rfl, hb⟩; refine ⟨_, rfl, ?_⟩; replace BK226 := Aside0.mk (bb_ BK226 hb); replace HB := Aside0.mk (bt_ HB hb); (try clear hb); (try clear hb2); (try clear hk); (try clear hi); have hcz87_0 := cz_ BK226 0 (.int .i64 a0_0); have hcz87_1 := cz_ BK226 1 (.slice A0_1 l0_1.length c0_1); have hfz87_0 := blk_frozen BK226.out 0; have hfz87_1 := blk_frozen BK226.out 1) | ((with_reducible refine gate_callee (f := 17) rfl ?_); refine gl_ (some 17) Try.func17 #[.agg #[.int .i64 a0_0, .slice A0_1 l0_1.length c0_1]] ?_; (with_reducible refine (laws_toGraph.calls k a0_0 _ _ l0_1 t228 t229 _ ?side1 ?side2 A7.out).mono ?_); (case side1 => exact cb_ HR0_1 HB); (case side2 => exact HC0_1.out); rintro e w88 ⟨v230, rfl, ho0, hb⟩; refine ⟨_, rfl, ?_⟩; have HO231 := Aside0.mk (Kd.R_lower ho0 (bz_ HB)); replace BK226 := Aside0.mk (bb_ BK226 hb); replace HB := Aside0.mk (bt_ HB hb); (try clear hb); (try clear hb2); (try clear hk); (try clear hi); (try clear ho0); obtain ⟨Ao89, co89, eo89⟩ := Kd.R_slice HO231.out; subst eo89) | ((with_reducible refine gate_callee (f := 34) rfl ?_); refine gl_ (some 18) Try.func34 #[.agg #[.int .i64 t228, .slice Ao89 t229.length co89]] ?_; (with_reducible refine (spec_AllDistances.calls k t228 _ _ t229 t232 _ ?side1 ?side2 A8.out).mono ?_); (case side1 => exact rc_ HO231); (case side2 => exact (Kd.R_reads' HO231.out).2.1); rintro e w90 ⟨v233, rfl, ho0, hb⟩; refine ⟨_, rfl, ?_⟩; have HO234 := Aside0.mk (Kd.S_lower ho0 (bz_ HB)); replace HO231 := rb_ HO231 hb; replace BK226 := Aside0.mk (bb_ BK226 hb); replace HB := Aside0.mk (bt_ HB hb); (try clear hb); (try clear hb2); (try clear hk); (try clear hi); (try clear ho0); have hcz91_0 := cz_ BK226 0 (.int .i64 a0_0); have hcz91_1 := cz_ BK226 1 (.slice A0_1 l0_1.length c0_1); have hfz91_0 := blk_frozen BK226.out 0; have hfz91_1 := blk_frozen BK226.out 1) | ((with_reducible refine gate_callee (f := 17) rfl ?_); refine gl_ (some 20) Try.func17 #[.agg #[.int .i64 a0_0, .slice A0_1 l0_1.length c0_1]] ?_; (with_reducible refine (laws_toGraph.calls k a0_0 _ _ l0_1 t235 t236 _ ?side1 ?side2 A9.out).mono ?_); (case side1 => exact cb_ HR0_1 HB); (case side2 => exact HC0_1.out); rintro e w92 ⟨v237, rfl, ho0, hb⟩; refine ⟨_, rfl, ?_⟩; have HO238 := Aside0.mk (Kd.R_lower (Kd.R_new' ho0 (Kd.R_lt (hd_ HO231))) (bz_ HB)); replace HO234 := Aside0.mk (Kd.S_below (by (with_reducible repeat (first | apply Kd.S_alloc | apply Kd.S_drewN | apply Kd.S_drew)); exact HO234.out) hb); replace HO231 := Aside0.mk (Kd.R_elder' (hd_ HO231) (Kd.R_base ho0) hb); replace BK226 := Aside0.mk (bb_ BK226 hb); replace HB := Aside0.mk (bt_ HB hb); (try clear hb); (try clear hb2); (try clear hk); (try clear hi); (try clear ho0)) | ((with_reducible refine gate_dst (N := 5) rfl ?_); refine box_event ?hg (N := 5) ?hd (cs := #[.int .i64 0, .slice none 0 0]) (t := 30) ?hr ?_; (case hd => rfl); (case hg => rfl); (case hr => first | (go_simp; done) | (go_simp; rfl)); intro gb239 hg w93 hbox hb; have BK239 := Aside0.mk hbox; have GW239 := ge_ HB hg; have GE239 := ge_ HB hg; have NB226_239 := nl_ BK226 hg; have NB239_226 := ng_ BK226 hg; replace HO231 := rb_ HO231 hb; replace HO234 := Aside0.mk (Kd.S_below (by (with_reducible repeat (first | apply Kd.S_alloc | apply Kd.S_drewN | apply Kd.S_drew)); exact HO234.out) hb); replace HO238 := rb_ HO238 hb; replace HB := Aside0.mk (bt_ HB hb); replace BK226 := Aside0.mk (bb_ BK226 hb); clear hb hbox hg; have hnb94 := NB239_226.out; have hnc94 := NB226_239.out; have hcz95_0 := cz_ BK239 0 (.int .i64 0); have hcz95_1 := cz_ BK239 1 (.slice none 0 0); have hfz95_0 := blk_frozen BK239.out 0; have hfz95_1 := blk_frozen BK239.out 1; obtain ⟨Ao96, co96, eo96⟩ := Kd.R_slice HO238.out; subst eo96) | ((with_reducible refine gate_callee (f := 35) rfl ?_); refine gl_ (some 22) Try.func35 #[.agg #[.int .i64 t235, .slice Ao96 t236.length co96]] ?_; (with_reducible refine (impl_AllDistances.calls k t235 _ _ t236 t240 _ ?side1 ?side2 A10.out).mono ?_); (case side1 => refine (Kd.R_reads' (e := 67) (base := w.heap.size) (ok := fun k_ => (True ∧ some k_ ≠ (.slice Ao89 t229.length co89 : Value).ownBlock)) (n := t236.length) (c := co96) ?_).2.2; exact (hs_ HO238 BK239)); (case side2 => exact (Kd.R_reads' HO238.out).2.1); rintro e w97 ⟨v241, rfl, ho0, hb⟩; refine ⟨_, rfl, ?_⟩; obtain ⟨B_, eB_, HO242⟩ := split_ ho0 (bz_ HB); replace HO231 := rs_ HO231 BK239 hb; replace HO238 := oldR_ (hs_ HO238 BK239) hb eB_; replace HO234 := oldS_ (by (with_reducible repeat (first | apply Kd.S_alloc | apply Kd.S_drewN | apply Kd.S_drew)); exact (Kd.S_mono (Kd.S_far (p := ⟨gb239, 1, none⟩) (Kd.S_far (p := ⟨gb239, 0, none⟩) (Kd.S_types HO234.out BK239.out (by decide)) (fun _ hk => hk.2) (.int .i64 t235)) (fun _ hk => hk.2) (.slice Ao96 t236.length co96)) (fun _ h_ => h_.1))) hb eB_; have hl226_ : gb226 < B_ := (by rw [eB_]; exact bg_ BK226 NB226_239); replace BK226 := bf_ BK226 NB226_239 hb; have hl239_ : gb239 < B_ := (by rw [eB_]; exact blk_lt (g := gb239) (o := .cells #[.int .i64 t235, .slice Ao96 t236.length co96] 30 (0, 0)) (by (with_reducible repeat (first | refine blk_drewN ?_ _ | refine blk_drew ?_ | refine blk_alloc ?_ _)); refine blk_put (cs := #[.int .i64 t235, .slice none 0 0]) ?_ 1 _ rfl; (with_reducible repeat (first | refine blk_drewN ?_ _ | refine blk_drew ?_ | refine blk_alloc ?_ _)); refine blk_put (cs := #[.int .i64 0, .slice none 0 0]) ?_ 0 _ rfl; (with_reducible repeat (first | refine blk_drewN ?_ _ | refine blk_drew ?_ | refine blk_alloc ?_ _)); exact BK239.out)); replace BK239 := Aside0.mk (blk_below (g := gb239) (o := .cells #[.int .i64 t235, .slice Ao96 t236.length co96] 30 (0, 0)) (by (with_reducible repeat (first | refine blk_drewN ?_ _ | refine blk_drew ?_ | refine blk_alloc ?_ _)); refine blk_put (cs := #[.int .i64 t235, .slice none 0 0]) ?_ 1 _ rfl; (with_reducible repeat (first | refine blk_drewN ?_ _ | refine blk_drew ?_ | refine blk_alloc ?_ _)); refine blk_put (cs := #[.int .i64 0, .slice none 0 0]) ?_ 0 _ rfl; (with_reducible repeat (first | refine blk_drewN ?_ _ | refine blk_drew ?_ | refine blk_alloc ?_ _)); exact BK239.out) hb); replace HB := Aside0.mk (bt_ HB hb); (try clear hb); (try clear hb2); (try clear hk); (try clear hi); (try clear ho0); obtain ⟨Ao98, co98, eo98⟩ := Kd.S_slice HO242.out; subst eo98; obtain ⟨Ao99, co99, eo99⟩ := Kd.S_slice HO234.out; subst eo99) | ((with_reducible refine gate_callee (f := 36) rfl ?_); refine gl_ (some 25) Try.func36 #[.slice Ao98 t240.length co98, .slice Ao99 t232.length co99] ?_; (with_reducible refine (laws_eqIntSS.calls k _ _ t240 _ _ t232 true _ ?side1 ?side2 ?side3 ?side4 A11.out).mono ?_); (case side1 => repeat (first | exact (Kd.S_reads' HO242.out).2.2 | (with_reducible refine Kd.C_alloc ?_ _) | (with_reducible refine Kd.C_drewN ?_ _) | (with_reducible refine Kd.C_drew ?_))); (case side2 => exact (Kd.S_reads' HO242.out).2.1); (case side3 => repeat (first | exact (Kd.S_reads' HO234.out).2.2 | (with_reducible refine Kd.C_alloc ?_ _) | (with_reducible refine Kd.C_drewN ?_ _) | (with_reducible refine Kd.C_drew ?_))); (case side4 => exact (Kd.S_reads' HO234.out).2.1); rintro e w' ⟨rfl, ⟨nd, rfl⟩⟩; refine ⟨_, rfl, ?_⟩))
    (try (rw [drewN_self w97]; generalize hq_ : World.drewN w97 _ = w97; replace HO231 : Aside0 (Kd.R k67 67 w97 w.heap.size (fun k_ => some k_ ≠ (.slice Ao96 t236.length co96 : Value).ownBlock) (.slice Ao89 t229.length co89) t229) := ⟨by rw [← hq_]; exact (by (with_reducible repeat (first | apply Kd.R_alloc | apply Kd.R_drewN | apply Kd.R_drew)); exact Kd.R_mono HO231.out (fun _ hk => hk.2))⟩; replace HO234 : Aside0 (Kd.S (Kd.slice 3 (Kd.int .i64)) 25 w97 w.heap.size (fun k_ => k_ < B_) (.slice Ao99 t232.length co99) t232) := ⟨by rw [← hq_]; exact (by (with_reducible repeat (first | apply Kd.S_alloc | apply Kd.S_drewN | apply Kd.S_drew)); exact Kd.S_mono HO234.out (fun _ hk => hk))⟩; replace HO238 : Aside0 (Kd.R k67 67 w97 w.heap.size (fun k_ => k_ < B_) (.slice Ao96 t236.length co96) t236) := ⟨by rw [← hq_]; exact (by (with_reducible repeat (first | apply Kd.R_alloc | apply Kd.R_drewN | apply Kd.R_drew)); exact Kd.R_mono HO238.out (fun _ hk => hk))⟩; replace HO242 : Aside0 (Kd.S (Kd.slice 3 (Kd.int .i64)) 25 w97 w.heap.size (fun k_ => B_ ≤ k_) (.slice Ao98 t240.length co98) t240) := ⟨by rw [← hq_]; exact (by (with_reducible repeat (first | apply Kd.S_alloc | apply Kd.S_drewN | apply Kd.S_drew)); exact Kd.S_mono HO242.out (fun _ hk => hk))⟩; replace BK226 : Aside0 (w97.heap[gb226]? = some (.cells #[.int .i64 a0_0, .slice A0_1 l0_1.length c0_1] 24 (0, 0))) := ⟨by rw [← hq_]; exact (by (with_reducible repeat (first | refine blk_drewN ?_ _ | refine blk_drew ?_ | refine blk_alloc ?_ _)); exact BK226.out)⟩; replace BK239 : Aside0 (w97.heap[gb239]? = some (.cells #[.int .i64 t235, .slice Ao96 t236.length co96] 30 (0, 0))) := ⟨by rw [← hq_]; exact (by (with_reducible repeat (first | refine blk_drewN ?_ _ | refine blk_drew ?_ | refine blk_alloc ?_ _)); exact BK239.out)⟩; replace HB : Aside0 (Below w.heap.size w w97) := ⟨by rw [← hq_]; exact (by repeat (first | (with_reducible first | exact HB.out | apply below_alloc | apply pw_below_drewN | apply below_drew1 | refine below_set ?_ GE226.out | refine below_set ?_ GE239.out) | exact HB.out))⟩; clear hq_))
    replace HO231 := Aside0.mk (Kd.R_drew HO231.out)
    replace HO234 := Aside0.mk (Kd.S_drew HO234.out)
    replace HO238 := Aside0.mk (Kd.R_drew HO238.out)
    replace HO242 := Aside0.mk (Kd.S_drew HO242.out)
    replace BK226 := Aside0.mk (blk_drew BK226.out)
    replace BK239 := Aside0.mk (blk_drew BK239.out)
    replace HB := Aside0.mk (below_drew1 HB.out)
    refine start_ (n := 5) (S := fun w' => w'.cell? ⟨gb239, 0, none⟩ = some (.int .i64 t235) ∧ w'.cell? ⟨gb239, 1, none⟩ = some (.slice Ao96 t236.length co96) ∧ w'.cell? ⟨gb226, 0, none⟩ = some (.int .i64 a0_0) ∧ w'.cell? ⟨gb226, 1, none⟩ = some (.slice A0_1 l0_1.length c0_1)) (ds := []) ba8_0 (by kernel_rfl) rfl rfl ⟨(blk_cell BK239.out 0).trans rfl, (blk_cell BK239.out 1).trans rfl, (blk_cell BK226.out 0).trans rfl, (blk_cell BK226.out 1).trans rfl⟩ (fun hHeld => ?_)
    generalize w97.drew = w100 at HO231 HO234 HO238 HO242 BK226 BK239 HB hHeld ⊢
    refine take_ (i := 0) (N := some 27) (v := ?_) (a' := ?_) ba8_1 rfl rfl (by kernel_rfl) (fun _ _ _ h => h) (Or.inl ⟨by rfl, ?_⟩) hHeld ?_ ?_
    rotate_left; · rintro w' ⟨s0, s1, s2, s3⟩; go_simp; with_reducible rfl
    rotate_left; · simp only [Act.put, List.setIfInBounds_toArray, List.set_cons_zero, List.set_cons_succ, i64_w, i32_w]; rfl
    refine take_ (i := 1) (N := some 28) (v := ?_) (a' := ?_) ba8_2 rfl rfl (by kernel_rfl) (fun _ _ _ h => h) (Or.inl ⟨by rfl, ?_⟩) hHeld ?_ ?_
    rotate_left; · rintro w' ⟨s0, s1, s2, s3⟩; go_simp; with_reducible rfl
    rotate_left; · simp only [Act.put, List.setIfInBounds_toArray, List.set_cons_zero, List.set_cons_succ, i64_w, i32_w]; rfl
    refine one_ (i := 2) (N := some 29) ba8_3 rfl rfl (by kernel_rfl) (by decide) (fun K hK => ?_)
    refine gz_ Try.func17 #[.agg #[.int .i64 a0_0, .slice A0_1 l0_1.length c0_1]] ?_
    with_reducible refine (laws_toGraph.calls k a0_0 _ _ l0_1 t244 t245 _ ?side1 ?side2 A13.out).mono ?_
    (case side1 => exact cb_ HR0_1 HB)
    (case side2 => exact HC0_1.out)
    rintro e w101 ⟨v246, rfl, ho0, hb⟩
    refine ⟨_, rfl, ?_⟩
    have HO247 := Aside0.mk (Kd.R_lower (Kd.R_new' (Kd.R_new' ho0 (Kd.R_lt (hd_ HO231))) (Kd.R_lt (hd_ HO238))) (bz_ HB))
    replace HO234 := Aside0.mk (Kd.S_below (by (with_reducible repeat (first | apply Kd.S_alloc | apply Kd.S_drewN | apply Kd.S_drew)); exact HO234.out) hb)
    replace HO242 := Aside0.mk (Kd.S_below (by (with_reducible repeat (first | apply Kd.S_alloc | apply Kd.S_drewN | apply Kd.S_drew)); exact HO242.out) hb)
    replace HO231 := Aside0.mk (Kd.R_elder' (hd_ HO231) (Kd.R_base ho0) hb)
    replace HO238 := Aside0.mk (Kd.R_elder' (hd_ HO238) (Kd.R_base ho0) hb)
    replace BK226 := Aside0.mk (bb_ BK226 hb)
    replace BK239 := Aside0.mk (bb_ BK239 hb)
    replace HB := Aside0.mk (bt_ HB hb)
    (try clear hb)
    (try clear hb2)
    (try clear hk)
    (try clear hi)
    (try clear ho0)
    obtain ⟨Ao102, co102, eo102⟩ := Kd.R_slice HO247.out
    (first | subst eo102 | (injection eo102 with f1_ f2_ f3_; have f4_ := f1_.symm; have f5_ := f3_.symm; clear f1_ f2_ f3_; subst f4_; subst f5_))
    refine hK.out _ _ ⟨(blk_cell BK239.out 0).trans rfl, (blk_cell BK239.out 1).trans rfl, (blk_cell BK226.out 0).trans rfl, (blk_cell BK226.out 1).trans rfl⟩ (fun hHeld => ?_)
    clear hK K
    refine nz_ 29 ?_
    refine one_ (i := 3) (N := some 30) ba8_4 rfl rfl (by kernel_rfl) (by decide) (fun K hK => ?_)
    refine gz_ Try.func20 #[.agg #[.int .i64 t235, .slice Ao96 t236.length co96], .agg #[.int .i64 t244, .slice Ao102 t245.length co102]] ?_
    with_reducible refine (laws_eqGraph.calls k t235 _ _ t236 t244 _ _ t245 false _ ?side1 ?side2 ?side3 ?side4 A14.out).mono ?_
    (case side1 => exact rc_ HO238)
    (case side2 => exact (Kd.R_reads' HO238.out).2.1)
    (case side3 => exact rc_ HO247)
    (case side4 => exact (Kd.R_reads' HO247.out).2.1)
    rintro e w103 ⟨rfl, hb⟩
    refine ⟨_, rfl, ?_⟩
    replace HO231 := rb_ HO231 hb
    replace HO234 := Aside0.mk (Kd.S_below (by (with_reducible repeat (first | apply Kd.S_alloc | apply Kd.S_drewN | apply Kd.S_drew)); exact HO234.out) hb)
    replace HO238 := rb_ HO238 hb
    replace HO242 := Aside0.mk (Kd.S_below (by (with_reducible repeat (first | apply Kd.S_alloc | apply Kd.S_drewN | apply Kd.S_drew)); exact HO242.out) hb)
    replace HO247 := rb_ HO247 hb
    replace BK226 := Aside0.mk (bb_ BK226 hb)
    replace BK239 := Aside0.mk (bb_ BK239 hb)
    replace HB := Aside0.mk (bt_ HB hb)
    (try clear hb)
    (try clear hb2)
    (try clear hk)
    (try clear hi)
    refine hK.out _ _ ⟨(blk_cell BK239.out 0).trans rfl, (blk_cell BK239.out 1).trans rfl, (blk_cell BK226.out 0).trans rfl, (blk_cell BK226.out 1).trans rfl⟩ (fun hHeld => ?_)
    clear hK K
    refine nz_ 30 ?_
    refine pure_ (i := 4) (N := some 31) (v := ?_) (a' := ?_) ba8_5 rfl rfl (by kernel_rfl) (fun _ _ _ h => h) (Or.inl ⟨by rfl, ?_⟩) ?_ ?_
    rotate_left; · intro w'; go_simp; with_reducible rfl
    rotate_left; · simp only [Act.put, List.setIfInBounds_toArray, List.set_cons_zero, List.set_cons_succ, i64_w, i32_w]; rfl
    refine done_ (by kernel_rfl) ?_
    try go_wp2
    go_ret
    exact ⟨by first | rfl | (simp [errW_none, errW_some] <;> rfl) | (simp [*, errW_none, errW_some] <;> rfl), by repeat (first | (with_reducible first | exact HB.out | apply below_alloc | apply pw_below_drewN | apply below_drew1 | refine below_set ?_ GE226.out | refine below_set ?_ GE239.out) | exact HB.out)⟩
  ·replace c12 := Bool.eq_false_iff.mpr c12
   subst c12
   rw [if_neg (show ¬ (false = true) by decide)] at H
   obtain rfl := Option.some.inj H
   go_enter Try.func8, Try.ntmps8
   go_wp2_with (first | ((with_reducible refine gate_dst (N := 1) rfl ?_); refine box_event ?hg (N := 1) ?hd (cs := #[.int .i64 a0_0, .slice A0_1 l0_1.length c0_1]) (t := 24) ?hr ?_; (case hd => rfl); (case hg => rfl); (case hr => first | (go_simp; done) | (go_simp; rfl)); intro gb226 hg w104 hbox hb; have BK226 := Aside0.mk hbox; have GW226 := ge_ HB hg; have GE226 := ge_ HB hg; replace HB := Aside0.mk (bt_ HB hb); clear hb hbox hg; have hcz105_0 := cz_ BK226 0 (.int .i64 a0_0); have hcz105_1 := cz_ BK226 1 (.slice A0_1 l0_1.length c0_1); have hfz105_0 := blk_frozen BK226.out 0; have hfz105_1 := blk_frozen BK226.out 1) | ((with_reducible refine gate_callee (f := 15) rfl ?_); refine gl_ (some 13) Try.func15 #[.agg #[.int .i64 a0_0, .slice A0_1 l0_1.length c0_1], .int .i64 1048576] ?_; (with_reducible refine (laws_szGraph.calls a0_0 _ _ l0_1 1048576 t227 _ ?side1 ?side2 A2.out).mono ?_); (case side1 => exact cb_ HR0_1 HB); (case side2 => exact HC0_1.out); rintro e w106 ⟨rfl, hb⟩; refine ⟨_, rfl, ?_⟩; replace BK226 := Aside0.mk (bb_ BK226 hb); replace HB := Aside0.mk (bt_ HB hb); (try clear hb); (try clear hb2); (try clear hk); (try clear hi); have hcz107_0 := cz_ BK226 0 (.int .i64 a0_0); have hcz107_1 := cz_ BK226 1 (.slice A0_1 l0_1.length c0_1); have hfz107_0 := blk_frozen BK226.out 0; have hfz107_1 := blk_frozen BK226.out 1) | ((with_reducible refine gate_callee (f := 17) rfl ?_); refine gl_ (some 17) Try.func17 #[.agg #[.int .i64 a0_0, .slice A0_1 l0_1.length c0_1]] ?_; (with_reducible refine (laws_toGraph.calls k a0_0 _ _ l0_1 t228 t229 _ ?side1 ?side2 A7.out).mono ?_); (case side1 => exact cb_ HR0_1 HB); (case side2 => exact HC0_1.out); rintro e w108 ⟨v230, rfl, ho0, hb⟩; refine ⟨_, rfl, ?_⟩; have HO231 := Aside0.mk (Kd.R_lower ho0 (bz_ HB)); replace BK226 := Aside0.mk (bb_ BK226 hb); replace HB := Aside0.mk (bt_ HB hb); (try clear hb); (try clear hb2); (try clear hk); (try clear hi); (try clear ho0); obtain ⟨Ao109, co109, eo109⟩ := Kd.R_slice HO231.out; subst eo109) | ((with_reducible refine gate_callee (f := 34) rfl ?_); refine gl_ (some 18) Try.func34 #[.agg #[.int .i64 t228, .slice Ao109 t229.length co109]] ?_; (with_reducible refine (spec_AllDistances.calls k t228 _ _ t229 t232 _ ?side1 ?side2 A8.out).mono ?_); (case side1 => exact rc_ HO231); (case side2 => exact (Kd.R_reads' HO231.out).2.1); rintro e w110 ⟨v233, rfl, ho0, hb⟩; refine ⟨_, rfl, ?_⟩; have HO234 := Aside0.mk (Kd.S_lower ho0 (bz_ HB)); replace HO231 := rb_ HO231 hb; replace BK226 := Aside0.mk (bb_ BK226 hb); replace HB := Aside0.mk (bt_ HB hb); (try clear hb); (try clear hb2); (try clear hk); (try clear hi); (try clear ho0); have hcz111_0 := cz_ BK226 0 (.int .i64 a0_0); have hcz111_1 := cz_ BK226 1 (.slice A0_1 l0_1.length c0_1); have hfz111_0 := blk_frozen BK226.out 0; have hfz111_1 := blk_frozen BK226.out 1) | ((with_reducible refine gate_callee (f := 17) rfl ?_); refine gl_ (some 20) Try.func17 #[.agg #[.int .i64 a0_0, .slice A0_1 l0_1.length c0_1]] ?_; (with_reducible refine (laws_toGraph.calls k a0_0 _ _ l0_1 t235 t236 _ ?side1 ?side2 A9.out).mono ?_); (case side1 => exact cb_ HR0_1 HB); (case side2 => exact HC0_1.out); rintro e w112 ⟨v237, rfl, ho0, hb⟩; refine ⟨_, rfl, ?_⟩; have HO238 := Aside0.mk (Kd.R_lower (Kd.R_new' ho0 (Kd.R_lt (hd_ HO231))) (bz_ HB)); replace HO234 := Aside0.mk (Kd.S_below (by (with_reducible repeat (first | apply Kd.S_alloc | apply Kd.S_drewN | apply Kd.S_drew)); exact HO234.out) hb); replace HO231 := Aside0.mk (Kd.R_elder' (hd_ HO231) (Kd.R_base ho0) hb); replace BK226 := Aside0.mk (bb_ BK226 hb); replace HB := Aside0.mk (bt_ HB hb); (try clear hb); (try clear hb2); (try clear hk); (try clear hi); (try clear ho0)) | ((with_reducible refine gate_dst (N := 5) rfl ?_); refine box_event ?hg (N := 5) ?hd (cs := #[.int .i64 0, .slice none 0 0]) (t := 30) ?hr ?_; (case hd => rfl); (case hg => rfl); (case hr => first | (go_simp; done) | (go_simp; rfl)); intro gb239 hg w113 hbox hb; have BK239 := Aside0.mk hbox; have GW239 := ge_ HB hg; have GE239 := ge_ HB hg; have NB226_239 := nl_ BK226 hg; have NB239_226 := ng_ BK226 hg; replace HO231 := rb_ HO231 hb; replace HO234 := Aside0.mk (Kd.S_below (by (with_reducible repeat (first | apply Kd.S_alloc | apply Kd.S_drewN | apply Kd.S_drew)); exact HO234.out) hb); replace HO238 := rb_ HO238 hb; replace HB := Aside0.mk (bt_ HB hb); replace BK226 := Aside0.mk (bb_ BK226 hb); clear hb hbox hg; have hnb114 := NB239_226.out; have hnc114 := NB226_239.out; have hcz115_0 := cz_ BK239 0 (.int .i64 0); have hcz115_1 := cz_ BK239 1 (.slice none 0 0); have hfz115_0 := blk_frozen BK239.out 0; have hfz115_1 := blk_frozen BK239.out 1; obtain ⟨Ao116, co116, eo116⟩ := Kd.R_slice HO238.out; subst eo116) | ((with_reducible refine gate_callee (f := 35) rfl ?_); refine gl_ (some 22) Try.func35 #[.agg #[.int .i64 t235, .slice Ao116 t236.length co116]] ?_; (with_reducible refine (impl_AllDistances.calls k t235 _ _ t236 t240 _ ?side1 ?side2 A10.out).mono ?_); (case side1 => refine (Kd.R_reads' (e := 67) (base := w.heap.size) (ok := fun k_ => (True ∧ some k_ ≠ (.slice Ao109 t229.length co109 : Value).ownBlock)) (n := t236.length) (c := co116) ?_).2.2; exact (hs_ HO238 BK239)); (case side2 => exact (Kd.R_reads' HO238.out).2.1); rintro e w117 ⟨v241, rfl, ho0, hb⟩; refine ⟨_, rfl, ?_⟩; obtain ⟨B_, eB_, HO242⟩ := split_ ho0 (bz_ HB); replace HO231 := rs_ HO231 BK239 hb; replace HO238 := oldR_ (hs_ HO238 BK239) hb eB_; replace HO234 := oldS_ (by (with_reducible repeat (first | apply Kd.S_alloc | apply Kd.S_drewN | apply Kd.S_drew)); exact (Kd.S_mono (Kd.S_far (p := ⟨gb239, 1, none⟩) (Kd.S_far (p := ⟨gb239, 0, none⟩) (Kd.S_types HO234.out BK239.out (by decide)) (fun _ hk => hk.2) (.int .i64 t235)) (fun _ hk => hk.2) (.slice Ao116 t236.length co116)) (fun _ h_ => h_.1))) hb eB_; have hl226_ : gb226 < B_ := (by rw [eB_]; exact bg_ BK226 NB226_239); replace BK226 := bf_ BK226 NB226_239 hb; have hl239_ : gb239 < B_ := (by rw [eB_]; exact blk_lt (g := gb239) (o := .cells #[.int .i64 t235, .slice Ao116 t236.length co116] 30 (0, 0)) (by (with_reducible repeat (first | refine blk_drewN ?_ _ | refine blk_drew ?_ | refine blk_alloc ?_ _)); refine blk_put (cs := #[.int .i64 t235, .slice none 0 0]) ?_ 1 _ rfl; (with_reducible repeat (first | refine blk_drewN ?_ _ | refine blk_drew ?_ | refine blk_alloc ?_ _)); refine blk_put (cs := #[.int .i64 0, .slice none 0 0]) ?_ 0 _ rfl; (with_reducible repeat (first | refine blk_drewN ?_ _ | refine blk_drew ?_ | refine blk_alloc ?_ _)); exact BK239.out)); replace BK239 := Aside0.mk (blk_below (g := gb239) (o := .cells #[.int .i64 t235, .slice Ao116 t236.length co116] 30 (0, 0)) (by (with_reducible repeat (first | refine blk_drewN ?_ _ | refine blk_drew ?_ | refine blk_alloc ?_ _)); refine blk_put (cs := #[.int .i64 t235, .slice none 0 0]) ?_ 1 _ rfl; (with_reducible repeat (first | refine blk_drewN ?_ _ | refine blk_drew ?_ | refine blk_alloc ?_ _)); refine blk_put (cs := #[.int .i64 0, .slice none 0 0]) ?_ 0 _ rfl; (with_reducible repeat (first | refine blk_drewN ?_ _ | refine blk_drew ?_ | refine blk_alloc ?_ _)); exact BK239.out) hb); replace HB := Aside0.mk (bt_ HB hb); (try clear hb); (try clear hb2); (try clear hk); (try clear hi); (try clear ho0); obtain ⟨Ao118, co118, eo118⟩ := Kd.S_slice HO242.out; subst eo118; obtain ⟨Ao119, co119, eo119⟩ := Kd.S_slice HO234.out; subst eo119) | ((with_reducible refine gate_callee (f := 36) rfl ?_); refine gl_ (some 25) Try.func36 #[.slice Ao118 t240.length co118, .slice Ao119 t232.length co119] ?_; (with_reducible refine (laws_eqIntSS.calls k _ _ t240 _ _ t232 false _ ?side1 ?side2 ?side3 ?side4 A11.out).mono ?_); (case side1 => repeat (first | exact (Kd.S_reads' HO242.out).2.2 | (with_reducible refine Kd.C_alloc ?_ _) | (with_reducible refine Kd.C_drewN ?_ _) | (with_reducible refine Kd.C_drew ?_))); (case side2 => exact (Kd.S_reads' HO242.out).2.1); (case side3 => repeat (first | exact (Kd.S_reads' HO234.out).2.2 | (with_reducible refine Kd.C_alloc ?_ _) | (with_reducible refine Kd.C_drewN ?_ _) | (with_reducible refine Kd.C_drew ?_))); (case side4 => exact (Kd.S_reads' HO234.out).2.1); rintro e w' ⟨rfl, ⟨nd, rfl⟩⟩; refine ⟨_, rfl, ?_⟩))
   go_ret
   exact ⟨by first | rfl | (simp [errW_none, errW_some] <;> rfl) | (simp [*, errW_none, errW_some] <;> rfl), by repeat (first | (with_reducible first | exact HB.out | apply below_alloc | apply pw_below_drewN | apply below_drew1 | refine below_set ?_ GE226.out | refine below_set ?_ GE239.out) | exact HB.out)⟩

end Go.Proofs.Yteopiggdpadolaa.QFnExactAllDistances
