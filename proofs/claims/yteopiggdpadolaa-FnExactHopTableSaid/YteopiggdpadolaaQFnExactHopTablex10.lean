/- Contracts of functions that the law reaches: what each call returns and what it leaves in memory. Made by this session over the print of the kit. -/
import Derived.Test.YteopiggdpadolaaQFnExactHopTablex0
import Derived.Test.YteopiggdpadolaaQFnExactHopTablex1
import Derived.Test.YteopiggdpadolaaQFnExactHopTablex2
import Derived.Test.YteopiggdpadolaaQFnExactHopTablex6
import Derived.Test.YteopiggdpadolaaQFnExactHopTablex9
namespace Go.Proofs.Yteopiggdpadolaa.QFnExactHopTable
open Go.RowKit Go.Proofs.YteopiggdpadolaaU.PrintWords Go.Proofs.YteopiggdpadolaaU.PrintLast Go.Proofs.YteopiggdpadolaaU.PrintMore
attribute [local go_sem] max2_int min2_int max_two min_two max_three min_three max_four min_four   -- for this text's walks alone
set_option linter.unusedVariables false
set_option linter.unusedSimpArgs false
def ba10_0 : Array Bool := #[false, false, false, false, false]
def ba10_1 : Array Bool := #[true, false, false, false, false]
def ba10_2 : Array Bool := #[true, true, false, false, false]
def ba10_3 : Array Bool := #[true, true, true, false, false]
def ba10_4 : Array Bool := #[true, true, true, true, false]
def ba10_5 : Array Bool := #[true, true, true, true, true]

/-! ### laws_FnExactHopTable: function 14 -/
def laws_FnExactHopTable.j0 : Nat → Int → List (List Int) → List (List Int) → Bool → Int → List (S82) → Option (Bool)
 | 0, _, _, _, _, _, _ => none
 | k + 1, x1, x6, x8, x46, x282000, x282001 => if x46 = true then (some false) else ((laws_markIntSS.f k x8 1).bind fun bt307 => ((laws_heldIntSS.f k bt307.2 1).bind fun t309 => (if t309 < 0 then (some false) else (if t309 = bt307.1 then ((laws_toGraph.f k x282000 x282001).bind fun bt310 => ((impl_HopTable.f k bt310.1 bt310.2 x1).bind fun t314 => ((laws_eqIntSS.f k t314 x6).bind fun t317 => (if t317 = true then ((laws_heldIntSS.f k bt307.2 1).bind fun t318 => (if t318 < 0 then (some false) else (if t318 = bt307.1 then (some true) else (some false)))) else (some false))))) else (some false)))))
def laws_FnExactHopTable.f (k : Nat) (a0_0 : Int) (l0_1 : List (S82)) (a1 : Int) : Option (Bool) := (laws_szGraph.f a0_0 l0_1 1048576).bind fun t282 => (if t282 < 0 then (some true) else ((laws_toGraph.f k a0_0 l0_1).bind fun bt283 => ((spec_HopTable.f k bt283.1 bt283.2 a1).bind fun t287 => ((laws_toGraph.f k a0_0 l0_1).bind fun bt290 => ((impl_HopTable.f k bt290.1 bt290.2 a1).bind fun t295 => ((laws_eqIntSS.f k t295 t287).bind fun t298 => (if t298 = true then ((laws_toGraph.f k a0_0 l0_1).bind fun bt299 => ((laws_eqGraph.f k bt290.1 bt290.2 bt299.1 bt299.2).bind fun t303 => (if t303 = true then ((laws_markGraph.f k bt290.1 bt290.2 1).bind fun bt304 => (if bt304.1 < 0 then (laws_FnExactHopTable.j0 k a1 t287 t295 true a0_0 l0_1) else ((laws_eqIntSS.f k t295 t287).bind fun t306 => (laws_FnExactHopTable.j0 k a1 t287 t295 (!t306) a0_0 l0_1)))) else (some false)))) else (some false))))))))
theorem laws_FnExactHopTable.mono_l : ∀ k, (∀ y0 y1 y2 y3 y4 y5, LeO (laws_FnExactHopTable.j0 k y0 y1 y2 y3 y4 y5) (laws_FnExactHopTable.j0 (k + 1) y0 y1 y2 y3 y4 y5))
 | 0 => fun _ _ _ _ _ _ r h => by simp [laws_FnExactHopTable.j0] at h
 | k + 1 => by
  have ih0 := laws_FnExactHopTable.mono_l k
  ·intro y0 y1 y2 y3 y4 y5
   unfold laws_FnExactHopTable.j0
   repeat' first
   | (with_reducible exact ih0 _ _ _ _ _ _)
   | (with_reducible exact impl_HopTable.mono _ _ _ _)
   | (with_reducible exact laws_eqGraph.mono _ _ _ _ _)
   | (with_reducible exact laws_eqIntSS.mono _ _ _)
   | (with_reducible exact laws_heldIntSS.mono _ _ _)
   | (with_reducible exact laws_markGraph.mono _ _ _ _)
   | (with_reducible exact laws_markIntSS.mono _ _ _)
   | (with_reducible exact laws_toGraph.mono _ _ _)
   | (with_reducible exact spec_HopTable.mono _ _ _ _)
   | (with_reducible exact LeO.refl _)
   | (with_reducible exact LeO.none _)
   | (with_reducible refine LeO.ite ?_ ?_)
   | (with_reducible refine LeO.bind ?_ (fun _ => ?_))
   | exact ih0 _ _ _ _ _ _
   | exact impl_HopTable.mono _ _ _ _
   | exact laws_eqGraph.mono _ _ _ _ _
   | exact laws_eqIntSS.mono _ _ _
   | exact laws_heldIntSS.mono _ _ _
   | exact laws_markGraph.mono _ _ _ _
   | exact laws_markIntSS.mono _ _ _
   | exact laws_toGraph.mono _ _ _
   | exact spec_HopTable.mono _ _ _ _
   | exact LeO.none _
   | refine LeO.ite ?_ ?_
   | refine LeO.bind ?_ (fun _ => ?_)
theorem laws_FnExactHopTable.mono : ∀ a0 a1 a2 k, LeO (laws_FnExactHopTable.f k a0 a1 a2) (laws_FnExactHopTable.f (k + 1) a0 a1 a2) := by
 intro a0 a1 a2 k
 have ih0 := laws_FnExactHopTable.mono_l k
 unfold laws_FnExactHopTable.f
 repeat' first
   | (with_reducible exact ih0 _ _ _ _ _ _)
   | (with_reducible exact impl_HopTable.mono _ _ _ _)
   | (with_reducible exact laws_eqGraph.mono _ _ _ _ _)
   | (with_reducible exact laws_eqIntSS.mono _ _ _)
   | (with_reducible exact laws_heldIntSS.mono _ _ _)
   | (with_reducible exact laws_markGraph.mono _ _ _ _)
   | (with_reducible exact laws_markIntSS.mono _ _ _)
   | (with_reducible exact laws_toGraph.mono _ _ _)
   | (with_reducible exact spec_HopTable.mono _ _ _ _)
   | (with_reducible exact LeO.refl _)
   | (with_reducible exact LeO.none _)
   | (with_reducible refine LeO.ite ?_ ?_)
   | (with_reducible refine LeO.bind ?_ (fun _ => ?_))
   | exact ih0 _ _ _ _ _ _
   | exact impl_HopTable.mono _ _ _ _
   | exact laws_eqGraph.mono _ _ _ _ _
   | exact laws_eqIntSS.mono _ _ _
   | exact laws_heldIntSS.mono _ _ _
   | exact laws_markGraph.mono _ _ _ _
   | exact laws_markIntSS.mono _ _ _
   | exact laws_toGraph.mono _ _ _
   | exact spec_HopTable.mono _ _ _ _
   | exact LeO.none _
   | refine LeO.ite ?_ ?_
   | refine LeO.bind ?_ (fun _ => ?_)
set_option maxHeartbeats 8000000 in
set_option maxRecDepth 100000 in
theorem laws_FnExactHopTable.calls (k : Nat) (a0_0 : Int) (A0_1 : Option Addr) (c0_1 : Nat) (l0_1 : List (S82)) (a1 : Int) (r : Bool) (w : World) (hr0_1 : Kd.C k82 w A0_1 l0_1.length l0_1) (hc0_1 : l0_1.length ≤ c0_1) (h : laws_FnExactHopTable.f k a0_0 l0_1 a1 = some r) :
  Calls Try.prog 14 #[.agg #[.int .i64 a0_0, .slice A0_1 l0_1.length c0_1], .int .i64 a1] w fun e w' => e = .returned (.bool r) ∧ Below w.heap.size w w' := by
 have hu24 := Try.underlying24
 have hu30 := Try.underlying30
 have HR0_1 := Aside0.mk hr0_1
 have HC0_1 := Aside0.mk hc0_1
 clear hr0_1 hc0_1
 have HB := Aside0.mk (Below.refl w.heap.size w)
 have H : ((laws_szGraph.f a0_0 l0_1 1048576).bind fun t282 => (if t282 < 0 then (some true) else ((laws_toGraph.f k a0_0 l0_1).bind fun bt283 => ((spec_HopTable.f k bt283.1 bt283.2 a1).bind fun t287 => ((laws_toGraph.f k a0_0 l0_1).bind fun bt290 => ((impl_HopTable.f k bt290.1 bt290.2 a1).bind fun t295 => ((laws_eqIntSS.f k t295 t287).bind fun t298 => (if t298 = true then ((laws_toGraph.f k a0_0 l0_1).bind fun bt299 => ((laws_eqGraph.f k bt290.1 bt290.2 bt299.1 bt299.2).bind fun t303 => (if t303 = true then ((laws_markGraph.f k bt290.1 bt290.2 1).bind fun bt304 => (if bt304.1 < 0 then (laws_FnExactHopTable.j0 k a1 t287 t295 true a0_0 l0_1) else ((laws_eqIntSS.f k t295 t287).bind fun t306 => (laws_FnExactHopTable.j0 k a1 t287 t295 (!t306) a0_0 l0_1)))) else (some false)))) else (some false))))))))) = some r := h
 clear h
 replace H := Option.bind_eq_some_iff.mp H
 obtain ⟨t282, A30, H⟩ := H
 have A3 := Aside0.mk A30
 clear A30
 by_cases c4 : t282 < 0
 ·rw [if_pos c4] at H
  have c4b0 : decide (t282 < 0) = true := decide_eq_true c4
  clear c4
  obtain rfl := Option.some.inj H
  go_enter Try.func14, Try.ntmps14
  go_wp2_with (first | ((with_reducible refine gate_dst (N := 2) rfl ?_); refine box_event ?hg (N := 2) ?hd (cs := #[.int .i64 a0_0, .slice A0_1 l0_1.length c0_1]) (t := 24) ?hr ?_; (case hd => rfl); (case hg => rfl); (case hr => first | (go_simp; done) | (go_simp; rfl)); intro gb281 hg w5 hbox hb; have BK281 := Aside0.mk hbox; have GW281 := ge_ HB hg; have GE281 := ge_ HB hg; replace HB := Aside0.mk (bt_ HB hb); clear hb hbox hg; have hcz6_0 := cz_ BK281 0 (.int .i64 a0_0); have hcz6_1 := cz_ BK281 1 (.slice A0_1 l0_1.length c0_1); have hfz6_0 := blk_frozen BK281.out 0; have hfz6_1 := blk_frozen BK281.out 1) | ((with_reducible refine gate_callee (f := 15) rfl ?_); refine gl_ (some 15) Try.func15 #[.agg #[.int .i64 a0_0, .slice A0_1 l0_1.length c0_1], .int .i64 1048576] ?_; (with_reducible refine (laws_szGraph.calls a0_0 _ _ l0_1 1048576 t282 _ ?side1 ?side2 A3.out).mono ?_); (case side1 => exact cb_ HR0_1 HB); (case side2 => exact HC0_1.out); rintro e w7 ⟨rfl, hb⟩; refine ⟨_, rfl, ?_⟩; replace BK281 := Aside0.mk (bb_ BK281 hb); replace HB := Aside0.mk (bt_ HB hb); (try clear hb); (try clear hb2); (try clear hk); (try clear hi)))
  go_ret
  exact ⟨by first | rfl | (simp [errW_none, errW_some] <;> rfl) | (simp [*, errW_none, errW_some] <;> rfl), by repeat (first | (with_reducible first | exact HB.out | apply below_alloc | apply pw_below_drewN | apply below_drew1 | refine below_set ?_ GE281.out) | exact HB.out)⟩
 ·rw [if_neg c4] at H
  have c4b0 : decide (t282 < 0) = false := decide_eq_false c4
  clear c4
  replace H := Option.bind_eq_some_iff.mp H
  obtain ⟨⟨t283, t284⟩, A80, H⟩ := H
  have A8 := Aside0.mk A80
  clear A80
  replace H := Option.bind_eq_some_iff.mp H
  obtain ⟨t287, A90, H⟩ := H
  have A9 := Aside0.mk A90
  clear A90
  replace H := Option.bind_eq_some_iff.mp H
  obtain ⟨⟨t290, t291⟩, A100, H⟩ := H
  have A10 := Aside0.mk A100
  clear A100
  replace H := Option.bind_eq_some_iff.mp H
  obtain ⟨t295, A110, H⟩ := H
  have A11 := Aside0.mk A110
  clear A110
  replace H := Option.bind_eq_some_iff.mp H
  obtain ⟨t298, A120, H⟩ := H
  have A12 := Aside0.mk A120
  clear A120
  by_cases c13 : t298 = true
  ·subst c13
   rw [if_pos rfl] at H
   replace H := Option.bind_eq_some_iff.mp H
   obtain ⟨⟨t299, t300⟩, A140, H⟩ := H
   have A14 := Aside0.mk A140
   clear A140
   replace H := Option.bind_eq_some_iff.mp H
   obtain ⟨t303, A150, H⟩ := H
   have A15 := Aside0.mk A150
   clear A150
   by_cases c16 : t303 = true
   ·subst c16
    rw [if_pos rfl] at H
    replace H := Option.bind_eq_some_iff.mp H
    obtain ⟨⟨t304, t305⟩, A170, H⟩ := H
    have A17 := Aside0.mk A170
    clear A170
    have HC18 := Aside0.mk H
    clear H
    go_enter Try.func14, Try.ntmps14
    try go_wp2_with (first | ((with_reducible refine gate_dst (N := 2) rfl ?_); refine box_event ?hg (N := 2) ?hd (cs := #[.int .i64 a0_0, .slice A0_1 l0_1.length c0_1]) (t := 24) ?hr ?_; (case hd => rfl); (case hg => rfl); (case hr => first | (go_simp; done) | (go_simp; rfl)); intro gb281 hg w19 hbox hb; have BK281 := Aside0.mk hbox; have GW281 := ge_ HB hg; have GE281 := ge_ HB hg; replace HB := Aside0.mk (bt_ HB hb); clear hb hbox hg; have hcz20_0 := cz_ BK281 0 (.int .i64 a0_0); have hcz20_1 := cz_ BK281 1 (.slice A0_1 l0_1.length c0_1); have hfz20_0 := blk_frozen BK281.out 0; have hfz20_1 := blk_frozen BK281.out 1) | ((with_reducible refine gate_callee (f := 15) rfl ?_); refine gl_ (some 15) Try.func15 #[.agg #[.int .i64 a0_0, .slice A0_1 l0_1.length c0_1], .int .i64 1048576] ?_; (with_reducible refine (laws_szGraph.calls a0_0 _ _ l0_1 1048576 t282 _ ?side1 ?side2 A3.out).mono ?_); (case side1 => exact cb_ HR0_1 HB); (case side2 => exact HC0_1.out); rintro e w21 ⟨rfl, hb⟩; refine ⟨_, rfl, ?_⟩; replace BK281 := Aside0.mk (bb_ BK281 hb); replace HB := Aside0.mk (bt_ HB hb); (try clear hb); (try clear hb2); (try clear hk); (try clear hi); have hcz22_0 := cz_ BK281 0 (.int .i64 a0_0); have hcz22_1 := cz_ BK281 1 (.slice A0_1 l0_1.length c0_1); have hfz22_0 := blk_frozen BK281.out 0; have hfz22_1 := blk_frozen BK281.out 1) | ((with_reducible refine gate_callee (f := 17) rfl ?_); refine gl_ (some 19) Try.func17 #[.agg #[.int .i64 a0_0, .slice A0_1 l0_1.length c0_1]] ?_; (with_reducible refine (laws_toGraph.calls k a0_0 _ _ l0_1 t283 t284 _ ?side1 ?side2 A8.out).mono ?_); (case side1 => exact cb_ HR0_1 HB); (case side2 => exact HC0_1.out); rintro e w23 ⟨v285, rfl, ho0, hb⟩; refine ⟨_, rfl, ?_⟩; have HO286 := Aside0.mk (Kd.R_lower ho0 (bz_ HB)); replace BK281 := Aside0.mk (bb_ BK281 hb); replace HB := Aside0.mk (bt_ HB hb); (try clear hb); (try clear hb2); (try clear hk); (try clear hi); (try clear ho0); obtain ⟨Ao24, co24, eo24⟩ := Kd.R_slice HO286.out; subst eo24) | ((with_reducible refine gate_callee (f := 49) rfl ?_); refine gl_ (some 21) Try.func49 #[.agg #[.int .i64 t283, .slice Ao24 t284.length co24], .int .i64 a1] ?_; (with_reducible refine (spec_HopTable.calls k t283 _ _ t284 a1 t287 _ ?side1 ?side2 A9.out).mono ?_); (case side1 => exact rc_ HO286); (case side2 => exact (Kd.R_reads' HO286.out).2.1); rintro e w25 ⟨v288, rfl, ho0, hb⟩; refine ⟨_, rfl, ?_⟩; have HO289 := Aside0.mk (Kd.S_lower ho0 (bz_ HB)); replace HO286 := rb_ HO286 hb; replace BK281 := Aside0.mk (bb_ BK281 hb); replace HB := Aside0.mk (bt_ HB hb); (try clear hb); (try clear hb2); (try clear hk); (try clear hi); (try clear ho0); have hcz26_0 := cz_ BK281 0 (.int .i64 a0_0); have hcz26_1 := cz_ BK281 1 (.slice A0_1 l0_1.length c0_1); have hfz26_0 := blk_frozen BK281.out 0; have hfz26_1 := blk_frozen BK281.out 1) | ((with_reducible refine gate_callee (f := 17) rfl ?_); refine gl_ (some 23) Try.func17 #[.agg #[.int .i64 a0_0, .slice A0_1 l0_1.length c0_1]] ?_; (with_reducible refine (laws_toGraph.calls k a0_0 _ _ l0_1 t290 t291 _ ?side1 ?side2 A10.out).mono ?_); (case side1 => exact cb_ HR0_1 HB); (case side2 => exact HC0_1.out); rintro e w27 ⟨v292, rfl, ho0, hb⟩; refine ⟨_, rfl, ?_⟩; have HO293 := Aside0.mk (Kd.R_lower (Kd.R_new' ho0 (Kd.R_lt (hd_ HO286))) (bz_ HB)); replace HO289 := Aside0.mk (Kd.S_below (by (with_reducible repeat (first | apply Kd.S_alloc | apply Kd.S_drewN | apply Kd.S_drew)); exact HO289.out) hb); replace HO286 := Aside0.mk (Kd.R_elder' (hd_ HO286) (Kd.R_base ho0) hb); replace BK281 := Aside0.mk (bb_ BK281 hb); replace HB := Aside0.mk (bt_ HB hb); (try clear hb); (try clear hb2); (try clear hk); (try clear hi); (try clear ho0)) | ((with_reducible refine gate_dst (N := 7) rfl ?_); refine box_event ?hg (N := 7) ?hd (cs := #[.int .i64 0, .slice none 0 0]) (t := 30) ?hr ?_; (case hd => rfl); (case hg => rfl); (case hr => first | (go_simp; done) | (go_simp; rfl)); intro gb294 hg w28 hbox hb; have BK294 := Aside0.mk hbox; have GW294 := ge_ HB hg; have GE294 := ge_ HB hg; have NB281_294 := nl_ BK281 hg; have NB294_281 := ng_ BK281 hg; replace HO286 := rb_ HO286 hb; replace HO289 := Aside0.mk (Kd.S_below (by (with_reducible repeat (first | apply Kd.S_alloc | apply Kd.S_drewN | apply Kd.S_drew)); exact HO289.out) hb); replace HO293 := rb_ HO293 hb; replace HB := Aside0.mk (bt_ HB hb); replace BK281 := Aside0.mk (bb_ BK281 hb); clear hb hbox hg; have hnb29 := NB294_281.out; have hnc29 := NB281_294.out; have hcz30_0 := cz_ BK294 0 (.int .i64 0); have hcz30_1 := cz_ BK294 1 (.slice none 0 0); have hfz30_0 := blk_frozen BK294.out 0; have hfz30_1 := blk_frozen BK294.out 1; obtain ⟨Ao31, co31, eo31⟩ := Kd.R_slice HO293.out; subst eo31) | ((with_reducible refine gate_callee (f := 50) rfl ?_); refine gl_ (some 26) Try.func50 #[.agg #[.int .i64 t290, .slice Ao31 t291.length co31], .int .i64 a1] ?_; (with_reducible refine (impl_HopTable.calls k t290 _ _ t291 a1 t295 _ ?side1 ?side2 A11.out).mono ?_); (case side1 => refine (Kd.R_reads' (e := 67) (base := w.heap.size) (ok := fun k_ => (True ∧ some k_ ≠ (.slice Ao24 t284.length co24 : Value).ownBlock)) (n := t291.length) (c := co31) ?_).2.2; exact (hs_ HO293 BK294)); (case side2 => exact (Kd.R_reads' HO293.out).2.1); rintro e w32 ⟨v296, rfl, ho0, hb⟩; refine ⟨_, rfl, ?_⟩; obtain ⟨B_, eB_, HO297⟩ := split_ ho0 (bz_ HB); replace HO286 := rs_ HO286 BK294 hb; replace HO293 := oldR_ (hs_ HO293 BK294) hb eB_; replace HO289 := oldS_ (by (with_reducible repeat (first | apply Kd.S_alloc | apply Kd.S_drewN | apply Kd.S_drew)); exact (Kd.S_mono (Kd.S_far (p := ⟨gb294, 1, none⟩) (Kd.S_far (p := ⟨gb294, 0, none⟩) (Kd.S_types HO289.out BK294.out (by decide)) (fun _ hk => hk.2) (.int .i64 t290)) (fun _ hk => hk.2) (.slice Ao31 t291.length co31)) (fun _ h_ => h_.1))) hb eB_; have hl281_ : gb281 < B_ := (by rw [eB_]; exact bg_ BK281 NB281_294); replace BK281 := bf_ BK281 NB281_294 hb; have hl294_ : gb294 < B_ := (by rw [eB_]; exact blk_lt (g := gb294) (o := .cells #[.int .i64 t290, .slice Ao31 t291.length co31] 30 (0, 0)) (by (with_reducible repeat (first | refine blk_drewN ?_ _ | refine blk_drew ?_ | refine blk_alloc ?_ _)); refine blk_put (cs := #[.int .i64 t290, .slice none 0 0]) ?_ 1 _ rfl; (with_reducible repeat (first | refine blk_drewN ?_ _ | refine blk_drew ?_ | refine blk_alloc ?_ _)); refine blk_put (cs := #[.int .i64 0, .slice none 0 0]) ?_ 0 _ rfl; (with_reducible repeat (first | refine blk_drewN ?_ _ | refine blk_drew ?_ | refine blk_alloc ?_ _)); exact BK294.out)); replace BK294 := Aside0.mk (blk_below (g := gb294) (o := .cells #[.int .i64 t290, .slice Ao31 t291.length co31] 30 (0, 0)) (by (with_reducible repeat (first | refine blk_drewN ?_ _ | refine blk_drew ?_ | refine blk_alloc ?_ _)); refine blk_put (cs := #[.int .i64 t290, .slice none 0 0]) ?_ 1 _ rfl; (with_reducible repeat (first | refine blk_drewN ?_ _ | refine blk_drew ?_ | refine blk_alloc ?_ _)); refine blk_put (cs := #[.int .i64 0, .slice none 0 0]) ?_ 0 _ rfl; (with_reducible repeat (first | refine blk_drewN ?_ _ | refine blk_drew ?_ | refine blk_alloc ?_ _)); exact BK294.out) hb); replace HB := Aside0.mk (bt_ HB hb); (try clear hb); (try clear hb2); (try clear hk); (try clear hi); (try clear ho0); obtain ⟨Ao33, co33, eo33⟩ := Kd.S_slice HO297.out; subst eo33; obtain ⟨Ao34, co34, eo34⟩ := Kd.S_slice HO289.out; subst eo34) | ((with_reducible refine gate_callee (f := 36) rfl ?_); refine gl_ (some 29) Try.func36 #[.slice Ao33 t295.length co33, .slice Ao34 t287.length co34] ?_; (with_reducible refine (laws_eqIntSS.calls k _ _ t295 _ _ t287 true _ ?side1 ?side2 ?side3 ?side4 A12.out).mono ?_); (case side1 => repeat (first | exact (Kd.S_reads' HO297.out).2.2 | (with_reducible refine Kd.C_alloc ?_ _) | (with_reducible refine Kd.C_drewN ?_ _) | (with_reducible refine Kd.C_drew ?_))); (case side2 => exact (Kd.S_reads' HO297.out).2.1); (case side3 => repeat (first | exact (Kd.S_reads' HO289.out).2.2 | (with_reducible refine Kd.C_alloc ?_ _) | (with_reducible refine Kd.C_drewN ?_ _) | (with_reducible refine Kd.C_drew ?_))); (case side4 => exact (Kd.S_reads' HO289.out).2.1); rintro e w' ⟨rfl, ⟨nd, rfl⟩⟩; refine ⟨_, rfl, ?_⟩))
    (try (rw [drewN_self w32]; generalize hq_ : World.drewN w32 _ = w32; replace HO286 : Aside0 (Kd.R k67 67 w32 w.heap.size (fun k_ => some k_ ≠ (.slice Ao31 t291.length co31 : Value).ownBlock) (.slice Ao24 t284.length co24) t284) := ⟨by rw [← hq_]; exact (by (with_reducible repeat (first | apply Kd.R_alloc | apply Kd.R_drewN | apply Kd.R_drew)); exact Kd.R_mono HO286.out (fun _ hk => hk.2))⟩; replace HO289 : Aside0 (Kd.S (Kd.slice 3 (Kd.int .i64)) 25 w32 w.heap.size (fun k_ => k_ < B_) (.slice Ao34 t287.length co34) t287) := ⟨by rw [← hq_]; exact (by (with_reducible repeat (first | apply Kd.S_alloc | apply Kd.S_drewN | apply Kd.S_drew)); exact Kd.S_mono HO289.out (fun _ hk => hk))⟩; replace HO293 : Aside0 (Kd.R k67 67 w32 w.heap.size (fun k_ => k_ < B_) (.slice Ao31 t291.length co31) t291) := ⟨by rw [← hq_]; exact (by (with_reducible repeat (first | apply Kd.R_alloc | apply Kd.R_drewN | apply Kd.R_drew)); exact Kd.R_mono HO293.out (fun _ hk => hk))⟩; replace HO297 : Aside0 (Kd.S (Kd.slice 3 (Kd.int .i64)) 25 w32 w.heap.size (fun k_ => B_ ≤ k_) (.slice Ao33 t295.length co33) t295) := ⟨by rw [← hq_]; exact (by (with_reducible repeat (first | apply Kd.S_alloc | apply Kd.S_drewN | apply Kd.S_drew)); exact Kd.S_mono HO297.out (fun _ hk => hk))⟩; replace BK281 : Aside0 (w32.heap[gb281]? = some (.cells #[.int .i64 a0_0, .slice A0_1 l0_1.length c0_1] 24 (0, 0))) := ⟨by rw [← hq_]; exact (by (with_reducible repeat (first | refine blk_drewN ?_ _ | refine blk_drew ?_ | refine blk_alloc ?_ _)); exact BK281.out)⟩; replace BK294 : Aside0 (w32.heap[gb294]? = some (.cells #[.int .i64 t290, .slice Ao31 t291.length co31] 30 (0, 0))) := ⟨by rw [← hq_]; exact (by (with_reducible repeat (first | refine blk_drewN ?_ _ | refine blk_drew ?_ | refine blk_alloc ?_ _)); exact BK294.out)⟩; replace HB : Aside0 (Below w.heap.size w w32) := ⟨by rw [← hq_]; exact (by repeat (first | (with_reducible first | exact HB.out | apply below_alloc | apply pw_below_drewN | apply below_drew1 | refine below_set ?_ GE281.out | refine below_set ?_ GE294.out) | exact HB.out))⟩; clear hq_))
    replace HO286 := Aside0.mk (Kd.R_drew HO286.out)
    replace HO289 := Aside0.mk (Kd.S_drew HO289.out)
    replace HO293 := Aside0.mk (Kd.R_drew HO293.out)
    replace HO297 := Aside0.mk (Kd.S_drew HO297.out)
    replace BK281 := Aside0.mk (blk_drew BK281.out)
    replace BK294 := Aside0.mk (blk_drew BK294.out)
    replace HB := Aside0.mk (below_drew1 HB.out)
    refine start_ (n := 5) (S := fun w' => w'.cell? ⟨gb294, 0, none⟩ = some (.int .i64 t290) ∧ w'.cell? ⟨gb294, 1, none⟩ = some (.slice Ao31 t291.length co31) ∧ w'.cell? ⟨gb281, 0, none⟩ = some (.int .i64 a0_0) ∧ w'.cell? ⟨gb281, 1, none⟩ = some (.slice A0_1 l0_1.length c0_1)) (ds := []) ba10_0 (by kernel_rfl) rfl rfl ⟨(blk_cell BK294.out 0).trans rfl, (blk_cell BK294.out 1).trans rfl, (blk_cell BK281.out 0).trans rfl, (blk_cell BK281.out 1).trans rfl⟩ (fun hHeld => ?_)
    generalize w32.drew = w35 at HO286 HO289 HO293 HO297 BK281 BK294 HB hHeld ⊢
    refine take_ (i := 0) (N := some 31) (v := ?_) (a' := ?_) ba10_1 rfl rfl (by kernel_rfl) (fun _ _ _ h => h) (Or.inl ⟨by rfl, ?_⟩) hHeld ?_ ?_
    rotate_left; · rintro w' ⟨s0, s1, s2, s3⟩; go_simp; with_reducible rfl
    rotate_left; · simp only [Act.put, List.setIfInBounds_toArray, List.set_cons_zero, List.set_cons_succ, i64_w, i32_w]; rfl
    refine take_ (i := 1) (N := some 32) (v := ?_) (a' := ?_) ba10_2 rfl rfl (by kernel_rfl) (fun _ _ _ h => h) (Or.inl ⟨by rfl, ?_⟩) hHeld ?_ ?_
    rotate_left; · rintro w' ⟨s0, s1, s2, s3⟩; go_simp; with_reducible rfl
    rotate_left; · simp only [Act.put, List.setIfInBounds_toArray, List.set_cons_zero, List.set_cons_succ, i64_w, i32_w]; rfl
    refine one_ (i := 2) (N := some 33) ba10_3 rfl rfl (by kernel_rfl) (by decide) (fun K hK => ?_)
    refine gz_ Try.func17 #[.agg #[.int .i64 a0_0, .slice A0_1 l0_1.length c0_1]] ?_
    with_reducible refine (laws_toGraph.calls k a0_0 _ _ l0_1 t299 t300 _ ?side1 ?side2 A14.out).mono ?_
    (case side1 => exact cb_ HR0_1 HB)
    (case side2 => exact HC0_1.out)
    rintro e w36 ⟨v301, rfl, ho0, hb⟩
    refine ⟨_, rfl, ?_⟩
    have HO302 := Aside0.mk (Kd.R_lower (Kd.R_new' (Kd.R_new' ho0 (Kd.R_lt (hd_ HO286))) (Kd.R_lt (hd_ HO293))) (bz_ HB))
    replace HO289 := Aside0.mk (Kd.S_below (by (with_reducible repeat (first | apply Kd.S_alloc | apply Kd.S_drewN | apply Kd.S_drew)); exact HO289.out) hb)
    replace HO297 := Aside0.mk (Kd.S_below (by (with_reducible repeat (first | apply Kd.S_alloc | apply Kd.S_drewN | apply Kd.S_drew)); exact HO297.out) hb)
    replace HO286 := Aside0.mk (Kd.R_elder' (hd_ HO286) (Kd.R_base ho0) hb)
    replace HO293 := Aside0.mk (Kd.R_elder' (hd_ HO293) (Kd.R_base ho0) hb)
    replace BK281 := Aside0.mk (bb_ BK281 hb)
    replace BK294 := Aside0.mk (bb_ BK294 hb)
    replace HB := Aside0.mk (bt_ HB hb)
    (try clear hb)
    (try clear hb2)
    (try clear hk)
    (try clear hi)
    (try clear ho0)
    obtain ⟨Ao37, co37, eo37⟩ := Kd.R_slice HO302.out
    (first | subst eo37 | (injection eo37 with f1_ f2_ f3_; have f4_ := f1_.symm; have f5_ := f3_.symm; clear f1_ f2_ f3_; subst f4_; subst f5_))
    refine hK.out _ _ ⟨(blk_cell BK294.out 0).trans rfl, (blk_cell BK294.out 1).trans rfl, (blk_cell BK281.out 0).trans rfl, (blk_cell BK281.out 1).trans rfl⟩ (fun hHeld => ?_)
    clear hK K
    refine nz_ 33 ?_
    refine one_ (i := 3) (N := some 34) ba10_4 rfl rfl (by kernel_rfl) (by decide) (fun K hK => ?_)
    refine gz_ Try.func20 #[.agg #[.int .i64 t290, .slice Ao31 t291.length co31], .agg #[.int .i64 t299, .slice Ao37 t300.length co37]] ?_
    with_reducible refine (laws_eqGraph.calls k t290 _ _ t291 t299 _ _ t300 true _ ?side1 ?side2 ?side3 ?side4 A15.out).mono ?_
    (case side1 => exact rc_ HO293)
    (case side2 => exact (Kd.R_reads' HO293.out).2.1)
    (case side3 => exact rc_ HO302)
    (case side4 => exact (Kd.R_reads' HO302.out).2.1)
    rintro e w38 ⟨rfl, hb⟩
    refine ⟨_, rfl, ?_⟩
    replace HO286 := rb_ HO286 hb
    replace HO289 := Aside0.mk (Kd.S_below (by (with_reducible repeat (first | apply Kd.S_alloc | apply Kd.S_drewN | apply Kd.S_drew)); exact HO289.out) hb)
    replace HO293 := rb_ HO293 hb
    replace HO297 := Aside0.mk (Kd.S_below (by (with_reducible repeat (first | apply Kd.S_alloc | apply Kd.S_drewN | apply Kd.S_drew)); exact HO297.out) hb)
    replace HO302 := rb_ HO302 hb
    replace BK281 := Aside0.mk (bb_ BK281 hb)
    replace BK294 := Aside0.mk (bb_ BK294 hb)
    replace HB := Aside0.mk (bt_ HB hb)
    (try clear hb)
    (try clear hb2)
    (try clear hk)
    (try clear hi)
    refine hK.out _ _ ⟨(blk_cell BK294.out 0).trans rfl, (blk_cell BK294.out 1).trans rfl, (blk_cell BK281.out 0).trans rfl, (blk_cell BK281.out 1).trans rfl⟩ (fun hHeld => ?_)
    clear hK K
    refine nz_ 34 ?_
    refine pure_ (i := 4) (N := some 35) (v := ?_) (a' := ?_) ba10_5 rfl rfl (by kernel_rfl) (fun _ _ _ h => h) (Or.inl ⟨by rfl, ?_⟩) ?_ ?_
    rotate_left; · intro w'; go_simp; with_reducible rfl
    rotate_left; · simp only [Act.put, List.setIfInBounds_toArray, List.set_cons_zero, List.set_cons_succ, i64_w, i32_w]; rfl
    refine done_ (by kernel_rfl) ?_
    have hcz39_0 := cz_ BK294 0 (.int .i64 t290)
    have hcz39_1 := cz_ BK294 1 (.slice Ao31 t291.length co31)
    have hfz39_0 := blk_frozen BK294.out 0
    have hfz39_1 := blk_frozen BK294.out 1
    go_upto_region 14 with (first | ((with_reducible refine gate_callee (f := 26) rfl ?_); refine gl_ (some 38) Try.func26 #[.agg #[.int .i64 t290, .slice Ao31 t291.length co31], .int .i64 1] ?_; (with_reducible refine (laws_markGraph.calls k t290 (fun k_ => some k_ = (.slice Ao31 t291.length co31 : Value).ownBlock) (.slice Ao31 t291.length co31) t291 1 t304 t305 w _ ?side1 ?side2 A17.out).mono ?_); (case side1 => exact by_ HB); (case side2 => exact Kd.R_tight rfl HO293.out); rintro e w40 ⟨rfl, hy0, hb, hkp⟩; refine ⟨_, rfl, ?_⟩; replace BK281 := bk_ BK281 hkp (fun hs_ => (Kd.R_ne HO293.out BK281.out (by decide)) hs_); replace HO286 := kp_ (fun k_ => some k_ ≠ (.slice Ao31 t291.length co31 : Value).ownBlock ∧ some k_ ≠ (.slice Ao37 t300.length co37 : Value).ownBlock) (HO286.out) hkp; replace HO289 := ksp_ (fun k_ => k_ < B_) ((Kd.S_apart' HO289.out (Kd.R_typed HO293.out) (by decide))) hkp; replace BK294 := bk_ BK294 hkp (fun hs_ => (Kd.R_ne HO293.out BK294.out (by decide)) hs_); replace HO297 := ksp_ (fun k_ => B_ ≤ k_) ((Kd.S_apart' HO297.out (Kd.R_typed HO293.out) (by decide))) hkp; replace HO293 := Aside0.mk (Kd.R_reok rfl hy0 (fun k_ e_ => HO293.out.1 k_ e_)); replace HO302 := kp_ (fun k_ => some k_ ≠ (.slice Ao24 t284.length co24 : Value).ownBlock ∧ some k_ ≠ (.slice Ao31 t291.length co31 : Value).ownBlock) (HO302.out) hkp; replace HB := Aside0.mk (hb); (try clear hb); (try clear hkp); (try clear hy0)))
    (try simp only [Act.put, List.setIfInBounds_toArray, List.set_cons_zero, List.set_cons_succ])
    go_cut [46] (fun v46 wc => ∃ (kq : Nat) (x46_17 : Bool), v46 = .bool x46_17 ∧ Aside0 (laws_FnExactHopTable.j0 kq a1 t287 t295 x46_17 a0_0 l0_1 = some r) ∧ Aside0 (kq ≤ k) ∧ Aside0 (Kd.S (Kd.slice 3 (Kd.int .i64)) 25 wc w.heap.size (fun k_ => k_ < B_) (.slice Ao34 t287.length co34) t287) ∧ Aside0 (Kd.S (Kd.slice 3 (Kd.int .i64)) 25 wc w.heap.size (fun k_ => B_ ≤ k_) (.slice Ao33 t295.length co33) t295) ∧ Aside0 (Kd.R k67 67 wc w.heap.size (fun k_ => k_ < B_) (.slice Ao31 t291.length co31) t305) ∧ Aside0 (wc.heap[gb281]? = some (.cells #[.int .i64 a0_0, (.slice A0_1 l0_1.length c0_1)] 24 (0, 0))) ∧ Aside0 (wc.heap[gb294]? = some (.cells #[.int .i64 t290, (.slice Ao31 t291.length co31)] 30 (0, 0))) ∧ Aside0 (Below w.heap.size w wc))
    case first =>
     have H := HC18.out
     clear HC18
     by_cases c41 : t304 < 0
     ·rw [if_pos c41] at H
      have c41b0 : decide (t304 < 0) = true := decide_eq_true c41
      clear c41
      (first | rw [c41b0] | (simp only [i64_w, i32_w]; rw [c41b0]) | skip)
      have H' := Aside0.mk H
      clear H
      go_wp2
      go_meet
      case rel => exact ⟨_, (true), (by first | rfl | (simp; done) | (simp [*]; done)), H', ⟨by first | omega | exact Nat.le_refl _⟩, ⟨by (with_reducible repeat (first | apply Kd.S_alloc | apply Kd.S_drewN | apply Kd.S_drew)); exact HO289.out⟩, ⟨by (with_reducible repeat (first | apply Kd.S_alloc | apply Kd.S_drewN | apply Kd.S_drew)); exact HO297.out⟩, ⟨by (with_reducible repeat (first | apply Kd.R_alloc | apply Kd.R_drewN | apply Kd.R_drew)); exact Kd.R_mono HO293.out (fun _ hk => by first | exact hk | grind | trivial)⟩, ⟨by (with_reducible repeat (first | refine blk_drewN ?_ _ | refine blk_drew ?_ | refine blk_alloc ?_ _)); exact BK281.out⟩, ⟨by (with_reducible repeat (first | refine blk_drewN ?_ _ | refine blk_drew ?_ | refine blk_alloc ?_ _)); exact BK294.out⟩, ⟨by repeat (first | (with_reducible first | exact HB.out | apply below_alloc | apply pw_below_drewN | apply below_drew1 | refine below_set ?_ GE281.out | refine below_set ?_ GE294.out) | exact HB.out)⟩⟩
     ·rw [if_neg c41] at H
      have c41b0 : decide (t304 < 0) = false := decide_eq_false c41
      clear c41
      (first | rw [c41b0] | (simp only [i64_w, i32_w]; rw [c41b0]) | skip)
      replace H := Option.bind_eq_some_iff.mp H
      obtain ⟨t306, A420, H⟩ := H
      have A42 := Aside0.mk A420
      clear A420
      have H' := Aside0.mk H
      clear H
      go_wp2_with (first | (go_at_call 36; (with_reducible refine (laws_eqIntSS.calls k _ _ t295 _ _ t287 t306 _ ?side1 ?side2 ?side3 ?side4 A42.out).mono ?_); (case side1 => repeat (first | exact (Kd.S_reads' HO297.out).2.2 | (with_reducible refine Kd.C_alloc ?_ _) | (with_reducible refine Kd.C_drewN ?_ _) | (with_reducible refine Kd.C_drew ?_))); (case side2 => exact (Kd.S_reads' HO297.out).2.1); (case side3 => repeat (first | exact (Kd.S_reads' HO289.out).2.2 | (with_reducible refine Kd.C_alloc ?_ _) | (with_reducible refine Kd.C_drewN ?_ _) | (with_reducible refine Kd.C_drew ?_))); (case side4 => exact (Kd.S_reads' HO289.out).2.1); rintro e w' ⟨rfl, ⟨nd, rfl⟩⟩))
      go_meet
      case rel => exact ⟨_, (!t306), (by first | rfl | (simp; done) | (simp [*]; done)), H', ⟨by first | omega | exact Nat.le_refl _⟩, ⟨by (with_reducible repeat (first | apply Kd.S_alloc | apply Kd.S_drewN | apply Kd.S_drew)); exact HO289.out⟩, ⟨by (with_reducible repeat (first | apply Kd.S_alloc | apply Kd.S_drewN | apply Kd.S_drew)); exact HO297.out⟩, ⟨by (with_reducible repeat (first | apply Kd.R_alloc | apply Kd.R_drewN | apply Kd.R_drew)); exact Kd.R_mono HO293.out (fun _ hk => by first | exact hk | grind | trivial)⟩, ⟨by (with_reducible repeat (first | refine blk_drewN ?_ _ | refine blk_drew ?_ | refine blk_alloc ?_ _)); exact BK281.out⟩, ⟨by (with_reducible repeat (first | refine blk_drewN ?_ _ | refine blk_drew ?_ | refine blk_alloc ?_ _)); exact BK294.out⟩, ⟨by repeat (first | (with_reducible first | exact HB.out | apply below_alloc | apply pw_below_drewN | apply below_drew1 | refine below_set ?_ GE281.out | refine below_set ?_ GE294.out) | exact HB.out)⟩⟩
    case rest =>
     clear HC18
     try clear c1
     try clear c2
     try clear p2
     try clear c3
     try clear c4
     try clear c4b0
     try clear c5
     try clear c13
     try clear c14
     try clear c15
     try clear c16
     try clear c17
     try clear c20
     try clear c26
     try clear c29
     try clear c36
     try clear c41
     try clear c41b0
     try clear hcz20_0
     try clear hcz20_1
     try clear hcz22_0
     try clear hcz22_1
     try clear hcz26_0
     try clear hcz26_1
     try clear hcz30_0
     try clear hcz30_1
     try clear hcz39_0
     try clear hcz39_1
     try clear hcz6_0
     try clear hcz6_1
     try clear hfz20_0
     try clear hfz20_1
     try clear hfz22_0
     try clear hfz22_1
     try clear hfz26_0
     try clear hfz26_1
     try clear hfz30_0
     try clear hfz30_1
     try clear hfz39_0
     try clear hfz39_1
     try clear hfz6_0
     try clear hfz6_1
     obtain ⟨kq, x46_17, rfl, HA, HJ17, HO_6, HO_8, HO_295001, BK281, BK294, HB⟩ := hcut
     have hl295001_17 := (Kd.R_reads' HO_295001.out).1
     rw [hl295001_17] at HO_295001
     (try simp only [hl295001_17])
     (try simp only [hl295001_17] at BK281)
     (try simp only [hl295001_17] at BK294)
     (try simp only [hl295001_17] at HO_6)
     (try simp only [hl295001_17] at HO_8)
     cases kq with
     | zero => exact absurd HA.out (by simp [laws_FnExactHopTable.j0])
     | succ kj17 =>
      have H := HA.out
      clear HA
      simp only [laws_FnExactHopTable.j0] at H
      by_cases c43 : x46_17 = true
      ·subst c43
       rw [if_pos rfl] at H
       obtain rfl := Option.some.inj H
       go_wp2
       go_ret
       exact ⟨by first | rfl | (simp [errW_none, errW_some] <;> rfl) | (simp [*, errW_none, errW_some] <;> rfl), by repeat (first | (with_reducible first | exact HB.out | apply below_alloc | apply pw_below_drewN | apply below_drew1 | refine below_set ?_ GE281.out | refine below_set ?_ GE294.out) | exact HB.out)⟩
      ·replace c43 := Bool.eq_false_iff.mpr c43
       subst c43
       rw [if_neg (show ¬ (false = true) by decide)] at H
       replace H := Option.bind_eq_some_iff.mp H
       obtain ⟨⟨t307, t308⟩, A440, H⟩ := H
       have A44 := Aside0.mk A440
       clear A440
       replace H := Option.bind_eq_some_iff.mp H
       obtain ⟨t309, A450, H⟩ := H
       have A45 := Aside0.mk A450
       clear A450
       by_cases c46 : t309 < 0
       ·rw [if_pos c46] at H
        have c46b0 : decide (t309 < 0) = true := decide_eq_true c46
        clear c46
        obtain rfl := Option.some.inj H
        go_wp2_with (first | ((with_reducible refine gate_callee (f := 37) rfl ?_); refine gl_ (some 49) Try.func37 #[.slice Ao33 t295.length co33, .int .i64 1] ?_; (with_reducible refine (laws_markIntSS.calls kj17 (fun k_ => B_ ≤ k_) (.slice Ao33 t295.length co33) t295 1 t307 t308 w _ ?side1 ?side2 A44.out).mono ?_); (case side1 => exact by_ HB); (case side2 => exact HO_8.out); rintro e w47 ⟨rfl, hy0, hb, hkp⟩; refine ⟨_, rfl, ?_⟩; replace HO_6 := ksp_ (fun k_ => k_ < B_) (HO_6.out) hkp; replace HO_295001 := kp_ (fun k_ => True) ((Kd.R_apart' HO_295001.out (Kd.S_typed HO_8.out) (by decide))) hkp; replace BK281 := bk_ BK281 hkp (fun hs_ => Nat.not_le.2 hl281_ hs_); replace BK294 := bk_ BK294 hkp (fun hs_ => Nat.not_le.2 hl294_ hs_); replace HO_8 := Aside0.mk hy0; replace HB := Aside0.mk (hb); (try clear hb); (try clear hkp); (try clear hy0)) | ((with_reducible refine gate_callee (f := 38) rfl ?_); refine goesL_ (some 52) rfl rfl Try.func38 (by kernel_rfl) rfl #[.slice Ao33 t308.length co33, .int .i64 1] rfl (by (try simp only [List.map_toArray, List.map_cons, List.map_nil]); first | done | (rw [show t308.length = t295.length from (Kd.S_reads' HO_8.out).1.symm] <;> rfl) | rfl | (simp only [List.length_drop, List.length_take]; rfl)) ?_; (with_reducible refine (laws_heldIntSS.calls kj17 _ _ t308 1 t309 _ ?side1 ?side2 A45.out).mono ?_); (case side1 => repeat (first | exact (Kd.S_reads' HO_8.out).2.2 | (with_reducible refine Kd.C_alloc ?_ _) | (with_reducible refine Kd.C_drewN ?_ _) | (with_reducible refine Kd.C_drew ?_))); (case side2 => rw [show t308.length = t295.length from (Kd.S_reads' HO_8.out).1.symm]; exact (Kd.S_reads' HO_8.out).2.1); rintro e w' ⟨rfl, ⟨nd, rfl⟩⟩; refine ⟨_, rfl, ?_⟩))
        go_ret
        exact ⟨by first | rfl | (simp [errW_none, errW_some] <;> rfl) | (simp [*, errW_none, errW_some] <;> rfl), by repeat (first | (with_reducible first | exact HB.out | apply below_alloc | apply pw_below_drewN | apply below_drew1 | refine below_set ?_ GE281.out | refine below_set ?_ GE294.out) | exact HB.out)⟩
       ·rw [if_neg c46] at H
        have c46b0 : decide (t309 < 0) = false := decide_eq_false c46
        clear c46
        by_cases c48 : t309 = t307
        ·rw [if_pos c48] at H
         have c48b0 : (t309 == t307) = true := beq_iff_eq.mpr c48
         have c48b1 : (t309 != t307) = false := bne_eq_false_iff_eq.mpr c48
         clear c48
         replace H := Option.bind_eq_some_iff.mp H
         obtain ⟨⟨t310, t311⟩, A490, H⟩ := H
         have A49 := Aside0.mk A490
         clear A490
         replace H := Option.bind_eq_some_iff.mp H
         obtain ⟨t314, A500, H⟩ := H
         have A50 := Aside0.mk A500
         clear A500
         replace H := Option.bind_eq_some_iff.mp H
         obtain ⟨t317, A510, H⟩ := H
         have A51 := Aside0.mk A510
         clear A510
         by_cases c52 : t317 = true
         ·subst c52
          rw [if_pos rfl] at H
          replace H := Option.bind_eq_some_iff.mp H
          obtain ⟨t318, A530, H⟩ := H
          have A53 := Aside0.mk A530
          clear A530
          by_cases c54 : t318 < 0
          ·rw [if_pos c54] at H
           have c54b0 : decide (t318 < 0) = true := decide_eq_true c54
           clear c54
           obtain rfl := Option.some.inj H
           go_wp2_with (first | ((with_reducible refine gate_callee (f := 37) rfl ?_); refine gl_ (some 49) Try.func37 #[.slice Ao33 t295.length co33, .int .i64 1] ?_; (with_reducible refine (laws_markIntSS.calls kj17 (fun k_ => B_ ≤ k_) (.slice Ao33 t295.length co33) t295 1 t307 t308 w _ ?side1 ?side2 A44.out).mono ?_); (case side1 => exact by_ HB); (case side2 => exact HO_8.out); rintro e w55 ⟨rfl, hy0, hb, hkp⟩; refine ⟨_, rfl, ?_⟩; replace HO_6 := ksp_ (fun k_ => k_ < B_) (HO_6.out) hkp; replace HO_295001 := kp_ (fun k_ => True) ((Kd.R_apart' HO_295001.out (Kd.S_typed HO_8.out) (by decide))) hkp; replace BK281 := bk_ BK281 hkp (fun hs_ => Nat.not_le.2 hl281_ hs_); replace BK294 := bk_ BK294 hkp (fun hs_ => Nat.not_le.2 hl294_ hs_); replace HO_8 := Aside0.mk hy0; replace HB := Aside0.mk (hb); (try clear hb); (try clear hkp); (try clear hy0)) | ((with_reducible refine gate_callee (f := 38) rfl ?_); refine goesL_ (some 52) rfl rfl Try.func38 (by kernel_rfl) rfl #[.slice Ao33 t308.length co33, .int .i64 1] rfl (by (try simp only [List.map_toArray, List.map_cons, List.map_nil]); first | done | (rw [show t308.length = t295.length from (Kd.S_reads' HO_8.out).1.symm] <;> rfl) | rfl | (simp only [List.length_drop, List.length_take]; rfl)) ?_; (with_reducible refine (laws_heldIntSS.calls kj17 _ _ t308 1 t309 _ ?side1 ?side2 A45.out).mono ?_); (case side1 => repeat (first | exact (Kd.S_reads' HO_8.out).2.2 | (with_reducible refine Kd.C_alloc ?_ _) | (with_reducible refine Kd.C_drewN ?_ _) | (with_reducible refine Kd.C_drew ?_))); (case side2 => rw [show t308.length = t295.length from (Kd.S_reads' HO_8.out).1.symm]; exact (Kd.S_reads' HO_8.out).2.1); rintro e w' ⟨rfl, ⟨nd, rfl⟩⟩; refine ⟨_, rfl, ?_⟩; have hnb56 := NB281_294.out; have hnc56 := NB294_281.out; have hcz57_0 := cz_ BK281 0 (.int .i64 a0_0); have hcz57_1 := cz_ BK281 1 (.slice A0_1 l0_1.length c0_1); have hfz57_0 := blk_frozen BK281.out 0; have hfz57_1 := blk_frozen BK281.out 1) | ((with_reducible refine gate_callee (f := 17) rfl ?_); refine gl_ (some 59) Try.func17 #[.agg #[.int .i64 a0_0, .slice A0_1 l0_1.length c0_1]] ?_; (with_reducible refine (laws_toGraph.calls kj17 a0_0 _ _ l0_1 t310 t311 _ ?side1 ?side2 A49.out).mono ?_); (case side1 => exact cc_ HR0_1 HB); (case side2 => exact HC0_1.out); rintro e w58 ⟨v312, rfl, ho0, hb⟩; refine ⟨_, rfl, ?_⟩; have HO313 := Aside0.mk (Kd.R_lower (Kd.R_new' ho0 (Kd.R_lt (hd_ HO_295001))) (bz_ HB)); replace HO_6 := Aside0.mk (Kd.S_below (by (with_reducible repeat (first | apply Kd.S_alloc | apply Kd.S_drewN | apply Kd.S_drew)); exact HO_6.out) hb); replace HO_8 := Aside0.mk (Kd.S_below (by (with_reducible repeat (first | apply Kd.S_alloc | apply Kd.S_drewN | apply Kd.S_drew)); exact HO_8.out) hb); replace HO_295001 := Aside0.mk (Kd.R_elder' (hd_ HO_295001) (Kd.R_base ho0) hb); replace BK281 := Aside0.mk (bb_ BK281 hb); replace BK294 := Aside0.mk (bb_ BK294 hb); replace HB := Aside0.mk (bt_ HB hb); (try clear hb); (try clear hb2); (try clear hk); (try clear hi); (try clear ho0); obtain ⟨Ao59, co59, eo59⟩ := Kd.R_slice HO313.out; subst eo59) | ((with_reducible refine gate_callee (f := 50) rfl ?_); refine gl_ (some 61) Try.func50 #[.agg #[.int .i64 t310, .slice Ao59 t311.length co59], .int .i64 a1] ?_; (with_reducible refine (impl_HopTable.calls kj17 t310 _ _ t311 a1 t314 _ ?side1 ?side2 A50.out).mono ?_); (case side1 => exact rc_ HO313); (case side2 => exact (Kd.R_reads' HO313.out).2.1); rintro e w60 ⟨v315, rfl, ho0, hb⟩; refine ⟨_, rfl, ?_⟩; have HO316 := Aside0.mk (Kd.S_lower (Kd.S_new' (Kd.S_new' ho0 (Kd.S_lt (by (with_reducible repeat (first | apply Kd.S_alloc | apply Kd.S_drewN | apply Kd.S_drew)); exact HO_6.out))) (Kd.S_lt (by (with_reducible repeat (first | apply Kd.S_alloc | apply Kd.S_drewN | apply Kd.S_drew)); exact HO_8.out))) (bz_ HB)); replace HO_295001 := rb_ HO_295001 hb; replace HO313 := rb_ HO313 hb; replace HO_6 := Aside0.mk (Kd.S_elder' (by (with_reducible repeat (first | apply Kd.S_alloc | apply Kd.S_drewN | apply Kd.S_drew)); exact HO_6.out) (Kd.S_base ho0) hb); replace HO_8 := Aside0.mk (Kd.S_elder' (by (with_reducible repeat (first | apply Kd.S_alloc | apply Kd.S_drewN | apply Kd.S_drew)); exact HO_8.out) (Kd.S_base ho0) hb); replace BK281 := Aside0.mk (bb_ BK281 hb); replace BK294 := Aside0.mk (bb_ BK294 hb); replace HB := Aside0.mk (bt_ HB hb); (try clear hb); (try clear hb2); (try clear hk); (try clear hi); (try clear ho0); obtain ⟨Ao61, co61, eo61⟩ := Kd.S_slice HO316.out; subst eo61) | ((with_reducible refine gate_callee (f := 36) rfl ?_); refine gl_ (some 64) Try.func36 #[.slice Ao61 t314.length co61, .slice Ao34 t287.length co34] ?_; (with_reducible refine (laws_eqIntSS.calls kj17 _ _ t314 _ _ t287 true _ ?side1 ?side2 ?side3 ?side4 A51.out).mono ?_); (case side1 => repeat (first | exact (Kd.S_reads' HO316.out).2.2 | (with_reducible refine Kd.C_alloc ?_ _) | (with_reducible refine Kd.C_drewN ?_ _) | (with_reducible refine Kd.C_drew ?_))); (case side2 => exact (Kd.S_reads' HO316.out).2.1); (case side3 => repeat (first | exact (Kd.S_reads' HO_6.out).2.2 | (with_reducible refine Kd.C_alloc ?_ _) | (with_reducible refine Kd.C_drewN ?_ _) | (with_reducible refine Kd.C_drew ?_))); (case side4 => exact (Kd.S_reads' HO_6.out).2.1); rintro e w' ⟨rfl, ⟨nd, rfl⟩⟩; refine ⟨_, rfl, ?_⟩) | ((with_reducible refine gate_callee (f := 38) rfl ?_); refine goesL_ (some 68) rfl rfl Try.func38 (by kernel_rfl) rfl #[.slice Ao33 t308.length co33, .int .i64 1] rfl (by (try simp only [List.map_toArray, List.map_cons, List.map_nil]); first | done | (rw [show t308.length = t295.length from (Kd.S_reads' HO_8.out).1.symm] <;> rfl) | rfl | (simp only [List.length_drop, List.length_take]; rfl)) ?_; (with_reducible refine (laws_heldIntSS.calls kj17 _ _ t308 1 t318 _ ?side1 ?side2 A53.out).mono ?_); (case side1 => repeat (first | exact (Kd.S_reads' HO_8.out).2.2 | (with_reducible refine Kd.C_alloc ?_ _) | (with_reducible refine Kd.C_drewN ?_ _) | (with_reducible refine Kd.C_drew ?_))); (case side2 => rw [show t308.length = t295.length from (Kd.S_reads' HO_8.out).1.symm]; exact (Kd.S_reads' HO_8.out).2.1); rintro e w' ⟨rfl, ⟨nd, rfl⟩⟩; refine ⟨_, rfl, ?_⟩))
           go_ret
           exact ⟨by first | rfl | (simp [errW_none, errW_some] <;> rfl) | (simp [*, errW_none, errW_some] <;> rfl), by repeat (first | (with_reducible first | exact HB.out | apply below_alloc | apply pw_below_drewN | apply below_drew1 | refine below_set ?_ GE281.out | refine below_set ?_ GE294.out) | exact HB.out)⟩
          ·rw [if_neg c54] at H
           have c54b0 : decide (t318 < 0) = false := decide_eq_false c54
           clear c54
           by_cases c62 : t318 = t307
           ·rw [if_pos c62] at H
            have c62b0 : (t318 == t307) = true := beq_iff_eq.mpr c62
            have c62b1 : (t318 != t307) = false := bne_eq_false_iff_eq.mpr c62
            clear c62
            obtain rfl := Option.some.inj H
            go_wp2_with (first | ((with_reducible refine gate_callee (f := 37) rfl ?_); refine gl_ (some 49) Try.func37 #[.slice Ao33 t295.length co33, .int .i64 1] ?_; (with_reducible refine (laws_markIntSS.calls kj17 (fun k_ => B_ ≤ k_) (.slice Ao33 t295.length co33) t295 1 t307 t308 w _ ?side1 ?side2 A44.out).mono ?_); (case side1 => exact by_ HB); (case side2 => exact HO_8.out); rintro e w63 ⟨rfl, hy0, hb, hkp⟩; refine ⟨_, rfl, ?_⟩; replace HO_6 := ksp_ (fun k_ => k_ < B_) (HO_6.out) hkp; replace HO_295001 := kp_ (fun k_ => True) ((Kd.R_apart' HO_295001.out (Kd.S_typed HO_8.out) (by decide))) hkp; replace BK281 := bk_ BK281 hkp (fun hs_ => Nat.not_le.2 hl281_ hs_); replace BK294 := bk_ BK294 hkp (fun hs_ => Nat.not_le.2 hl294_ hs_); replace HO_8 := Aside0.mk hy0; replace HB := Aside0.mk (hb); (try clear hb); (try clear hkp); (try clear hy0)) | ((with_reducible refine gate_callee (f := 38) rfl ?_); refine goesL_ (some 52) rfl rfl Try.func38 (by kernel_rfl) rfl #[.slice Ao33 t308.length co33, .int .i64 1] rfl (by (try simp only [List.map_toArray, List.map_cons, List.map_nil]); first | done | (rw [show t308.length = t295.length from (Kd.S_reads' HO_8.out).1.symm] <;> rfl) | rfl | (simp only [List.length_drop, List.length_take]; rfl)) ?_; (with_reducible refine (laws_heldIntSS.calls kj17 _ _ t308 1 t309 _ ?side1 ?side2 A45.out).mono ?_); (case side1 => repeat (first | exact (Kd.S_reads' HO_8.out).2.2 | (with_reducible refine Kd.C_alloc ?_ _) | (with_reducible refine Kd.C_drewN ?_ _) | (with_reducible refine Kd.C_drew ?_))); (case side2 => rw [show t308.length = t295.length from (Kd.S_reads' HO_8.out).1.symm]; exact (Kd.S_reads' HO_8.out).2.1); rintro e w' ⟨rfl, ⟨nd, rfl⟩⟩; refine ⟨_, rfl, ?_⟩; have hnb64 := NB281_294.out; have hnc64 := NB294_281.out; have hcz65_0 := cz_ BK281 0 (.int .i64 a0_0); have hcz65_1 := cz_ BK281 1 (.slice A0_1 l0_1.length c0_1); have hfz65_0 := blk_frozen BK281.out 0; have hfz65_1 := blk_frozen BK281.out 1) | ((with_reducible refine gate_callee (f := 17) rfl ?_); refine gl_ (some 59) Try.func17 #[.agg #[.int .i64 a0_0, .slice A0_1 l0_1.length c0_1]] ?_; (with_reducible refine (laws_toGraph.calls kj17 a0_0 _ _ l0_1 t310 t311 _ ?side1 ?side2 A49.out).mono ?_); (case side1 => exact cc_ HR0_1 HB); (case side2 => exact HC0_1.out); rintro e w66 ⟨v312, rfl, ho0, hb⟩; refine ⟨_, rfl, ?_⟩; have HO313 := Aside0.mk (Kd.R_lower (Kd.R_new' ho0 (Kd.R_lt (hd_ HO_295001))) (bz_ HB)); replace HO_6 := Aside0.mk (Kd.S_below (by (with_reducible repeat (first | apply Kd.S_alloc | apply Kd.S_drewN | apply Kd.S_drew)); exact HO_6.out) hb); replace HO_8 := Aside0.mk (Kd.S_below (by (with_reducible repeat (first | apply Kd.S_alloc | apply Kd.S_drewN | apply Kd.S_drew)); exact HO_8.out) hb); replace HO_295001 := Aside0.mk (Kd.R_elder' (hd_ HO_295001) (Kd.R_base ho0) hb); replace BK281 := Aside0.mk (bb_ BK281 hb); replace BK294 := Aside0.mk (bb_ BK294 hb); replace HB := Aside0.mk (bt_ HB hb); (try clear hb); (try clear hb2); (try clear hk); (try clear hi); (try clear ho0); obtain ⟨Ao67, co67, eo67⟩ := Kd.R_slice HO313.out; subst eo67) | ((with_reducible refine gate_callee (f := 50) rfl ?_); refine gl_ (some 61) Try.func50 #[.agg #[.int .i64 t310, .slice Ao67 t311.length co67], .int .i64 a1] ?_; (with_reducible refine (impl_HopTable.calls kj17 t310 _ _ t311 a1 t314 _ ?side1 ?side2 A50.out).mono ?_); (case side1 => exact rc_ HO313); (case side2 => exact (Kd.R_reads' HO313.out).2.1); rintro e w68 ⟨v315, rfl, ho0, hb⟩; refine ⟨_, rfl, ?_⟩; have HO316 := Aside0.mk (Kd.S_lower (Kd.S_new' (Kd.S_new' ho0 (Kd.S_lt (by (with_reducible repeat (first | apply Kd.S_alloc | apply Kd.S_drewN | apply Kd.S_drew)); exact HO_6.out))) (Kd.S_lt (by (with_reducible repeat (first | apply Kd.S_alloc | apply Kd.S_drewN | apply Kd.S_drew)); exact HO_8.out))) (bz_ HB)); replace HO_295001 := rb_ HO_295001 hb; replace HO313 := rb_ HO313 hb; replace HO_6 := Aside0.mk (Kd.S_elder' (by (with_reducible repeat (first | apply Kd.S_alloc | apply Kd.S_drewN | apply Kd.S_drew)); exact HO_6.out) (Kd.S_base ho0) hb); replace HO_8 := Aside0.mk (Kd.S_elder' (by (with_reducible repeat (first | apply Kd.S_alloc | apply Kd.S_drewN | apply Kd.S_drew)); exact HO_8.out) (Kd.S_base ho0) hb); replace BK281 := Aside0.mk (bb_ BK281 hb); replace BK294 := Aside0.mk (bb_ BK294 hb); replace HB := Aside0.mk (bt_ HB hb); (try clear hb); (try clear hb2); (try clear hk); (try clear hi); (try clear ho0); obtain ⟨Ao69, co69, eo69⟩ := Kd.S_slice HO316.out; subst eo69) | ((with_reducible refine gate_callee (f := 36) rfl ?_); refine gl_ (some 64) Try.func36 #[.slice Ao69 t314.length co69, .slice Ao34 t287.length co34] ?_; (with_reducible refine (laws_eqIntSS.calls kj17 _ _ t314 _ _ t287 true _ ?side1 ?side2 ?side3 ?side4 A51.out).mono ?_); (case side1 => repeat (first | exact (Kd.S_reads' HO316.out).2.2 | (with_reducible refine Kd.C_alloc ?_ _) | (with_reducible refine Kd.C_drewN ?_ _) | (with_reducible refine Kd.C_drew ?_))); (case side2 => exact (Kd.S_reads' HO316.out).2.1); (case side3 => repeat (first | exact (Kd.S_reads' HO_6.out).2.2 | (with_reducible refine Kd.C_alloc ?_ _) | (with_reducible refine Kd.C_drewN ?_ _) | (with_reducible refine Kd.C_drew ?_))); (case side4 => exact (Kd.S_reads' HO_6.out).2.1); rintro e w' ⟨rfl, ⟨nd, rfl⟩⟩; refine ⟨_, rfl, ?_⟩) | ((with_reducible refine gate_callee (f := 38) rfl ?_); refine goesL_ (some 68) rfl rfl Try.func38 (by kernel_rfl) rfl #[.slice Ao33 t308.length co33, .int .i64 1] rfl (by (try simp only [List.map_toArray, List.map_cons, List.map_nil]); first | done | (rw [show t308.length = t295.length from (Kd.S_reads' HO_8.out).1.symm] <;> rfl) | rfl | (simp only [List.length_drop, List.length_take]; rfl)) ?_; (with_reducible refine (laws_heldIntSS.calls kj17 _ _ t308 1 t318 _ ?side1 ?side2 A53.out).mono ?_); (case side1 => repeat (first | exact (Kd.S_reads' HO_8.out).2.2 | (with_reducible refine Kd.C_alloc ?_ _) | (with_reducible refine Kd.C_drewN ?_ _) | (with_reducible refine Kd.C_drew ?_))); (case side2 => rw [show t308.length = t295.length from (Kd.S_reads' HO_8.out).1.symm]; exact (Kd.S_reads' HO_8.out).2.1); rintro e w' ⟨rfl, ⟨nd, rfl⟩⟩; refine ⟨_, rfl, ?_⟩))
            go_ret
            exact ⟨by first | rfl | (simp [errW_none, errW_some] <;> rfl) | (simp [*, errW_none, errW_some] <;> rfl), by repeat (first | (with_reducible first | exact HB.out | apply below_alloc | apply pw_below_drewN | apply below_drew1 | refine below_set ?_ GE281.out | refine below_set ?_ GE294.out) | exact HB.out)⟩
           ·rw [if_neg c62] at H
            have c62b0 : (t318 == t307) = false := beq_eq_false_iff_ne.mpr c62
            have c62b1 : (t318 != t307) = true := bne_iff_ne.mpr c62
            obtain rfl := Option.some.inj H
            go_wp2_with (first | ((with_reducible refine gate_callee (f := 37) rfl ?_); refine gl_ (some 49) Try.func37 #[.slice Ao33 t295.length co33, .int .i64 1] ?_; (with_reducible refine (laws_markIntSS.calls kj17 (fun k_ => B_ ≤ k_) (.slice Ao33 t295.length co33) t295 1 t307 t308 w _ ?side1 ?side2 A44.out).mono ?_); (case side1 => exact by_ HB); (case side2 => exact HO_8.out); rintro e w70 ⟨rfl, hy0, hb, hkp⟩; refine ⟨_, rfl, ?_⟩; replace HO_6 := ksp_ (fun k_ => k_ < B_) (HO_6.out) hkp; replace HO_295001 := kp_ (fun k_ => True) ((Kd.R_apart' HO_295001.out (Kd.S_typed HO_8.out) (by decide))) hkp; replace BK281 := bk_ BK281 hkp (fun hs_ => Nat.not_le.2 hl281_ hs_); replace BK294 := bk_ BK294 hkp (fun hs_ => Nat.not_le.2 hl294_ hs_); replace HO_8 := Aside0.mk hy0; replace HB := Aside0.mk (hb); (try clear hb); (try clear hkp); (try clear hy0)) | ((with_reducible refine gate_callee (f := 38) rfl ?_); refine goesL_ (some 52) rfl rfl Try.func38 (by kernel_rfl) rfl #[.slice Ao33 t308.length co33, .int .i64 1] rfl (by (try simp only [List.map_toArray, List.map_cons, List.map_nil]); first | done | (rw [show t308.length = t295.length from (Kd.S_reads' HO_8.out).1.symm] <;> rfl) | rfl | (simp only [List.length_drop, List.length_take]; rfl)) ?_; (with_reducible refine (laws_heldIntSS.calls kj17 _ _ t308 1 t309 _ ?side1 ?side2 A45.out).mono ?_); (case side1 => repeat (first | exact (Kd.S_reads' HO_8.out).2.2 | (with_reducible refine Kd.C_alloc ?_ _) | (with_reducible refine Kd.C_drewN ?_ _) | (with_reducible refine Kd.C_drew ?_))); (case side2 => rw [show t308.length = t295.length from (Kd.S_reads' HO_8.out).1.symm]; exact (Kd.S_reads' HO_8.out).2.1); rintro e w' ⟨rfl, ⟨nd, rfl⟩⟩; refine ⟨_, rfl, ?_⟩; have hnb71 := NB281_294.out; have hnc71 := NB294_281.out; have hcz72_0 := cz_ BK281 0 (.int .i64 a0_0); have hcz72_1 := cz_ BK281 1 (.slice A0_1 l0_1.length c0_1); have hfz72_0 := blk_frozen BK281.out 0; have hfz72_1 := blk_frozen BK281.out 1) | ((with_reducible refine gate_callee (f := 17) rfl ?_); refine gl_ (some 59) Try.func17 #[.agg #[.int .i64 a0_0, .slice A0_1 l0_1.length c0_1]] ?_; (with_reducible refine (laws_toGraph.calls kj17 a0_0 _ _ l0_1 t310 t311 _ ?side1 ?side2 A49.out).mono ?_); (case side1 => exact cc_ HR0_1 HB); (case side2 => exact HC0_1.out); rintro e w73 ⟨v312, rfl, ho0, hb⟩; refine ⟨_, rfl, ?_⟩; have HO313 := Aside0.mk (Kd.R_lower (Kd.R_new' ho0 (Kd.R_lt (hd_ HO_295001))) (bz_ HB)); replace HO_6 := Aside0.mk (Kd.S_below (by (with_reducible repeat (first | apply Kd.S_alloc | apply Kd.S_drewN | apply Kd.S_drew)); exact HO_6.out) hb); replace HO_8 := Aside0.mk (Kd.S_below (by (with_reducible repeat (first | apply Kd.S_alloc | apply Kd.S_drewN | apply Kd.S_drew)); exact HO_8.out) hb); replace HO_295001 := Aside0.mk (Kd.R_elder' (hd_ HO_295001) (Kd.R_base ho0) hb); replace BK281 := Aside0.mk (bb_ BK281 hb); replace BK294 := Aside0.mk (bb_ BK294 hb); replace HB := Aside0.mk (bt_ HB hb); (try clear hb); (try clear hb2); (try clear hk); (try clear hi); (try clear ho0); obtain ⟨Ao74, co74, eo74⟩ := Kd.R_slice HO313.out; subst eo74) | ((with_reducible refine gate_callee (f := 50) rfl ?_); refine gl_ (some 61) Try.func50 #[.agg #[.int .i64 t310, .slice Ao74 t311.length co74], .int .i64 a1] ?_; (with_reducible refine (impl_HopTable.calls kj17 t310 _ _ t311 a1 t314 _ ?side1 ?side2 A50.out).mono ?_); (case side1 => exact rc_ HO313); (case side2 => exact (Kd.R_reads' HO313.out).2.1); rintro e w75 ⟨v315, rfl, ho0, hb⟩; refine ⟨_, rfl, ?_⟩; have HO316 := Aside0.mk (Kd.S_lower (Kd.S_new' (Kd.S_new' ho0 (Kd.S_lt (by (with_reducible repeat (first | apply Kd.S_alloc | apply Kd.S_drewN | apply Kd.S_drew)); exact HO_6.out))) (Kd.S_lt (by (with_reducible repeat (first | apply Kd.S_alloc | apply Kd.S_drewN | apply Kd.S_drew)); exact HO_8.out))) (bz_ HB)); replace HO_295001 := rb_ HO_295001 hb; replace HO313 := rb_ HO313 hb; replace HO_6 := Aside0.mk (Kd.S_elder' (by (with_reducible repeat (first | apply Kd.S_alloc | apply Kd.S_drewN | apply Kd.S_drew)); exact HO_6.out) (Kd.S_base ho0) hb); replace HO_8 := Aside0.mk (Kd.S_elder' (by (with_reducible repeat (first | apply Kd.S_alloc | apply Kd.S_drewN | apply Kd.S_drew)); exact HO_8.out) (Kd.S_base ho0) hb); replace BK281 := Aside0.mk (bb_ BK281 hb); replace BK294 := Aside0.mk (bb_ BK294 hb); replace HB := Aside0.mk (bt_ HB hb); (try clear hb); (try clear hb2); (try clear hk); (try clear hi); (try clear ho0); obtain ⟨Ao76, co76, eo76⟩ := Kd.S_slice HO316.out; subst eo76) | ((with_reducible refine gate_callee (f := 36) rfl ?_); refine gl_ (some 64) Try.func36 #[.slice Ao76 t314.length co76, .slice Ao34 t287.length co34] ?_; (with_reducible refine (laws_eqIntSS.calls kj17 _ _ t314 _ _ t287 true _ ?side1 ?side2 ?side3 ?side4 A51.out).mono ?_); (case side1 => repeat (first | exact (Kd.S_reads' HO316.out).2.2 | (with_reducible refine Kd.C_alloc ?_ _) | (with_reducible refine Kd.C_drewN ?_ _) | (with_reducible refine Kd.C_drew ?_))); (case side2 => exact (Kd.S_reads' HO316.out).2.1); (case side3 => repeat (first | exact (Kd.S_reads' HO_6.out).2.2 | (with_reducible refine Kd.C_alloc ?_ _) | (with_reducible refine Kd.C_drewN ?_ _) | (with_reducible refine Kd.C_drew ?_))); (case side4 => exact (Kd.S_reads' HO_6.out).2.1); rintro e w' ⟨rfl, ⟨nd, rfl⟩⟩; refine ⟨_, rfl, ?_⟩) | ((with_reducible refine gate_callee (f := 38) rfl ?_); refine goesL_ (some 68) rfl rfl Try.func38 (by kernel_rfl) rfl #[.slice Ao33 t308.length co33, .int .i64 1] rfl (by (try simp only [List.map_toArray, List.map_cons, List.map_nil]); first | done | (rw [show t308.length = t295.length from (Kd.S_reads' HO_8.out).1.symm] <;> rfl) | rfl | (simp only [List.length_drop, List.length_take]; rfl)) ?_; (with_reducible refine (laws_heldIntSS.calls kj17 _ _ t308 1 t318 _ ?side1 ?side2 A53.out).mono ?_); (case side1 => repeat (first | exact (Kd.S_reads' HO_8.out).2.2 | (with_reducible refine Kd.C_alloc ?_ _) | (with_reducible refine Kd.C_drewN ?_ _) | (with_reducible refine Kd.C_drew ?_))); (case side2 => rw [show t308.length = t295.length from (Kd.S_reads' HO_8.out).1.symm]; exact (Kd.S_reads' HO_8.out).2.1); rintro e w' ⟨rfl, ⟨nd, rfl⟩⟩; refine ⟨_, rfl, ?_⟩))
            go_ret
            exact ⟨by first | rfl | (simp [errW_none, errW_some] <;> rfl) | (simp [*, errW_none, errW_some] <;> rfl), by repeat (first | (with_reducible first | exact HB.out | apply below_alloc | apply pw_below_drewN | apply below_drew1 | refine below_set ?_ GE281.out | refine below_set ?_ GE294.out) | exact HB.out)⟩
         ·replace c52 := Bool.eq_false_iff.mpr c52
          subst c52
          rw [if_neg (show ¬ (false = true) by decide)] at H
          obtain rfl := Option.some.inj H
          go_wp2_with (first | ((with_reducible refine gate_callee (f := 37) rfl ?_); refine gl_ (some 49) Try.func37 #[.slice Ao33 t295.length co33, .int .i64 1] ?_; (with_reducible refine (laws_markIntSS.calls kj17 (fun k_ => B_ ≤ k_) (.slice Ao33 t295.length co33) t295 1 t307 t308 w _ ?side1 ?side2 A44.out).mono ?_); (case side1 => exact by_ HB); (case side2 => exact HO_8.out); rintro e w77 ⟨rfl, hy0, hb, hkp⟩; refine ⟨_, rfl, ?_⟩; replace HO_6 := ksp_ (fun k_ => k_ < B_) (HO_6.out) hkp; replace HO_295001 := kp_ (fun k_ => True) ((Kd.R_apart' HO_295001.out (Kd.S_typed HO_8.out) (by decide))) hkp; replace BK281 := bk_ BK281 hkp (fun hs_ => Nat.not_le.2 hl281_ hs_); replace BK294 := bk_ BK294 hkp (fun hs_ => Nat.not_le.2 hl294_ hs_); replace HO_8 := Aside0.mk hy0; replace HB := Aside0.mk (hb); (try clear hb); (try clear hkp); (try clear hy0)) | ((with_reducible refine gate_callee (f := 38) rfl ?_); refine goesL_ (some 52) rfl rfl Try.func38 (by kernel_rfl) rfl #[.slice Ao33 t308.length co33, .int .i64 1] rfl (by (try simp only [List.map_toArray, List.map_cons, List.map_nil]); first | done | (rw [show t308.length = t295.length from (Kd.S_reads' HO_8.out).1.symm] <;> rfl) | rfl | (simp only [List.length_drop, List.length_take]; rfl)) ?_; (with_reducible refine (laws_heldIntSS.calls kj17 _ _ t308 1 t309 _ ?side1 ?side2 A45.out).mono ?_); (case side1 => repeat (first | exact (Kd.S_reads' HO_8.out).2.2 | (with_reducible refine Kd.C_alloc ?_ _) | (with_reducible refine Kd.C_drewN ?_ _) | (with_reducible refine Kd.C_drew ?_))); (case side2 => rw [show t308.length = t295.length from (Kd.S_reads' HO_8.out).1.symm]; exact (Kd.S_reads' HO_8.out).2.1); rintro e w' ⟨rfl, ⟨nd, rfl⟩⟩; refine ⟨_, rfl, ?_⟩; have hnb78 := NB281_294.out; have hnc78 := NB294_281.out; have hcz79_0 := cz_ BK281 0 (.int .i64 a0_0); have hcz79_1 := cz_ BK281 1 (.slice A0_1 l0_1.length c0_1); have hfz79_0 := blk_frozen BK281.out 0; have hfz79_1 := blk_frozen BK281.out 1) | ((with_reducible refine gate_callee (f := 17) rfl ?_); refine gl_ (some 59) Try.func17 #[.agg #[.int .i64 a0_0, .slice A0_1 l0_1.length c0_1]] ?_; (with_reducible refine (laws_toGraph.calls kj17 a0_0 _ _ l0_1 t310 t311 _ ?side1 ?side2 A49.out).mono ?_); (case side1 => exact cc_ HR0_1 HB); (case side2 => exact HC0_1.out); rintro e w80 ⟨v312, rfl, ho0, hb⟩; refine ⟨_, rfl, ?_⟩; have HO313 := Aside0.mk (Kd.R_lower (Kd.R_new' ho0 (Kd.R_lt (hd_ HO_295001))) (bz_ HB)); replace HO_6 := Aside0.mk (Kd.S_below (by (with_reducible repeat (first | apply Kd.S_alloc | apply Kd.S_drewN | apply Kd.S_drew)); exact HO_6.out) hb); replace HO_8 := Aside0.mk (Kd.S_below (by (with_reducible repeat (first | apply Kd.S_alloc | apply Kd.S_drewN | apply Kd.S_drew)); exact HO_8.out) hb); replace HO_295001 := Aside0.mk (Kd.R_elder' (hd_ HO_295001) (Kd.R_base ho0) hb); replace BK281 := Aside0.mk (bb_ BK281 hb); replace BK294 := Aside0.mk (bb_ BK294 hb); replace HB := Aside0.mk (bt_ HB hb); (try clear hb); (try clear hb2); (try clear hk); (try clear hi); (try clear ho0); obtain ⟨Ao81, co81, eo81⟩ := Kd.R_slice HO313.out; subst eo81) | ((with_reducible refine gate_callee (f := 50) rfl ?_); refine gl_ (some 61) Try.func50 #[.agg #[.int .i64 t310, .slice Ao81 t311.length co81], .int .i64 a1] ?_; (with_reducible refine (impl_HopTable.calls kj17 t310 _ _ t311 a1 t314 _ ?side1 ?side2 A50.out).mono ?_); (case side1 => exact rc_ HO313); (case side2 => exact (Kd.R_reads' HO313.out).2.1); rintro e w82 ⟨v315, rfl, ho0, hb⟩; refine ⟨_, rfl, ?_⟩; have HO316 := Aside0.mk (Kd.S_lower (Kd.S_new' (Kd.S_new' ho0 (Kd.S_lt (by (with_reducible repeat (first | apply Kd.S_alloc | apply Kd.S_drewN | apply Kd.S_drew)); exact HO_6.out))) (Kd.S_lt (by (with_reducible repeat (first | apply Kd.S_alloc | apply Kd.S_drewN | apply Kd.S_drew)); exact HO_8.out))) (bz_ HB)); replace HO_295001 := rb_ HO_295001 hb; replace HO313 := rb_ HO313 hb; replace HO_6 := Aside0.mk (Kd.S_elder' (by (with_reducible repeat (first | apply Kd.S_alloc | apply Kd.S_drewN | apply Kd.S_drew)); exact HO_6.out) (Kd.S_base ho0) hb); replace HO_8 := Aside0.mk (Kd.S_elder' (by (with_reducible repeat (first | apply Kd.S_alloc | apply Kd.S_drewN | apply Kd.S_drew)); exact HO_8.out) (Kd.S_base ho0) hb); replace BK281 := Aside0.mk (bb_ BK281 hb); replace BK294 := Aside0.mk (bb_ BK294 hb); replace HB := Aside0.mk (bt_ HB hb); (try clear hb); (try clear hb2); (try clear hk); (try clear hi); (try clear ho0); obtain ⟨Ao83, co83, eo83⟩ := Kd.S_slice HO316.out; subst eo83) | ((with_reducible refine gate_callee (f := 36) rfl ?_); refine gl_ (some 64) Try.func36 #[.slice Ao83 t314.length co83, .slice Ao34 t287.length co34] ?_; (with_reducible refine (laws_eqIntSS.calls kj17 _ _ t314 _ _ t287 false _ ?side1 ?side2 ?side3 ?side4 A51.out).mono ?_); (case side1 => repeat (first | exact (Kd.S_reads' HO316.out).2.2 | (with_reducible refine Kd.C_alloc ?_ _) | (with_reducible refine Kd.C_drewN ?_ _) | (with_reducible refine Kd.C_drew ?_))); (case side2 => exact (Kd.S_reads' HO316.out).2.1); (case side3 => repeat (first | exact (Kd.S_reads' HO_6.out).2.2 | (with_reducible refine Kd.C_alloc ?_ _) | (with_reducible refine Kd.C_drewN ?_ _) | (with_reducible refine Kd.C_drew ?_))); (case side4 => exact (Kd.S_reads' HO_6.out).2.1); rintro e w' ⟨rfl, ⟨nd, rfl⟩⟩; refine ⟨_, rfl, ?_⟩))
          go_ret
          exact ⟨by first | rfl | (simp [errW_none, errW_some] <;> rfl) | (simp [*, errW_none, errW_some] <;> rfl), by repeat (first | (with_reducible first | exact HB.out | apply below_alloc | apply pw_below_drewN | apply below_drew1 | refine below_set ?_ GE281.out | refine below_set ?_ GE294.out) | exact HB.out)⟩
        ·rw [if_neg c48] at H
         have c48b0 : (t309 == t307) = false := beq_eq_false_iff_ne.mpr c48
         have c48b1 : (t309 != t307) = true := bne_iff_ne.mpr c48
         obtain rfl := Option.some.inj H
         go_wp2_with (first | ((with_reducible refine gate_callee (f := 37) rfl ?_); refine gl_ (some 49) Try.func37 #[.slice Ao33 t295.length co33, .int .i64 1] ?_; (with_reducible refine (laws_markIntSS.calls kj17 (fun k_ => B_ ≤ k_) (.slice Ao33 t295.length co33) t295 1 t307 t308 w _ ?side1 ?side2 A44.out).mono ?_); (case side1 => exact by_ HB); (case side2 => exact HO_8.out); rintro e w84 ⟨rfl, hy0, hb, hkp⟩; refine ⟨_, rfl, ?_⟩; replace HO_6 := ksp_ (fun k_ => k_ < B_) (HO_6.out) hkp; replace HO_295001 := kp_ (fun k_ => True) ((Kd.R_apart' HO_295001.out (Kd.S_typed HO_8.out) (by decide))) hkp; replace BK281 := bk_ BK281 hkp (fun hs_ => Nat.not_le.2 hl281_ hs_); replace BK294 := bk_ BK294 hkp (fun hs_ => Nat.not_le.2 hl294_ hs_); replace HO_8 := Aside0.mk hy0; replace HB := Aside0.mk (hb); (try clear hb); (try clear hkp); (try clear hy0)) | ((with_reducible refine gate_callee (f := 38) rfl ?_); refine goesL_ (some 52) rfl rfl Try.func38 (by kernel_rfl) rfl #[.slice Ao33 t308.length co33, .int .i64 1] rfl (by (try simp only [List.map_toArray, List.map_cons, List.map_nil]); first | done | (rw [show t308.length = t295.length from (Kd.S_reads' HO_8.out).1.symm] <;> rfl) | rfl | (simp only [List.length_drop, List.length_take]; rfl)) ?_; (with_reducible refine (laws_heldIntSS.calls kj17 _ _ t308 1 t309 _ ?side1 ?side2 A45.out).mono ?_); (case side1 => repeat (first | exact (Kd.S_reads' HO_8.out).2.2 | (with_reducible refine Kd.C_alloc ?_ _) | (with_reducible refine Kd.C_drewN ?_ _) | (with_reducible refine Kd.C_drew ?_))); (case side2 => rw [show t308.length = t295.length from (Kd.S_reads' HO_8.out).1.symm]; exact (Kd.S_reads' HO_8.out).2.1); rintro e w' ⟨rfl, ⟨nd, rfl⟩⟩; refine ⟨_, rfl, ?_⟩))
         go_ret
         exact ⟨by first | rfl | (simp [errW_none, errW_some] <;> rfl) | (simp [*, errW_none, errW_some] <;> rfl), by repeat (first | (with_reducible first | exact HB.out | apply below_alloc | apply pw_below_drewN | apply below_drew1 | refine below_set ?_ GE281.out | refine below_set ?_ GE294.out) | exact HB.out)⟩
   ·replace c16 := Bool.eq_false_iff.mpr c16
    subst c16
    rw [if_neg (show ¬ (false = true) by decide)] at H
    obtain rfl := Option.some.inj H
    go_enter Try.func14, Try.ntmps14
    try go_wp2_with (first | ((with_reducible refine gate_dst (N := 2) rfl ?_); refine box_event ?hg (N := 2) ?hd (cs := #[.int .i64 a0_0, .slice A0_1 l0_1.length c0_1]) (t := 24) ?hr ?_; (case hd => rfl); (case hg => rfl); (case hr => first | (go_simp; done) | (go_simp; rfl)); intro gb281 hg w85 hbox hb; have BK281 := Aside0.mk hbox; have GW281 := ge_ HB hg; have GE281 := ge_ HB hg; replace HB := Aside0.mk (bt_ HB hb); clear hb hbox hg; have hcz86_0 := cz_ BK281 0 (.int .i64 a0_0); have hcz86_1 := cz_ BK281 1 (.slice A0_1 l0_1.length c0_1); have hfz86_0 := blk_frozen BK281.out 0; have hfz86_1 := blk_frozen BK281.out 1) | ((with_reducible refine gate_callee (f := 15) rfl ?_); refine gl_ (some 15) Try.func15 #[.agg #[.int .i64 a0_0, .slice A0_1 l0_1.length c0_1], .int .i64 1048576] ?_; (with_reducible refine (laws_szGraph.calls a0_0 _ _ l0_1 1048576 t282 _ ?side1 ?side2 A3.out).mono ?_); (case side1 => exact cb_ HR0_1 HB); (case side2 => exact HC0_1.out); rintro e w87 ⟨rfl, hb⟩; refine ⟨_, rfl, ?_⟩; replace BK281 := Aside0.mk (bb_ BK281 hb); replace HB := Aside0.mk (bt_ HB hb); (try clear hb); (try clear hb2); (try clear hk); (try clear hi); have hcz88_0 := cz_ BK281 0 (.int .i64 a0_0); have hcz88_1 := cz_ BK281 1 (.slice A0_1 l0_1.length c0_1); have hfz88_0 := blk_frozen BK281.out 0; have hfz88_1 := blk_frozen BK281.out 1) | ((with_reducible refine gate_callee (f := 17) rfl ?_); refine gl_ (some 19) Try.func17 #[.agg #[.int .i64 a0_0, .slice A0_1 l0_1.length c0_1]] ?_; (with_reducible refine (laws_toGraph.calls k a0_0 _ _ l0_1 t283 t284 _ ?side1 ?side2 A8.out).mono ?_); (case side1 => exact cb_ HR0_1 HB); (case side2 => exact HC0_1.out); rintro e w89 ⟨v285, rfl, ho0, hb⟩; refine ⟨_, rfl, ?_⟩; have HO286 := Aside0.mk (Kd.R_lower ho0 (bz_ HB)); replace BK281 := Aside0.mk (bb_ BK281 hb); replace HB := Aside0.mk (bt_ HB hb); (try clear hb); (try clear hb2); (try clear hk); (try clear hi); (try clear ho0); obtain ⟨Ao90, co90, eo90⟩ := Kd.R_slice HO286.out; subst eo90) | ((with_reducible refine gate_callee (f := 49) rfl ?_); refine gl_ (some 21) Try.func49 #[.agg #[.int .i64 t283, .slice Ao90 t284.length co90], .int .i64 a1] ?_; (with_reducible refine (spec_HopTable.calls k t283 _ _ t284 a1 t287 _ ?side1 ?side2 A9.out).mono ?_); (case side1 => exact rc_ HO286); (case side2 => exact (Kd.R_reads' HO286.out).2.1); rintro e w91 ⟨v288, rfl, ho0, hb⟩; refine ⟨_, rfl, ?_⟩; have HO289 := Aside0.mk (Kd.S_lower ho0 (bz_ HB)); replace HO286 := rb_ HO286 hb; replace BK281 := Aside0.mk (bb_ BK281 hb); replace HB := Aside0.mk (bt_ HB hb); (try clear hb); (try clear hb2); (try clear hk); (try clear hi); (try clear ho0); have hcz92_0 := cz_ BK281 0 (.int .i64 a0_0); have hcz92_1 := cz_ BK281 1 (.slice A0_1 l0_1.length c0_1); have hfz92_0 := blk_frozen BK281.out 0; have hfz92_1 := blk_frozen BK281.out 1) | ((with_reducible refine gate_callee (f := 17) rfl ?_); refine gl_ (some 23) Try.func17 #[.agg #[.int .i64 a0_0, .slice A0_1 l0_1.length c0_1]] ?_; (with_reducible refine (laws_toGraph.calls k a0_0 _ _ l0_1 t290 t291 _ ?side1 ?side2 A10.out).mono ?_); (case side1 => exact cb_ HR0_1 HB); (case side2 => exact HC0_1.out); rintro e w93 ⟨v292, rfl, ho0, hb⟩; refine ⟨_, rfl, ?_⟩; have HO293 := Aside0.mk (Kd.R_lower (Kd.R_new' ho0 (Kd.R_lt (hd_ HO286))) (bz_ HB)); replace HO289 := Aside0.mk (Kd.S_below (by (with_reducible repeat (first | apply Kd.S_alloc | apply Kd.S_drewN | apply Kd.S_drew)); exact HO289.out) hb); replace HO286 := Aside0.mk (Kd.R_elder' (hd_ HO286) (Kd.R_base ho0) hb); replace BK281 := Aside0.mk (bb_ BK281 hb); replace HB := Aside0.mk (bt_ HB hb); (try clear hb); (try clear hb2); (try clear hk); (try clear hi); (try clear ho0)) | ((with_reducible refine gate_dst (N := 7) rfl ?_); refine box_event ?hg (N := 7) ?hd (cs := #[.int .i64 0, .slice none 0 0]) (t := 30) ?hr ?_; (case hd => rfl); (case hg => rfl); (case hr => first | (go_simp; done) | (go_simp; rfl)); intro gb294 hg w94 hbox hb; have BK294 := Aside0.mk hbox; have GW294 := ge_ HB hg; have GE294 := ge_ HB hg; have NB281_294 := nl_ BK281 hg; have NB294_281 := ng_ BK281 hg; replace HO286 := rb_ HO286 hb; replace HO289 := Aside0.mk (Kd.S_below (by (with_reducible repeat (first | apply Kd.S_alloc | apply Kd.S_drewN | apply Kd.S_drew)); exact HO289.out) hb); replace HO293 := rb_ HO293 hb; replace HB := Aside0.mk (bt_ HB hb); replace BK281 := Aside0.mk (bb_ BK281 hb); clear hb hbox hg; have hnb95 := NB294_281.out; have hnc95 := NB281_294.out; have hcz96_0 := cz_ BK294 0 (.int .i64 0); have hcz96_1 := cz_ BK294 1 (.slice none 0 0); have hfz96_0 := blk_frozen BK294.out 0; have hfz96_1 := blk_frozen BK294.out 1; obtain ⟨Ao97, co97, eo97⟩ := Kd.R_slice HO293.out; subst eo97) | ((with_reducible refine gate_callee (f := 50) rfl ?_); refine gl_ (some 26) Try.func50 #[.agg #[.int .i64 t290, .slice Ao97 t291.length co97], .int .i64 a1] ?_; (with_reducible refine (impl_HopTable.calls k t290 _ _ t291 a1 t295 _ ?side1 ?side2 A11.out).mono ?_); (case side1 => refine (Kd.R_reads' (e := 67) (base := w.heap.size) (ok := fun k_ => (True ∧ some k_ ≠ (.slice Ao90 t284.length co90 : Value).ownBlock)) (n := t291.length) (c := co97) ?_).2.2; exact (hs_ HO293 BK294)); (case side2 => exact (Kd.R_reads' HO293.out).2.1); rintro e w98 ⟨v296, rfl, ho0, hb⟩; refine ⟨_, rfl, ?_⟩; obtain ⟨B_, eB_, HO297⟩ := split_ ho0 (bz_ HB); replace HO286 := rs_ HO286 BK294 hb; replace HO293 := oldR_ (hs_ HO293 BK294) hb eB_; replace HO289 := oldS_ (by (with_reducible repeat (first | apply Kd.S_alloc | apply Kd.S_drewN | apply Kd.S_drew)); exact (Kd.S_mono (Kd.S_far (p := ⟨gb294, 1, none⟩) (Kd.S_far (p := ⟨gb294, 0, none⟩) (Kd.S_types HO289.out BK294.out (by decide)) (fun _ hk => hk.2) (.int .i64 t290)) (fun _ hk => hk.2) (.slice Ao97 t291.length co97)) (fun _ h_ => h_.1))) hb eB_; have hl281_ : gb281 < B_ := (by rw [eB_]; exact bg_ BK281 NB281_294); replace BK281 := bf_ BK281 NB281_294 hb; have hl294_ : gb294 < B_ := (by rw [eB_]; exact blk_lt (g := gb294) (o := .cells #[.int .i64 t290, .slice Ao97 t291.length co97] 30 (0, 0)) (by (with_reducible repeat (first | refine blk_drewN ?_ _ | refine blk_drew ?_ | refine blk_alloc ?_ _)); refine blk_put (cs := #[.int .i64 t290, .slice none 0 0]) ?_ 1 _ rfl; (with_reducible repeat (first | refine blk_drewN ?_ _ | refine blk_drew ?_ | refine blk_alloc ?_ _)); refine blk_put (cs := #[.int .i64 0, .slice none 0 0]) ?_ 0 _ rfl; (with_reducible repeat (first | refine blk_drewN ?_ _ | refine blk_drew ?_ | refine blk_alloc ?_ _)); exact BK294.out)); replace BK294 := Aside0.mk (blk_below (g := gb294) (o := .cells #[.int .i64 t290, .slice Ao97 t291.length co97] 30 (0, 0)) (by (with_reducible repeat (first | refine blk_drewN ?_ _ | refine blk_drew ?_ | refine blk_alloc ?_ _)); refine blk_put (cs := #[.int .i64 t290, .slice none 0 0]) ?_ 1 _ rfl; (with_reducible repeat (first | refine blk_drewN ?_ _ | refine blk_drew ?_ | refine blk_alloc ?_ _)); refine blk_put (cs := #[.int .i64 0, .slice none 0 0]) ?_ 0 _ rfl; (with_reducible repeat (first | refine blk_drewN ?_ _ | refine blk_drew ?_ | refine blk_alloc ?_ _)); exact BK294.out) hb); replace HB := Aside0.mk (bt_ HB hb); (try clear hb); (try clear hb2); (try clear hk); (try clear hi); (try clear ho0); obtain ⟨Ao99, co99, eo99⟩ := Kd.S_slice HO297.out; subst eo99; obtain ⟨Ao100, co100, eo100⟩ := Kd.S_slice HO289.out; subst eo100) | ((with_reducible refine gate_callee (f := 36) rfl ?_); refine gl_ (some 29) Try.func36 #[.slice Ao99 t295.length co99, .slice Ao100 t287.length co100] ?_; (with_reducible refine (laws_eqIntSS.calls k _ _ t295 _ _ t287 true _ ?side1 ?side2 ?side3 ?side4 A12.out).mono ?_); (case side1 => repeat (first | exact (Kd.S_reads' HO297.out).2.2 | (with_reducible refine Kd.C_alloc ?_ _) | (with_reducible refine Kd.C_drewN ?_ _) | (with_reducible refine Kd.C_drew ?_))); (case side2 => exact (Kd.S_reads' HO297.out).2.1); (case side3 => repeat (first | exact (Kd.S_reads' HO289.out).2.2 | (with_reducible refine Kd.C_alloc ?_ _) | (with_reducible refine Kd.C_drewN ?_ _) | (with_reducible refine Kd.C_drew ?_))); (case side4 => exact (Kd.S_reads' HO289.out).2.1); rintro e w' ⟨rfl, ⟨nd, rfl⟩⟩; refine ⟨_, rfl, ?_⟩))
    (try (rw [drewN_self w98]; generalize hq_ : World.drewN w98 _ = w98; replace HO286 : Aside0 (Kd.R k67 67 w98 w.heap.size (fun k_ => some k_ ≠ (.slice Ao97 t291.length co97 : Value).ownBlock) (.slice Ao90 t284.length co90) t284) := ⟨by rw [← hq_]; exact (by (with_reducible repeat (first | apply Kd.R_alloc | apply Kd.R_drewN | apply Kd.R_drew)); exact Kd.R_mono HO286.out (fun _ hk => hk.2))⟩; replace HO289 : Aside0 (Kd.S (Kd.slice 3 (Kd.int .i64)) 25 w98 w.heap.size (fun k_ => k_ < B_) (.slice Ao100 t287.length co100) t287) := ⟨by rw [← hq_]; exact (by (with_reducible repeat (first | apply Kd.S_alloc | apply Kd.S_drewN | apply Kd.S_drew)); exact Kd.S_mono HO289.out (fun _ hk => hk))⟩; replace HO293 : Aside0 (Kd.R k67 67 w98 w.heap.size (fun k_ => k_ < B_) (.slice Ao97 t291.length co97) t291) := ⟨by rw [← hq_]; exact (by (with_reducible repeat (first | apply Kd.R_alloc | apply Kd.R_drewN | apply Kd.R_drew)); exact Kd.R_mono HO293.out (fun _ hk => hk))⟩; replace HO297 : Aside0 (Kd.S (Kd.slice 3 (Kd.int .i64)) 25 w98 w.heap.size (fun k_ => B_ ≤ k_) (.slice Ao99 t295.length co99) t295) := ⟨by rw [← hq_]; exact (by (with_reducible repeat (first | apply Kd.S_alloc | apply Kd.S_drewN | apply Kd.S_drew)); exact Kd.S_mono HO297.out (fun _ hk => hk))⟩; replace BK281 : Aside0 (w98.heap[gb281]? = some (.cells #[.int .i64 a0_0, .slice A0_1 l0_1.length c0_1] 24 (0, 0))) := ⟨by rw [← hq_]; exact (by (with_reducible repeat (first | refine blk_drewN ?_ _ | refine blk_drew ?_ | refine blk_alloc ?_ _)); exact BK281.out)⟩; replace BK294 : Aside0 (w98.heap[gb294]? = some (.cells #[.int .i64 t290, .slice Ao97 t291.length co97] 30 (0, 0))) := ⟨by rw [← hq_]; exact (by (with_reducible repeat (first | refine blk_drewN ?_ _ | refine blk_drew ?_ | refine blk_alloc ?_ _)); exact BK294.out)⟩; replace HB : Aside0 (Below w.heap.size w w98) := ⟨by rw [← hq_]; exact (by repeat (first | (with_reducible first | exact HB.out | apply below_alloc | apply pw_below_drewN | apply below_drew1 | refine below_set ?_ GE281.out | refine below_set ?_ GE294.out) | exact HB.out))⟩; clear hq_))
    replace HO286 := Aside0.mk (Kd.R_drew HO286.out)
    replace HO289 := Aside0.mk (Kd.S_drew HO289.out)
    replace HO293 := Aside0.mk (Kd.R_drew HO293.out)
    replace HO297 := Aside0.mk (Kd.S_drew HO297.out)
    replace BK281 := Aside0.mk (blk_drew BK281.out)
    replace BK294 := Aside0.mk (blk_drew BK294.out)
    replace HB := Aside0.mk (below_drew1 HB.out)
    refine start_ (n := 5) (S := fun w' => w'.cell? ⟨gb294, 0, none⟩ = some (.int .i64 t290) ∧ w'.cell? ⟨gb294, 1, none⟩ = some (.slice Ao97 t291.length co97) ∧ w'.cell? ⟨gb281, 0, none⟩ = some (.int .i64 a0_0) ∧ w'.cell? ⟨gb281, 1, none⟩ = some (.slice A0_1 l0_1.length c0_1)) (ds := []) ba10_0 (by kernel_rfl) rfl rfl ⟨(blk_cell BK294.out 0).trans rfl, (blk_cell BK294.out 1).trans rfl, (blk_cell BK281.out 0).trans rfl, (blk_cell BK281.out 1).trans rfl⟩ (fun hHeld => ?_)
    generalize w98.drew = w101 at HO286 HO289 HO293 HO297 BK281 BK294 HB hHeld ⊢
    refine take_ (i := 0) (N := some 31) (v := ?_) (a' := ?_) ba10_1 rfl rfl (by kernel_rfl) (fun _ _ _ h => h) (Or.inl ⟨by rfl, ?_⟩) hHeld ?_ ?_
    rotate_left; · rintro w' ⟨s0, s1, s2, s3⟩; go_simp; with_reducible rfl
    rotate_left; · simp only [Act.put, List.setIfInBounds_toArray, List.set_cons_zero, List.set_cons_succ, i64_w, i32_w]; rfl
    refine take_ (i := 1) (N := some 32) (v := ?_) (a' := ?_) ba10_2 rfl rfl (by kernel_rfl) (fun _ _ _ h => h) (Or.inl ⟨by rfl, ?_⟩) hHeld ?_ ?_
    rotate_left; · rintro w' ⟨s0, s1, s2, s3⟩; go_simp; with_reducible rfl
    rotate_left; · simp only [Act.put, List.setIfInBounds_toArray, List.set_cons_zero, List.set_cons_succ, i64_w, i32_w]; rfl
    refine one_ (i := 2) (N := some 33) ba10_3 rfl rfl (by kernel_rfl) (by decide) (fun K hK => ?_)
    refine gz_ Try.func17 #[.agg #[.int .i64 a0_0, .slice A0_1 l0_1.length c0_1]] ?_
    with_reducible refine (laws_toGraph.calls k a0_0 _ _ l0_1 t299 t300 _ ?side1 ?side2 A14.out).mono ?_
    (case side1 => exact cb_ HR0_1 HB)
    (case side2 => exact HC0_1.out)
    rintro e w102 ⟨v301, rfl, ho0, hb⟩
    refine ⟨_, rfl, ?_⟩
    have HO302 := Aside0.mk (Kd.R_lower (Kd.R_new' (Kd.R_new' ho0 (Kd.R_lt (hd_ HO286))) (Kd.R_lt (hd_ HO293))) (bz_ HB))
    replace HO289 := Aside0.mk (Kd.S_below (by (with_reducible repeat (first | apply Kd.S_alloc | apply Kd.S_drewN | apply Kd.S_drew)); exact HO289.out) hb)
    replace HO297 := Aside0.mk (Kd.S_below (by (with_reducible repeat (first | apply Kd.S_alloc | apply Kd.S_drewN | apply Kd.S_drew)); exact HO297.out) hb)
    replace HO286 := Aside0.mk (Kd.R_elder' (hd_ HO286) (Kd.R_base ho0) hb)
    replace HO293 := Aside0.mk (Kd.R_elder' (hd_ HO293) (Kd.R_base ho0) hb)
    replace BK281 := Aside0.mk (bb_ BK281 hb)
    replace BK294 := Aside0.mk (bb_ BK294 hb)
    replace HB := Aside0.mk (bt_ HB hb)
    (try clear hb)
    (try clear hb2)
    (try clear hk)
    (try clear hi)
    (try clear ho0)
    obtain ⟨Ao103, co103, eo103⟩ := Kd.R_slice HO302.out
    (first | subst eo103 | (injection eo103 with f1_ f2_ f3_; have f4_ := f1_.symm; have f5_ := f3_.symm; clear f1_ f2_ f3_; subst f4_; subst f5_))
    refine hK.out _ _ ⟨(blk_cell BK294.out 0).trans rfl, (blk_cell BK294.out 1).trans rfl, (blk_cell BK281.out 0).trans rfl, (blk_cell BK281.out 1).trans rfl⟩ (fun hHeld => ?_)
    clear hK K
    refine nz_ 33 ?_
    refine one_ (i := 3) (N := some 34) ba10_4 rfl rfl (by kernel_rfl) (by decide) (fun K hK => ?_)
    refine gz_ Try.func20 #[.agg #[.int .i64 t290, .slice Ao97 t291.length co97], .agg #[.int .i64 t299, .slice Ao103 t300.length co103]] ?_
    with_reducible refine (laws_eqGraph.calls k t290 _ _ t291 t299 _ _ t300 false _ ?side1 ?side2 ?side3 ?side4 A15.out).mono ?_
    (case side1 => exact rc_ HO293)
    (case side2 => exact (Kd.R_reads' HO293.out).2.1)
    (case side3 => exact rc_ HO302)
    (case side4 => exact (Kd.R_reads' HO302.out).2.1)
    rintro e w104 ⟨rfl, hb⟩
    refine ⟨_, rfl, ?_⟩
    replace HO286 := rb_ HO286 hb
    replace HO289 := Aside0.mk (Kd.S_below (by (with_reducible repeat (first | apply Kd.S_alloc | apply Kd.S_drewN | apply Kd.S_drew)); exact HO289.out) hb)
    replace HO293 := rb_ HO293 hb
    replace HO297 := Aside0.mk (Kd.S_below (by (with_reducible repeat (first | apply Kd.S_alloc | apply Kd.S_drewN | apply Kd.S_drew)); exact HO297.out) hb)
    replace HO302 := rb_ HO302 hb
    replace BK281 := Aside0.mk (bb_ BK281 hb)
    replace BK294 := Aside0.mk (bb_ BK294 hb)
    replace HB := Aside0.mk (bt_ HB hb)
    (try clear hb)
    (try clear hb2)
    (try clear hk)
    (try clear hi)
    refine hK.out _ _ ⟨(blk_cell BK294.out 0).trans rfl, (blk_cell BK294.out 1).trans rfl, (blk_cell BK281.out 0).trans rfl, (blk_cell BK281.out 1).trans rfl⟩ (fun hHeld => ?_)
    clear hK K
    refine nz_ 34 ?_
    refine pure_ (i := 4) (N := some 35) (v := ?_) (a' := ?_) ba10_5 rfl rfl (by kernel_rfl) (fun _ _ _ h => h) (Or.inl ⟨by rfl, ?_⟩) ?_ ?_
    rotate_left; · intro w'; go_simp; with_reducible rfl
    rotate_left; · simp only [Act.put, List.setIfInBounds_toArray, List.set_cons_zero, List.set_cons_succ, i64_w, i32_w]; rfl
    refine done_ (by kernel_rfl) ?_
    try go_wp2
    go_ret
    exact ⟨by first | rfl | (simp [errW_none, errW_some] <;> rfl) | (simp [*, errW_none, errW_some] <;> rfl), by repeat (first | (with_reducible first | exact HB.out | apply below_alloc | apply pw_below_drewN | apply below_drew1 | refine below_set ?_ GE281.out | refine below_set ?_ GE294.out) | exact HB.out)⟩
  ·replace c13 := Bool.eq_false_iff.mpr c13
   subst c13
   rw [if_neg (show ¬ (false = true) by decide)] at H
   obtain rfl := Option.some.inj H
   go_enter Try.func14, Try.ntmps14
   go_wp2_with (first | ((with_reducible refine gate_dst (N := 2) rfl ?_); refine box_event ?hg (N := 2) ?hd (cs := #[.int .i64 a0_0, .slice A0_1 l0_1.length c0_1]) (t := 24) ?hr ?_; (case hd => rfl); (case hg => rfl); (case hr => first | (go_simp; done) | (go_simp; rfl)); intro gb281 hg w105 hbox hb; have BK281 := Aside0.mk hbox; have GW281 := ge_ HB hg; have GE281 := ge_ HB hg; replace HB := Aside0.mk (bt_ HB hb); clear hb hbox hg; have hcz106_0 := cz_ BK281 0 (.int .i64 a0_0); have hcz106_1 := cz_ BK281 1 (.slice A0_1 l0_1.length c0_1); have hfz106_0 := blk_frozen BK281.out 0; have hfz106_1 := blk_frozen BK281.out 1) | ((with_reducible refine gate_callee (f := 15) rfl ?_); refine gl_ (some 15) Try.func15 #[.agg #[.int .i64 a0_0, .slice A0_1 l0_1.length c0_1], .int .i64 1048576] ?_; (with_reducible refine (laws_szGraph.calls a0_0 _ _ l0_1 1048576 t282 _ ?side1 ?side2 A3.out).mono ?_); (case side1 => exact cb_ HR0_1 HB); (case side2 => exact HC0_1.out); rintro e w107 ⟨rfl, hb⟩; refine ⟨_, rfl, ?_⟩; replace BK281 := Aside0.mk (bb_ BK281 hb); replace HB := Aside0.mk (bt_ HB hb); (try clear hb); (try clear hb2); (try clear hk); (try clear hi); have hcz108_0 := cz_ BK281 0 (.int .i64 a0_0); have hcz108_1 := cz_ BK281 1 (.slice A0_1 l0_1.length c0_1); have hfz108_0 := blk_frozen BK281.out 0; have hfz108_1 := blk_frozen BK281.out 1) | ((with_reducible refine gate_callee (f := 17) rfl ?_); refine gl_ (some 19) Try.func17 #[.agg #[.int .i64 a0_0, .slice A0_1 l0_1.length c0_1]] ?_; (with_reducible refine (laws_toGraph.calls k a0_0 _ _ l0_1 t283 t284 _ ?side1 ?side2 A8.out).mono ?_); (case side1 => exact cb_ HR0_1 HB); (case side2 => exact HC0_1.out); rintro e w109 ⟨v285, rfl, ho0, hb⟩; refine ⟨_, rfl, ?_⟩; have HO286 := Aside0.mk (Kd.R_lower ho0 (bz_ HB)); replace BK281 := Aside0.mk (bb_ BK281 hb); replace HB := Aside0.mk (bt_ HB hb); (try clear hb); (try clear hb2); (try clear hk); (try clear hi); (try clear ho0); obtain ⟨Ao110, co110, eo110⟩ := Kd.R_slice HO286.out; subst eo110) | ((with_reducible refine gate_callee (f := 49) rfl ?_); refine gl_ (some 21) Try.func49 #[.agg #[.int .i64 t283, .slice Ao110 t284.length co110], .int .i64 a1] ?_; (with_reducible refine (spec_HopTable.calls k t283 _ _ t284 a1 t287 _ ?side1 ?side2 A9.out).mono ?_); (case side1 => exact rc_ HO286); (case side2 => exact (Kd.R_reads' HO286.out).2.1); rintro e w111 ⟨v288, rfl, ho0, hb⟩; refine ⟨_, rfl, ?_⟩; have HO289 := Aside0.mk (Kd.S_lower ho0 (bz_ HB)); replace HO286 := rb_ HO286 hb; replace BK281 := Aside0.mk (bb_ BK281 hb); replace HB := Aside0.mk (bt_ HB hb); (try clear hb); (try clear hb2); (try clear hk); (try clear hi); (try clear ho0); have hcz112_0 := cz_ BK281 0 (.int .i64 a0_0); have hcz112_1 := cz_ BK281 1 (.slice A0_1 l0_1.length c0_1); have hfz112_0 := blk_frozen BK281.out 0; have hfz112_1 := blk_frozen BK281.out 1) | ((with_reducible refine gate_callee (f := 17) rfl ?_); refine gl_ (some 23) Try.func17 #[.agg #[.int .i64 a0_0, .slice A0_1 l0_1.length c0_1]] ?_; (with_reducible refine (laws_toGraph.calls k a0_0 _ _ l0_1 t290 t291 _ ?side1 ?side2 A10.out).mono ?_); (case side1 => exact cb_ HR0_1 HB); (case side2 => exact HC0_1.out); rintro e w113 ⟨v292, rfl, ho0, hb⟩; refine ⟨_, rfl, ?_⟩; have HO293 := Aside0.mk (Kd.R_lower (Kd.R_new' ho0 (Kd.R_lt (hd_ HO286))) (bz_ HB)); replace HO289 := Aside0.mk (Kd.S_below (by (with_reducible repeat (first | apply Kd.S_alloc | apply Kd.S_drewN | apply Kd.S_drew)); exact HO289.out) hb); replace HO286 := Aside0.mk (Kd.R_elder' (hd_ HO286) (Kd.R_base ho0) hb); replace BK281 := Aside0.mk (bb_ BK281 hb); replace HB := Aside0.mk (bt_ HB hb); (try clear hb); (try clear hb2); (try clear hk); (try clear hi); (try clear ho0)) | ((with_reducible refine gate_dst (N := 7) rfl ?_); refine box_event ?hg (N := 7) ?hd (cs := #[.int .i64 0, .slice none 0 0]) (t := 30) ?hr ?_; (case hd => rfl); (case hg => rfl); (case hr => first | (go_simp; done) | (go_simp; rfl)); intro gb294 hg w114 hbox hb; have BK294 := Aside0.mk hbox; have GW294 := ge_ HB hg; have GE294 := ge_ HB hg; have NB281_294 := nl_ BK281 hg; have NB294_281 := ng_ BK281 hg; replace HO286 := rb_ HO286 hb; replace HO289 := Aside0.mk (Kd.S_below (by (with_reducible repeat (first | apply Kd.S_alloc | apply Kd.S_drewN | apply Kd.S_drew)); exact HO289.out) hb); replace HO293 := rb_ HO293 hb; replace HB := Aside0.mk (bt_ HB hb); replace BK281 := Aside0.mk (bb_ BK281 hb); clear hb hbox hg; have hnb115 := NB294_281.out; have hnc115 := NB281_294.out; have hcz116_0 := cz_ BK294 0 (.int .i64 0); have hcz116_1 := cz_ BK294 1 (.slice none 0 0); have hfz116_0 := blk_frozen BK294.out 0; have hfz116_1 := blk_frozen BK294.out 1; obtain ⟨Ao117, co117, eo117⟩ := Kd.R_slice HO293.out; subst eo117) | ((with_reducible refine gate_callee (f := 50) rfl ?_); refine gl_ (some 26) Try.func50 #[.agg #[.int .i64 t290, .slice Ao117 t291.length co117], .int .i64 a1] ?_; (with_reducible refine (impl_HopTable.calls k t290 _ _ t291 a1 t295 _ ?side1 ?side2 A11.out).mono ?_); (case side1 => refine (Kd.R_reads' (e := 67) (base := w.heap.size) (ok := fun k_ => (True ∧ some k_ ≠ (.slice Ao110 t284.length co110 : Value).ownBlock)) (n := t291.length) (c := co117) ?_).2.2; exact (hs_ HO293 BK294)); (case side2 => exact (Kd.R_reads' HO293.out).2.1); rintro e w118 ⟨v296, rfl, ho0, hb⟩; refine ⟨_, rfl, ?_⟩; obtain ⟨B_, eB_, HO297⟩ := split_ ho0 (bz_ HB); replace HO286 := rs_ HO286 BK294 hb; replace HO293 := oldR_ (hs_ HO293 BK294) hb eB_; replace HO289 := oldS_ (by (with_reducible repeat (first | apply Kd.S_alloc | apply Kd.S_drewN | apply Kd.S_drew)); exact (Kd.S_mono (Kd.S_far (p := ⟨gb294, 1, none⟩) (Kd.S_far (p := ⟨gb294, 0, none⟩) (Kd.S_types HO289.out BK294.out (by decide)) (fun _ hk => hk.2) (.int .i64 t290)) (fun _ hk => hk.2) (.slice Ao117 t291.length co117)) (fun _ h_ => h_.1))) hb eB_; have hl281_ : gb281 < B_ := (by rw [eB_]; exact bg_ BK281 NB281_294); replace BK281 := bf_ BK281 NB281_294 hb; have hl294_ : gb294 < B_ := (by rw [eB_]; exact blk_lt (g := gb294) (o := .cells #[.int .i64 t290, .slice Ao117 t291.length co117] 30 (0, 0)) (by (with_reducible repeat (first | refine blk_drewN ?_ _ | refine blk_drew ?_ | refine blk_alloc ?_ _)); refine blk_put (cs := #[.int .i64 t290, .slice none 0 0]) ?_ 1 _ rfl; (with_reducible repeat (first | refine blk_drewN ?_ _ | refine blk_drew ?_ | refine blk_alloc ?_ _)); refine blk_put (cs := #[.int .i64 0, .slice none 0 0]) ?_ 0 _ rfl; (with_reducible repeat (first | refine blk_drewN ?_ _ | refine blk_drew ?_ | refine blk_alloc ?_ _)); exact BK294.out)); replace BK294 := Aside0.mk (blk_below (g := gb294) (o := .cells #[.int .i64 t290, .slice Ao117 t291.length co117] 30 (0, 0)) (by (with_reducible repeat (first | refine blk_drewN ?_ _ | refine blk_drew ?_ | refine blk_alloc ?_ _)); refine blk_put (cs := #[.int .i64 t290, .slice none 0 0]) ?_ 1 _ rfl; (with_reducible repeat (first | refine blk_drewN ?_ _ | refine blk_drew ?_ | refine blk_alloc ?_ _)); refine blk_put (cs := #[.int .i64 0, .slice none 0 0]) ?_ 0 _ rfl; (with_reducible repeat (first | refine blk_drewN ?_ _ | refine blk_drew ?_ | refine blk_alloc ?_ _)); exact BK294.out) hb); replace HB := Aside0.mk (bt_ HB hb); (try clear hb); (try clear hb2); (try clear hk); (try clear hi); (try clear ho0); obtain ⟨Ao119, co119, eo119⟩ := Kd.S_slice HO297.out; subst eo119; obtain ⟨Ao120, co120, eo120⟩ := Kd.S_slice HO289.out; subst eo120) | ((with_reducible refine gate_callee (f := 36) rfl ?_); refine gl_ (some 29) Try.func36 #[.slice Ao119 t295.length co119, .slice Ao120 t287.length co120] ?_; (with_reducible refine (laws_eqIntSS.calls k _ _ t295 _ _ t287 false _ ?side1 ?side2 ?side3 ?side4 A12.out).mono ?_); (case side1 => repeat (first | exact (Kd.S_reads' HO297.out).2.2 | (with_reducible refine Kd.C_alloc ?_ _) | (with_reducible refine Kd.C_drewN ?_ _) | (with_reducible refine Kd.C_drew ?_))); (case side2 => exact (Kd.S_reads' HO297.out).2.1); (case side3 => repeat (first | exact (Kd.S_reads' HO289.out).2.2 | (with_reducible refine Kd.C_alloc ?_ _) | (with_reducible refine Kd.C_drewN ?_ _) | (with_reducible refine Kd.C_drew ?_))); (case side4 => exact (Kd.S_reads' HO289.out).2.1); rintro e w' ⟨rfl, ⟨nd, rfl⟩⟩; refine ⟨_, rfl, ?_⟩))
   go_ret
   exact ⟨by first | rfl | (simp [errW_none, errW_some] <;> rfl) | (simp [*, errW_none, errW_some] <;> rfl), by repeat (first | (with_reducible first | exact HB.out | apply below_alloc | apply pw_below_drewN | apply below_drew1 | refine below_set ?_ GE281.out | refine below_set ?_ GE294.out) | exact HB.out)⟩

end Go.Proofs.Yteopiggdpadolaa.QFnExactHopTable
