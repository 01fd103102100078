/- Contracts of functions that the law reaches: what each call returns and what it leaves in memory. Made by this session over the print of the kit. -/
import Derived.Test.YtjepabdgmholjaaQFnExactTableSpansx0
import Derived.Test.YtjepabdgmholjaaQFnExactTableSpansx1
import Derived.Test.YtjepabdgmholjaaQFnExactTableSpansx2
import Derived.Test.YtjepabdgmholjaaQFnExactTableSpansx4
import Derived.Test.YtjepabdgmholjaaQFnExactTableSpansx12
namespace Go.Proofs.Ytjepabdgmholjaa.QFnExactTableSpans
open Go.RowKit Go.Proofs.YtjepabdgmholjaaU.PrintWords Go.Proofs.YtjepabdgmholjaaU.PrintLast Go.Proofs.YtjepabdgmholjaaU.PrintMore
attribute [local go_sem] max2_int min2_int max_two min_two max_three min_three max_four min_four   -- for this text's walks alone
set_option linter.unusedVariables false
set_option linter.unusedSimpArgs false
def ba13_0 : Array Bool := #[false, false, false, false, false]
def ba13_1 : Array Bool := #[true, false, false, false, false]
def ba13_2 : Array Bool := #[true, true, false, false, false]
def ba13_3 : Array Bool := #[true, true, true, false, false]
def ba13_4 : Array Bool := #[true, true, true, true, false]
def ba13_5 : Array Bool := #[true, true, true, true, true]

/-! ### laws_FnExactTableSpans: function 9 -/
def laws_FnExactTableSpans.j0 : Nat → List Int → List Int → Bool → List (S46) → Option (Bool)
 | 0, _, _, _, _ => none
 | k + 1, x4, x6, x42, x276000 => if x42 = true then (some false) else ((laws_markIntS.f k x6 1).bind fun bt298 => ((laws_heldIntS.f k bt298.2 1).bind fun t300 => (if t300 < 0 then (some false) else (if t300 = bt298.1 then ((laws_toTable.f k x276000).bind fun t301 => ((impl_TableSpans.f k t301).bind fun t304 => ((laws_eqIntS.f k t304 x4).bind fun t307 => (if t307 = true then ((laws_heldIntS.f k bt298.2 1).bind fun t308 => (if t308 < 0 then (some false) else (if t308 = bt298.1 then (some true) else (some false)))) else (some false))))) else (some false)))))
def laws_FnExactTableSpans.f (k : Nat) (l0_0 : List (S46)) : Option (Bool) := (laws_szTable.f l0_0 1048576).bind fun t276 => (if t276 < 0 then (some true) else ((laws_toTable.f k l0_0).bind fun t277 => ((spec_TableSpans.f k t277).bind fun t280 => ((laws_toTable.f k l0_0).bind fun t283 => ((impl_TableSpans.f k t283).bind fun t287 => ((laws_eqIntS.f k t287 t280).bind fun t290 => (if t290 = true then ((laws_toTable.f k l0_0).bind fun t291 => ((laws_eqTable.f k t283 t291).bind fun t294 => (if t294 = true then ((laws_markTable.f k t283 1).bind fun bt295 => (if bt295.1 < 0 then (laws_FnExactTableSpans.j0 k t280 t287 true l0_0) else ((laws_eqIntS.f k t287 t280).bind fun t297 => (laws_FnExactTableSpans.j0 k t280 t287 (!t297) l0_0)))) else (some false)))) else (some false))))))))
theorem laws_FnExactTableSpans.mono_l : ∀ k, (∀ y0 y1 y2 y3, LeO (laws_FnExactTableSpans.j0 k y0 y1 y2 y3) (laws_FnExactTableSpans.j0 (k + 1) y0 y1 y2 y3))
 | 0 => fun _ _ _ _ r h => by simp [laws_FnExactTableSpans.j0] at h
 | k + 1 => by
  have ih0 := laws_FnExactTableSpans.mono_l k
  ·intro y0 y1 y2 y3
   unfold laws_FnExactTableSpans.j0
   repeat' first
   | (with_reducible exact ih0 _ _ _ _)
   | (with_reducible exact impl_TableSpans.mono _ _)
   | (with_reducible exact laws_eqIntS.mono _ _ _)
   | (with_reducible exact laws_eqTable.mono _ _ _)
   | (with_reducible exact laws_heldIntS.mono _ _ _)
   | (with_reducible exact laws_markIntS.mono _ _ _)
   | (with_reducible exact laws_markTable.mono _ _ _)
   | (with_reducible exact laws_toTable.mono _ _)
   | (with_reducible exact spec_TableSpans.mono _ _)
   | (with_reducible exact LeO.refl _)
   | (with_reducible exact LeO.none _)
   | (with_reducible refine LeO.ite ?_ ?_)
   | (with_reducible refine LeO.bind ?_ (fun _ => ?_))
   | exact ih0 _ _ _ _
   | exact impl_TableSpans.mono _ _
   | exact laws_eqIntS.mono _ _ _
   | exact laws_eqTable.mono _ _ _
   | exact laws_heldIntS.mono _ _ _
   | exact laws_markIntS.mono _ _ _
   | exact laws_markTable.mono _ _ _
   | exact laws_toTable.mono _ _
   | exact spec_TableSpans.mono _ _
   | exact LeO.none _
   | refine LeO.ite ?_ ?_
   | refine LeO.bind ?_ (fun _ => ?_)
theorem laws_FnExactTableSpans.mono : ∀ a0 k, LeO (laws_FnExactTableSpans.f k a0) (laws_FnExactTableSpans.f (k + 1) a0) := by
 intro a0 k
 have ih0 := laws_FnExactTableSpans.mono_l k
 unfold laws_FnExactTableSpans.f
 repeat' first
   | (with_reducible exact ih0 _ _ _ _)
   | (with_reducible exact impl_TableSpans.mono _ _)
   | (with_reducible exact laws_eqIntS.mono _ _ _)
   | (with_reducible exact laws_eqTable.mono _ _ _)
   | (with_reducible exact laws_heldIntS.mono _ _ _)
   | (with_reducible exact laws_markIntS.mono _ _ _)
   | (with_reducible exact laws_markTable.mono _ _ _)
   | (with_reducible exact laws_toTable.mono _ _)
   | (with_reducible exact spec_TableSpans.mono _ _)
   | (with_reducible exact LeO.refl _)
   | (with_reducible exact LeO.none _)
   | (with_reducible refine LeO.ite ?_ ?_)
   | (with_reducible refine LeO.bind ?_ (fun _ => ?_))
   | exact ih0 _ _ _ _
   | exact impl_TableSpans.mono _ _
   | exact laws_eqIntS.mono _ _ _
   | exact laws_eqTable.mono _ _ _
   | exact laws_heldIntS.mono _ _ _
   | exact laws_markIntS.mono _ _ _
   | exact laws_markTable.mono _ _ _
   | exact laws_toTable.mono _ _
   | exact spec_TableSpans.mono _ _
   | exact LeO.none _
   | refine LeO.ite ?_ ?_
   | refine LeO.bind ?_ (fun _ => ?_)
set_option maxHeartbeats 8000000 in
set_option maxRecDepth 100000 in
theorem laws_FnExactTableSpans.calls (k : Nat) (A0_0 : Option Addr) (c0_0 : Nat) (l0_0 : List (S46)) (r : Bool) (w : World) (hr0_0 : Kd.C k46 w A0_0 l0_0.length l0_0) (hc0_0 : l0_0.length ≤ c0_0) (h : laws_FnExactTableSpans.f k l0_0 = some r) :
  Calls Try.prog 9 #[.agg #[.slice A0_0 l0_0.length c0_0]] w fun e w' => e = .returned (.bool r) ∧ Below w.heap.size w w' := by
 have hu24 := Try.underlying24
 have hu34 := Try.underlying34
 have HR0_0 := Aside0.mk hr0_0
 have HC0_0 := Aside0.mk hc0_0
 clear hr0_0 hc0_0
 have HB := Aside0.mk (Below.refl w.heap.size w)
 have H : ((laws_szTable.f l0_0 1048576).bind fun t276 => (if t276 < 0 then (some true) else ((laws_toTable.f k l0_0).bind fun t277 => ((spec_TableSpans.f k t277).bind fun t280 => ((laws_toTable.f k l0_0).bind fun t283 => ((impl_TableSpans.f k t283).bind fun t287 => ((laws_eqIntS.f k t287 t280).bind fun t290 => (if t290 = true then ((laws_toTable.f k l0_0).bind fun t291 => ((laws_eqTable.f k t283 t291).bind fun t294 => (if t294 = true then ((laws_markTable.f k t283 1).bind fun bt295 => (if bt295.1 < 0 then (laws_FnExactTableSpans.j0 k t280 t287 true l0_0) else ((laws_eqIntS.f k t287 t280).bind fun t297 => (laws_FnExactTableSpans.j0 k t280 t287 (!t297) l0_0)))) else (some false)))) else (some false))))))))) = some r := h
 clear h
 replace H := Option.bind_eq_some_iff.mp H
 obtain ⟨t276, A20, H⟩ := H
 have A2 := Aside0.mk A20
 clear A20
 by_cases c3 : t276 < 0
 ·rw [if_pos c3] at H
  have c3b0 : decide (t276 < 0) = true := decide_eq_true c3
  clear c3
  obtain rfl := Option.some.inj H
  go_enter Try.func9, Try.ntmps9
  go_wp2_with (first | ((with_reducible refine gate_dst (N := 1) rfl ?_); refine box_event ?hg (N := 1) ?hd (cs := #[.slice A0_0 l0_0.length c0_0]) (t := 24) ?hr ?_; (case hd => rfl); (case hg => rfl); (case hr => first | (go_simp; done) | (go_simp; rfl)); intro gb275 hg w4 hbox hb; have BK275 := Aside0.mk hbox; have GW275 := ge_ HB hg; have GE275 := ge_ HB hg; replace HB := Aside0.mk (bt_ HB hb); clear hb hbox hg; have hcz5_0 := cz_ BK275 0 (.slice A0_0 l0_0.length c0_0); have hfz5_0 := blk_frozen BK275.out 0) | ((with_reducible refine gate_callee (f := 12) rfl ?_); refine gl_ (some 13) Try.func12 #[.agg #[.slice A0_0 l0_0.length c0_0], .int .i64 1048576] ?_; (with_reducible refine (laws_szTable.calls _ _ l0_0 1048576 t276 _ ?side1 ?side2 A2.out).mono ?_); (case side1 => exact cb_ HR0_0 HB); (case side2 => exact HC0_0.out); rintro e w6 ⟨rfl, hb⟩; refine ⟨_, rfl, ?_⟩; replace BK275 := Aside0.mk (bb_ BK275 hb); replace HB := Aside0.mk (bt_ HB hb); (try clear hb); (try clear hb2); (try clear hk); (try clear hi)))
  go_ret
  exact ⟨by first | rfl | (simp [errW_none, errW_some] <;> rfl) | (simp [*, errW_none, errW_some] <;> rfl), by repeat (first | (with_reducible first | exact HB.out | apply below_alloc | apply pw_below_drewN | apply below_drew1 | refine below_set ?_ GE275.out) | exact HB.out)⟩
 ·rw [if_neg c3] at H
  have c3b0 : decide (t276 < 0) = false := decide_eq_false c3
  clear c3
  replace H := Option.bind_eq_some_iff.mp H
  obtain ⟨t277, A70, H⟩ := H
  have A7 := Aside0.mk A70
  clear A70
  replace H := Option.bind_eq_some_iff.mp H
  obtain ⟨t280, A80, H⟩ := H
  have A8 := Aside0.mk A80
  clear A80
  replace H := Option.bind_eq_some_iff.mp H
  obtain ⟨t283, A90, H⟩ := H
  have A9 := Aside0.mk A90
  clear A90
  replace H := Option.bind_eq_some_iff.mp H
  obtain ⟨t287, A100, H⟩ := H
  have A10 := Aside0.mk A100
  clear A100
  replace H := Option.bind_eq_some_iff.mp H
  obtain ⟨t290, A110, H⟩ := H
  have A11 := Aside0.mk A110
  clear A110
  by_cases c12 : t290 = true
  ·subst c12
   rw [if_pos rfl] at H
   replace H := Option.bind_eq_some_iff.mp H
   obtain ⟨t291, A130, H⟩ := H
   have A13 := Aside0.mk A130
   clear A130
   replace H := Option.bind_eq_some_iff.mp H
   obtain ⟨t294, A140, H⟩ := H
   have A14 := Aside0.mk A140
   clear A140
   by_cases c15 : t294 = true
   ·subst c15
    rw [if_pos rfl] at H
    replace H := Option.bind_eq_some_iff.mp H
    obtain ⟨⟨t295, t296⟩, A160, H⟩ := H
    have A16 := Aside0.mk A160
    clear A160
    have HC17 := Aside0.mk H
    clear H
    go_enter Try.func9, Try.ntmps9
    try go_wp2_with (first | ((with_reducible refine gate_dst (N := 1) rfl ?_); refine box_event ?hg (N := 1) ?hd (cs := #[.slice A0_0 l0_0.length c0_0]) (t := 24) ?hr ?_; (case hd => rfl); (case hg => rfl); (case hr => first | (go_simp; done) | (go_simp; rfl)); intro gb275 hg w18 hbox hb; have BK275 := Aside0.mk hbox; have GW275 := ge_ HB hg; have GE275 := ge_ HB hg; replace HB := Aside0.mk (bt_ HB hb); clear hb hbox hg; have hcz19_0 := cz_ BK275 0 (.slice A0_0 l0_0.length c0_0); have hfz19_0 := blk_frozen BK275.out 0) | ((with_reducible refine gate_callee (f := 12) rfl ?_); refine gl_ (some 13) Try.func12 #[.agg #[.slice A0_0 l0_0.length c0_0], .int .i64 1048576] ?_; (with_reducible refine (laws_szTable.calls _ _ l0_0 1048576 t276 _ ?side1 ?side2 A2.out).mono ?_); (case side1 => exact cb_ HR0_0 HB); (case side2 => exact HC0_0.out); rintro e w20 ⟨rfl, hb⟩; refine ⟨_, rfl, ?_⟩; replace BK275 := Aside0.mk (bb_ BK275 hb); replace HB := Aside0.mk (bt_ HB hb); (try clear hb); (try clear hb2); (try clear hk); (try clear hi); have hcz21_0 := cz_ BK275 0 (.slice A0_0 l0_0.length c0_0); have hfz21_0 := blk_frozen BK275.out 0) | ((with_reducible refine gate_callee (f := 14) rfl ?_); refine gl_ (some 17) Try.func14 #[.agg #[.slice A0_0 l0_0.length c0_0]] ?_; (with_reducible refine (laws_toTable.calls k _ _ l0_0 t277 _ ?side1 ?side2 A7.out).mono ?_); (case side1 => exact cb_ HR0_0 HB); (case side2 => exact HC0_0.out); rintro e w22 ⟨v278, rfl, ho0, hb⟩; refine ⟨_, rfl, ?_⟩; have HO279 := Aside0.mk (Kd.R_lower ho0 (bz_ HB)); replace BK275 := Aside0.mk (bb_ BK275 hb); replace HB := Aside0.mk (bt_ HB hb); (try clear hb); (try clear hb2); (try clear hk); (try clear hi); (try clear ho0); obtain ⟨Ao23, co23, eo23⟩ := Kd.R_slice HO279.out; subst eo23) | ((with_reducible refine gate_callee (f := 32) rfl ?_); refine gl_ (some 18) Try.func32 #[.agg #[.slice Ao23 t277.length co23]] ?_; (with_reducible refine (spec_TableSpans.calls k _ _ t277 t280 _ ?side1 ?side2 A8.out).mono ?_); (case side1 => exact rc_ HO279); (case side2 => exact (Kd.R_reads' HO279.out).2.1); rintro e w24 ⟨v281, rfl, ho0, hb⟩; refine ⟨_, rfl, ?_⟩; have HO282 := Aside0.mk (Kd.R_lower ho0 (bz_ HB)); replace HO279 := rb_ HO279 hb; replace BK275 := Aside0.mk (bb_ BK275 hb); replace HB := Aside0.mk (bt_ HB hb); (try clear hb); (try clear hb2); (try clear hk); (try clear hi); (try clear ho0); have hcz25_0 := cz_ BK275 0 (.slice A0_0 l0_0.length c0_0); have hfz25_0 := blk_frozen BK275.out 0) | ((with_reducible refine gate_callee (f := 14) rfl ?_); refine gl_ (some 20) Try.func14 #[.agg #[.slice A0_0 l0_0.length c0_0]] ?_; (with_reducible refine (laws_toTable.calls k _ _ l0_0 t283 _ ?side1 ?side2 A9.out).mono ?_); (case side1 => exact cb_ HR0_0 HB); (case side2 => exact HC0_0.out); rintro e w26 ⟨v284, rfl, ho0, hb⟩; refine ⟨_, rfl, ?_⟩; have HO285 := Aside0.mk (Kd.R_lower (Kd.R_new' ho0 (Kd.R_lt (hd_ HO279))) (bz_ HB)); replace HO282 := rb_ HO282 hb; replace HO279 := Aside0.mk (Kd.R_elder' (hd_ HO279) (Kd.R_base ho0) hb); replace BK275 := Aside0.mk (bb_ BK275 hb); replace HB := Aside0.mk (bt_ HB hb); (try clear hb); (try clear hb2); (try clear hk); (try clear hi); (try clear ho0)) | ((with_reducible refine gate_dst (N := 5) rfl ?_); refine box_event ?hg (N := 5) ?hd (cs := #[.slice none 0 0]) (t := 34) ?hr ?_; (case hd => rfl); (case hg => rfl); (case hr => first | (go_simp; done) | (go_simp; rfl)); intro gb286 hg w27 hbox hb; have BK286 := Aside0.mk hbox; have GW286 := ge_ HB hg; have GE286 := ge_ HB hg; have NB275_286 := nl_ BK275 hg; have NB286_275 := ng_ BK275 hg; replace HO279 := rb_ HO279 hb; replace HO282 := rb_ HO282 hb; replace HO285 := rb_ HO285 hb; replace HB := Aside0.mk (bt_ HB hb); replace BK275 := Aside0.mk (bb_ BK275 hb); clear hb hbox hg; obtain ⟨Ao28, co28, eo28⟩ := Kd.R_slice HO285.out; subst eo28; have hnb29 := NB286_275.out; have hnc29 := NB275_286.out; have hcz30_0 := cz_ BK286 0 (.slice none 0 0); have hfz30_0 := blk_frozen BK286.out 0) | ((with_reducible refine gate_callee (f := 33) rfl ?_); refine gl_ (some 22) Try.func33 #[.agg #[.slice Ao28 t283.length co28]] ?_; (with_reducible refine (impl_TableSpans.calls k _ _ t283 t287 _ ?side1 ?side2 A10.out).mono ?_); (case side1 => refine (Kd.R_reads' (e := 29) (base := w.heap.size) (ok := fun k_ => (True ∧ some k_ ≠ (.slice Ao23 t277.length co23 : Value).ownBlock)) (n := t283.length) (c := co28) ?_).2.2; exact (hs_ HO285 BK286)); (case side2 => exact (Kd.R_reads' HO285.out).2.1); rintro e w31 ⟨v288, rfl, ho0, hb⟩; refine ⟨_, rfl, ?_⟩; have HO289 := Aside0.mk (Kd.R_lower (Kd.R_new' ho0 (Kd.R_lt (hs_ HO282 BK286))) (bz_ HB)); replace HO279 := rs_ HO279 BK286 hb; replace HO285 := rs_ HO285 BK286 hb; replace HO282 := Aside0.mk (Kd.R_elder' (hs_ HO282 BK286) (Kd.R_base ho0) hb); replace BK275 := bf_ BK275 NB275_286 hb; replace BK286 := Aside0.mk (blk_below (g := gb286) (o := .cells #[.slice Ao28 t283.length co28] 34 (0, 0)) (by (with_reducible repeat (first | refine blk_drewN ?_ _ | refine blk_drew ?_ | refine blk_alloc ?_ _)); refine blk_put (cs := #[.slice none 0 0]) ?_ 0 _ rfl; (with_reducible repeat (first | refine blk_drewN ?_ _ | refine blk_drew ?_ | refine blk_alloc ?_ _)); exact BK286.out) hb); replace HB := Aside0.mk (bt_ HB hb); (try clear hb); (try clear hb2); (try clear hk); (try clear hi); (try clear ho0); obtain ⟨Ao32, co32, eo32⟩ := Kd.R_slice HO289.out; subst eo32; obtain ⟨Ao33, co33, eo33⟩ := Kd.R_slice HO282.out; subst eo33) | ((with_reducible refine gate_callee (f := 34) rfl ?_); refine gl_ (some 25) Try.func34 #[.slice Ao32 t287.length co32, .slice Ao33 t280.length co33] ?_; (with_reducible refine (laws_eqIntS.calls k _ _ t287 _ _ t280 true _ ?side1 ?side2 ?side3 ?side4 A11.out).mono ?_); (case side1 => exact rc_ HO289); (case side2 => exact (Kd.R_reads' HO289.out).2.1); (case side3 => exact rc_ HO282); (case side4 => exact (Kd.R_reads' HO282.out).2.1); rintro e w' ⟨rfl, ⟨nd, rfl⟩⟩; refine ⟨_, rfl, ?_⟩))
    (try (rw [drewN_self w31]; generalize hq_ : World.drewN w31 _ = w31; replace HO279 : Aside0 (Kd.R k29 29 w31 w.heap.size (fun k_ => some k_ ≠ (.slice Ao28 t283.length co28 : Value).ownBlock) (.slice Ao23 t277.length co23) t277) := ⟨by rw [← hq_]; exact (by (with_reducible repeat (first | apply Kd.R_alloc | apply Kd.R_drewN | apply Kd.R_drew)); exact Kd.R_mono HO279.out (fun _ hk => hk.2))⟩; replace HO282 : Aside0 (Kd.R (Kd.int .i64) 3 w31 w.heap.size (fun k_ => some k_ ≠ (.slice Ao32 t287.length co32 : Value).ownBlock) (.slice Ao33 t280.length co33) t280) := ⟨by rw [← hq_]; exact (by (with_reducible repeat (first | apply Kd.R_alloc | apply Kd.R_drewN | apply Kd.R_drew)); exact Kd.R_mono HO282.out (fun _ hk => hk.2))⟩; replace HO285 : Aside0 (Kd.R k29 29 w31 w.heap.size (fun k_ => some k_ ≠ (.slice Ao23 t277.length co23 : Value).ownBlock) (.slice Ao28 t283.length co28) t283) := ⟨by rw [← hq_]; exact (by (with_reducible repeat (first | apply Kd.R_alloc | apply Kd.R_drewN | apply Kd.R_drew)); exact Kd.R_mono HO285.out (fun _ hk => hk.2))⟩; replace HO289 : Aside0 (Kd.R (Kd.int .i64) 3 w31 w.heap.size (fun k_ => some k_ ≠ (.slice Ao33 t280.length co33 : Value).ownBlock) (.slice Ao32 t287.length co32) t287) := ⟨by rw [← hq_]; exact (by (with_reducible repeat (first | apply Kd.R_alloc | apply Kd.R_drewN | apply Kd.R_drew)); exact Kd.R_mono HO289.out (fun _ hk => hk.2))⟩; replace BK275 : Aside0 (w31.heap[gb275]? = some (.cells #[.slice A0_0 l0_0.length c0_0] 24 (0, 0))) := ⟨by rw [← hq_]; exact (by (with_reducible repeat (first | refine blk_drewN ?_ _ | refine blk_drew ?_ | refine blk_alloc ?_ _)); exact BK275.out)⟩; replace BK286 : Aside0 (w31.heap[gb286]? = some (.cells #[.slice Ao28 t283.length co28] 34 (0, 0))) := ⟨by rw [← hq_]; exact (by (with_reducible repeat (first | refine blk_drewN ?_ _ | refine blk_drew ?_ | refine blk_alloc ?_ _)); exact BK286.out)⟩; replace HB : Aside0 (Below w.heap.size w w31) := ⟨by rw [← hq_]; exact (by repeat (first | (with_reducible first | exact HB.out | apply below_alloc | apply pw_below_drewN | apply below_drew1 | refine below_set ?_ GE275.out | refine below_set ?_ GE286.out) | exact HB.out))⟩; clear hq_))
    replace HO279 := Aside0.mk (Kd.R_drew HO279.out)
    replace HO282 := Aside0.mk (Kd.R_drew HO282.out)
    replace HO285 := Aside0.mk (Kd.R_drew HO285.out)
    replace HO289 := Aside0.mk (Kd.R_drew HO289.out)
    replace BK275 := Aside0.mk (blk_drew BK275.out)
    replace BK286 := Aside0.mk (blk_drew BK286.out)
    replace HB := Aside0.mk (below_drew1 HB.out)
    refine start_ (n := 5) (S := fun w' => w'.cell? ⟨gb286, 0, none⟩ = some (.slice Ao28 t283.length co28) ∧ w'.cell? ⟨gb275, 0, none⟩ = some (.slice A0_0 l0_0.length c0_0)) (ds := []) ba13_0 (by kernel_rfl) rfl rfl ⟨(blk_cell BK286.out 0).trans rfl, (blk_cell BK275.out 0).trans rfl⟩ (fun hHeld => ?_)
    generalize w31.drew = w34 at HO279 HO282 HO285 HO289 BK275 BK286 HB hHeld ⊢
    refine take_ (i := 0) (N := some 27) (v := ?_) (a' := ?_) ba13_1 rfl rfl (by kernel_rfl) (fun _ _ _ h => h) (Or.inl ⟨by rfl, ?_⟩) hHeld ?_ ?_
    rotate_left; · rintro w' ⟨s0, s1⟩; go_simp; with_reducible rfl
    rotate_left; · simp only [Act.put, List.setIfInBounds_toArray, List.set_cons_zero, List.set_cons_succ, i64_w, i32_w]; rfl
    refine take_ (i := 1) (N := some 28) (v := ?_) (a' := ?_) ba13_2 rfl rfl (by kernel_rfl) (fun _ _ _ h => h) (Or.inl ⟨by rfl, ?_⟩) hHeld ?_ ?_
    rotate_left; · rintro w' ⟨s0, s1⟩; go_simp; with_reducible rfl
    rotate_left; · simp only [Act.put, List.setIfInBounds_toArray, List.set_cons_zero, List.set_cons_succ, i64_w, i32_w]; rfl
    refine one_ (i := 2) (N := some 29) ba13_3 rfl rfl (by kernel_rfl) (by decide) (fun K hK => ?_)
    refine gz_ Try.func14 #[.agg #[.slice A0_0 l0_0.length c0_0]] ?_
    with_reducible refine (laws_toTable.calls k _ _ l0_0 t291 _ ?side1 ?side2 A13.out).mono ?_
    (case side1 => exact cb_ HR0_0 HB)
    (case side2 => exact HC0_0.out)
    rintro e w35 ⟨v292, rfl, ho0, hb⟩
    refine ⟨_, rfl, ?_⟩
    have HO293 := Aside0.mk (Kd.R_lower (Kd.R_new' (Kd.R_new' ho0 (Kd.R_lt (hd_ HO279))) (Kd.R_lt (hd_ HO285))) (bz_ HB))
    replace HO282 := rb_ HO282 hb
    replace HO289 := rb_ HO289 hb
    replace HO279 := Aside0.mk (Kd.R_elder' (hd_ HO279) (Kd.R_base ho0) hb)
    replace HO285 := Aside0.mk (Kd.R_elder' (hd_ HO285) (Kd.R_base ho0) hb)
    replace BK275 := Aside0.mk (bb_ BK275 hb)
    replace BK286 := Aside0.mk (bb_ BK286 hb)
    replace HB := Aside0.mk (bt_ HB hb)
    (try clear hb)
    (try clear hb2)
    (try clear hk)
    (try clear hi)
    (try clear ho0)
    obtain ⟨Ao36, co36, eo36⟩ := Kd.R_slice HO293.out
    (first | subst eo36 | (injection eo36 with f1_ f2_ f3_; have f4_ := f1_.symm; have f5_ := f3_.symm; clear f1_ f2_ f3_; subst f4_; subst f5_))
    refine hK.out _ _ ⟨(blk_cell BK286.out 0).trans rfl, (blk_cell BK275.out 0).trans rfl⟩ (fun hHeld => ?_)
    clear hK K
    refine nz_ 29 ?_
    refine one_ (i := 3) (N := some 30) ba13_4 rfl rfl (by kernel_rfl) (by decide) (fun K hK => ?_)
    refine gz_ Try.func17 #[.agg #[.slice Ao28 t283.length co28], .agg #[.slice Ao36 t291.length co36]] ?_
    with_reducible refine (laws_eqTable.calls k _ _ t283 _ _ t291 true _ ?side1 ?side2 ?side3 ?side4 A14.out).mono ?_
    (case side1 => exact rc_ HO285)
    (case side2 => exact (Kd.R_reads' HO285.out).2.1)
    (case side3 => exact rc_ HO293)
    (case side4 => exact (Kd.R_reads' HO293.out).2.1)
    rintro e w37 ⟨rfl, hb⟩
    refine ⟨_, rfl, ?_⟩
    replace HO279 := rb_ HO279 hb
    replace HO282 := rb_ HO282 hb
    replace HO285 := rb_ HO285 hb
    replace HO289 := rb_ HO289 hb
    replace HO293 := rb_ HO293 hb
    replace BK275 := Aside0.mk (bb_ BK275 hb)
    replace BK286 := Aside0.mk (bb_ BK286 hb)
    replace HB := Aside0.mk (bt_ HB hb)
    (try clear hb)
    (try clear hb2)
    (try clear hk)
    (try clear hi)
    refine hK.out _ _ ⟨(blk_cell BK286.out 0).trans rfl, (blk_cell BK275.out 0).trans rfl⟩ (fun hHeld => ?_)
    clear hK K
    refine nz_ 30 ?_
    refine pure_ (i := 4) (N := some 31) (v := ?_) (a' := ?_) ba13_5 rfl rfl (by kernel_rfl) (fun _ _ _ h => h) (Or.inl ⟨by rfl, ?_⟩) ?_ ?_
    rotate_left; · intro w'; go_simp; with_reducible rfl
    rotate_left; · simp only [Act.put, List.setIfInBounds_toArray, List.set_cons_zero, List.set_cons_succ, i64_w, i32_w]; rfl
    refine done_ (by kernel_rfl) ?_
    have hcz38_0 := cz_ BK286 0 (.slice Ao28 t283.length co28)
    have hfz38_0 := blk_frozen BK286.out 0
    go_upto_region 14 with (first | ((with_reducible refine gate_callee (f := 23) rfl ?_); refine gl_ (some 34) Try.func23 #[.agg #[.slice Ao28 t283.length co28], .int .i64 1] ?_; (with_reducible refine (laws_markTable.calls k (fun k_ => some k_ = (.slice Ao28 t283.length co28 : Value).ownBlock) (.slice Ao28 t283.length co28) t283 1 t295 t296 w _ ?side1 ?side2 A16.out).mono ?_); (case side1 => exact by_ HB); (case side2 => exact Kd.R_tight rfl HO285.out); rintro e w39 ⟨rfl, hy0, hb, hkp⟩; refine ⟨_, rfl, ?_⟩; replace BK275 := bk_ BK275 hkp (fun hs_ => (Kd.R_ne HO285.out BK275.out (by decide)) hs_); replace HO279 := kp_ (fun k_ => some k_ ≠ (.slice Ao28 t283.length co28 : Value).ownBlock ∧ some k_ ≠ (.slice Ao36 t291.length co36 : Value).ownBlock) (HO279.out) hkp; replace HO282 := kp_ (fun k_ => some k_ ≠ (.slice Ao32 t287.length co32 : Value).ownBlock) ((Kd.R_apart' HO282.out (Kd.R_typed HO285.out) (by decide))) hkp; replace BK286 := bk_ BK286 hkp (fun hs_ => (Kd.R_ne HO285.out BK286.out (by decide)) hs_); replace HO289 := kp_ (fun k_ => some k_ ≠ (.slice Ao33 t280.length co33 : Value).ownBlock) ((Kd.R_apart' HO289.out (Kd.R_typed HO285.out) (by decide))) hkp; replace HO285 := Aside0.mk (Kd.R_reok rfl hy0 (fun k_ e_ => HO285.out.1 k_ e_)); replace HO293 := kp_ (fun k_ => some k_ ≠ (.slice Ao23 t277.length co23 : Value).ownBlock ∧ some k_ ≠ (.slice Ao28 t283.length co28 : Value).ownBlock) (HO293.out) hkp; replace HB := Aside0.mk (hb); (try clear hb); (try clear hkp); (try clear hy0)))
    (try simp only [Act.put, List.setIfInBounds_toArray, List.set_cons_zero, List.set_cons_succ])
    go_cut [42] (fun v42 wc => ∃ (kq : Nat) (x42_16 : Bool), v42 = .bool x42_16 ∧ Aside0 (laws_FnExactTableSpans.j0 kq t280 t287 x42_16 l0_0 = some r) ∧ Aside0 (kq ≤ k) ∧ Aside0 (Kd.R (Kd.int .i64) 3 wc w.heap.size (fun k_ => some k_ ≠ ((.slice Ao32 t287.length co32) : Value).ownBlock) (.slice Ao33 t280.length co33) t280) ∧ Aside0 (Kd.R (Kd.int .i64) 3 wc w.heap.size (fun k_ => some k_ ≠ ((.slice Ao33 t280.length co33) : Value).ownBlock) (.slice Ao32 t287.length co32) t287) ∧ Aside0 (Kd.R k29 29 wc w.heap.size (fun _ => True) (.slice Ao28 t283.length co28) t296) ∧ Aside0 (wc.heap[gb275]? = some (.cells #[(.slice A0_0 l0_0.length c0_0)] 24 (0, 0))) ∧ Aside0 (wc.heap[gb286]? = some (.cells #[(.slice Ao28 t283.length co28)] 34 (0, 0))) ∧ Aside0 (Below w.heap.size w wc))
    case first =>
     have H := HC17.out
     clear HC17
     by_cases c40 : t295 < 0
     ·rw [if_pos c40] at H
      have c40b0 : decide (t295 < 0) = true := decide_eq_true c40
      clear c40
      (first | rw [c40b0] | (simp only [i64_w, i32_w]; rw [c40b0]) | skip)
      have H' := Aside0.mk H
      clear H
      go_wp2
      go_meet
      case rel => exact ⟨_, (true), (by first | rfl | (simp; done) | (simp [*]; done)), H', ⟨by first | omega | exact Nat.le_refl _⟩, ⟨by (with_reducible repeat (first | apply Kd.R_alloc | apply Kd.R_drewN | apply Kd.R_drew)); exact HO282.out⟩, ⟨by (with_reducible repeat (first | apply Kd.R_alloc | apply Kd.R_drewN | apply Kd.R_drew)); exact HO289.out⟩, ⟨by (with_reducible repeat (first | apply Kd.R_alloc | apply Kd.R_drewN | apply Kd.R_drew)); exact Kd.R_mono HO285.out (fun _ hk => trivial)⟩, ⟨by (with_reducible repeat (first | refine blk_drewN ?_ _ | refine blk_drew ?_ | refine blk_alloc ?_ _)); exact BK275.out⟩, ⟨by (with_reducible repeat (first | refine blk_drewN ?_ _ | refine blk_drew ?_ | refine blk_alloc ?_ _)); exact BK286.out⟩, ⟨by repeat (first | (with_reducible first | exact HB.out | apply below_alloc | apply pw_below_drewN | apply below_drew1 | refine below_set ?_ GE275.out | refine below_set ?_ GE286.out) | exact HB.out)⟩⟩
     ·rw [if_neg c40] at H
      have c40b0 : decide (t295 < 0) = false := decide_eq_false c40
      clear c40
      (first | rw [c40b0] | (simp only [i64_w, i32_w]; rw [c40b0]) | skip)
      replace H := Option.bind_eq_some_iff.mp H
      obtain ⟨t297, A410, H⟩ := H
      have A41 := Aside0.mk A410
      clear A410
      have H' := Aside0.mk H
      clear H
      go_wp2_with (first | (go_at_call 34; (with_reducible refine (laws_eqIntS.calls k _ _ t287 _ _ t280 t297 _ ?side1 ?side2 ?side3 ?side4 A41.out).mono ?_); (case side1 => exact rc_ HO289); (case side2 => exact (Kd.R_reads' HO289.out).2.1); (case side3 => exact rc_ HO282); (case side4 => exact (Kd.R_reads' HO282.out).2.1); rintro e w' ⟨rfl, ⟨nd, rfl⟩⟩))
      go_meet
      case rel => exact ⟨_, (!t297), (by first | rfl | (simp; done) | (simp [*]; done)), H', ⟨by first | omega | exact Nat.le_refl _⟩, ⟨by (with_reducible repeat (first | apply Kd.R_alloc | apply Kd.R_drewN | apply Kd.R_drew)); exact HO282.out⟩, ⟨by (with_reducible repeat (first | apply Kd.R_alloc | apply Kd.R_drewN | apply Kd.R_drew)); exact HO289.out⟩, ⟨by (with_reducible repeat (first | apply Kd.R_alloc | apply Kd.R_drewN | apply Kd.R_drew)); exact Kd.R_mono HO285.out (fun _ hk => trivial)⟩, ⟨by (with_reducible repeat (first | refine blk_drewN ?_ _ | refine blk_drew ?_ | refine blk_alloc ?_ _)); exact BK275.out⟩, ⟨by (with_reducible repeat (first | refine blk_drewN ?_ _ | refine blk_drew ?_ | refine blk_alloc ?_ _)); exact BK286.out⟩, ⟨by repeat (first | (with_reducible first | exact HB.out | apply below_alloc | apply pw_below_drewN | apply below_drew1 | refine below_set ?_ GE275.out | refine below_set ?_ GE286.out) | exact HB.out)⟩⟩
    case rest =>
     clear HC17
     try clear c1
     try clear c2
     try clear p2
     try clear c3
     try clear c3b0
     try clear c4
     try clear c9
     try clear c12
     try clear c14
     try clear c15
     try clear c17
     try clear c23
     try clear c29
     try clear c32
     try clear c33
     try clear c34
     try clear c40
     try clear c40b0
     try clear hcz19_0
     try clear hcz21_0
     try clear hcz25_0
     try clear hcz30_0
     try clear hcz38_0
     try clear hcz5_0
     try clear hfz19_0
     try clear hfz21_0
     try clear hfz25_0
     try clear hfz30_0
     try clear hfz38_0
     try clear hfz5_0
     obtain ⟨kq, x42_16, rfl, HA, HJ16, HO_4, HO_6, HO_287000, BK275, BK286, HB⟩ := hcut
     have hl287000_16 := (Kd.R_reads' HO_287000.out).1
     rw [hl287000_16] at HO_287000
     (try simp only [hl287000_16])
     (try simp only [hl287000_16] at BK275)
     (try simp only [hl287000_16] at BK286)
     (try simp only [hl287000_16] at HO_4)
     (try simp only [hl287000_16] at HO_6)
     cases kq with
     | zero => exact absurd HA.out (by simp [laws_FnExactTableSpans.j0])
     | succ kj16 =>
      have H := HA.out
      clear HA
      simp only [laws_FnExactTableSpans.j0] at H
      by_cases c42 : x42_16 = true
      ·subst c42
       rw [if_pos rfl] at H
       obtain rfl := Option.some.inj H
       go_wp2
       go_ret
       exact ⟨by first | rfl | (simp [errW_none, errW_some] <;> rfl) | (simp [*, errW_none, errW_some] <;> rfl), by repeat (first | (with_reducible first | exact HB.out | apply below_alloc | apply pw_below_drewN | apply below_drew1 | refine below_set ?_ GE275.out | refine below_set ?_ GE286.out) | exact HB.out)⟩
      ·replace c42 := Bool.eq_false_iff.mpr c42
       subst c42
       rw [if_neg (show ¬ (false = true) by decide)] at H
       replace H := Option.bind_eq_some_iff.mp H
       obtain ⟨⟨t298, t299⟩, A430, H⟩ := H
       have A43 := Aside0.mk A430
       clear A430
       replace H := Option.bind_eq_some_iff.mp H
       obtain ⟨t300, A440, H⟩ := H
       have A44 := Aside0.mk A440
       clear A440
       by_cases c45 : t300 < 0
       ·rw [if_pos c45] at H
        have c45b0 : decide (t300 < 0) = true := decide_eq_true c45
        clear c45
        obtain rfl := Option.some.inj H
        go_wp2_with (first | ((with_reducible refine gate_callee (f := 35) rfl ?_); refine gl_ (some 45) Try.func35 #[.slice Ao32 t287.length co32, .int .i64 1] ?_; (with_reducible refine (laws_markIntS.calls kj16 (fun k_ => some k_ = (.slice Ao32 t287.length co32 : Value).ownBlock) (.slice Ao32 t287.length co32) t287 1 t298 t299 w _ ?side1 ?side2 A43.out).mono ?_); (case side1 => exact by_ HB); (case side2 => exact Kd.R_tight rfl HO_6.out); rintro e w46 ⟨rfl, hy0, hb, hkp⟩; refine ⟨_, rfl, ?_⟩; replace HO_4 := kp_ (fun k_ => some k_ ≠ (.slice Ao32 t287.length co32 : Value).ownBlock) (HO_4.out) hkp; replace HO_287000 := kp_ (fun k_ => True) ((Kd.R_apart' HO_287000.out (Kd.R_typed HO_6.out) (by decide))) hkp; replace BK275 := bk_ BK275 hkp (fun hs_ => (Kd.R_ne HO_6.out BK275.out (by decide)) hs_); replace BK286 := bk_ BK286 hkp (fun hs_ => (Kd.R_ne HO_6.out BK286.out (by decide)) hs_); replace HO_6 := Aside0.mk (Kd.R_reok rfl hy0 (fun k_ e_ => HO_6.out.1 k_ e_)); replace HB := Aside0.mk (hb); (try clear hb); (try clear hkp); (try clear hy0)) | ((with_reducible refine gate_callee (f := 36) rfl ?_); refine goesL_ (some 48) rfl rfl Try.func36 (by kernel_rfl) rfl #[.slice Ao32 t299.length co32, .int .i64 1] rfl (by (try simp only [List.map_toArray, List.map_cons, List.map_nil]); first | done | (rw [show t299.length = t287.length from (Kd.R_reads' HO_6.out).1.symm] <;> rfl) | rfl | (simp only [List.length_drop, List.length_take]; rfl)) ?_; (with_reducible refine (laws_heldIntS.calls kj16 _ _ t299 1 t300 _ ?side1 ?side2 A44.out).mono ?_); (case side1 => exact rc_ HO_6); (case side2 => rw [show t299.length = t287.length from (Kd.R_reads' HO_6.out).1.symm]; exact (Kd.R_reads' HO_6.out).2.1); rintro e w' ⟨rfl, ⟨nd, rfl⟩⟩; refine ⟨_, rfl, ?_⟩))
        go_ret
        exact ⟨by first | rfl | (simp [errW_none, errW_some] <;> rfl) | (simp [*, errW_none, errW_some] <;> rfl), by repeat (first | (with_reducible first | exact HB.out | apply below_alloc | apply pw_below_drewN | apply below_drew1 | refine below_set ?_ GE275.out | refine below_set ?_ GE286.out) | exact HB.out)⟩
       ·rw [if_neg c45] at H
        have c45b0 : decide (t300 < 0) = false := decide_eq_false c45
        clear c45
        by_cases c47 : t300 = t298
        ·rw [if_pos c47] at H
         have c47b0 : (t300 == t298) = true := beq_iff_eq.mpr c47
         have c47b1 : (t300 != t298) = false := bne_eq_false_iff_eq.mpr c47
         clear c47
         replace H := Option.bind_eq_some_iff.mp H
         obtain ⟨t301, A480, H⟩ := H
         have A48 := Aside0.mk A480
         clear A480
         replace H := Option.bind_eq_some_iff.mp H
         obtain ⟨t304, A490, H⟩ := H
         have A49 := Aside0.mk A490
         clear A490
         replace H := Option.bind_eq_some_iff.mp H
         obtain ⟨t307, A500, H⟩ := H
         have A50 := Aside0.mk A500
         clear A500
         by_cases c51 : t307 = true
         ·subst c51
          rw [if_pos rfl] at H
          replace H := Option.bind_eq_some_iff.mp H
          obtain ⟨t308, A520, H⟩ := H
          have A52 := Aside0.mk A520
          clear A520
          by_cases c53 : t308 < 0
          ·rw [if_pos c53] at H
           have c53b0 : decide (t308 < 0) = true := decide_eq_true c53
           clear c53
           obtain rfl := Option.some.inj H
           go_wp2_with (first | ((with_reducible refine gate_callee (f := 35) rfl ?_); refine gl_ (some 45) Try.func35 #[.slice Ao32 t287.length co32, .int .i64 1] ?_; (with_reducible refine (laws_markIntS.calls kj16 (fun k_ => some k_ = (.slice Ao32 t287.length co32 : Value).ownBlock) (.slice Ao32 t287.length co32) t287 1 t298 t299 w _ ?side1 ?side2 A43.out).mono ?_); (case side1 => exact by_ HB); (case side2 => exact Kd.R_tight rfl HO_6.out); rintro e w54 ⟨rfl, hy0, hb, hkp⟩; refine ⟨_, rfl, ?_⟩; replace HO_4 := kp_ (fun k_ => some k_ ≠ (.slice Ao32 t287.length co32 : Value).ownBlock) (HO_4.out) hkp; replace HO_287000 := kp_ (fun k_ => True) ((Kd.R_apart' HO_287000.out (Kd.R_typed HO_6.out) (by decide))) hkp; replace BK275 := bk_ BK275 hkp (fun hs_ => (Kd.R_ne HO_6.out BK275.out (by decide)) hs_); replace BK286 := bk_ BK286 hkp (fun hs_ => (Kd.R_ne HO_6.out BK286.out (by decide)) hs_); replace HO_6 := Aside0.mk (Kd.R_reok rfl hy0 (fun k_ e_ => HO_6.out.1 k_ e_)); replace HB := Aside0.mk (hb); (try clear hb); (try clear hkp); (try clear hy0)) | ((with_reducible refine gate_callee (f := 36) rfl ?_); refine goesL_ (some 48) rfl rfl Try.func36 (by kernel_rfl) rfl #[.slice Ao32 t299.length co32, .int .i64 1] rfl (by (try simp only [List.map_toArray, List.map_cons, List.map_nil]); first | done | (rw [show t299.length = t287.length from (Kd.R_reads' HO_6.out).1.symm] <;> rfl) | rfl | (simp only [List.length_drop, List.length_take]; rfl)) ?_; (with_reducible refine (laws_heldIntS.calls kj16 _ _ t299 1 t300 _ ?side1 ?side2 A44.out).mono ?_); (case side1 => exact rc_ HO_6); (case side2 => rw [show t299.length = t287.length from (Kd.R_reads' HO_6.out).1.symm]; exact (Kd.R_reads' HO_6.out).2.1); rintro e w' ⟨rfl, ⟨nd, rfl⟩⟩; refine ⟨_, rfl, ?_⟩; have hnb55 := NB275_286.out; have hnc55 := NB286_275.out; have hcz56_0 := cz_ BK275 0 (.slice A0_0 l0_0.length c0_0); have hfz56_0 := blk_frozen BK275.out 0) | ((with_reducible refine gate_callee (f := 14) rfl ?_); refine gl_ (some 55) Try.func14 #[.agg #[.slice A0_0 l0_0.length c0_0]] ?_; (with_reducible refine (laws_toTable.calls kj16 _ _ l0_0 t301 _ ?side1 ?side2 A48.out).mono ?_); (case side1 => exact cc_ HR0_0 HB); (case side2 => exact HC0_0.out); rintro e w57 ⟨v302, rfl, ho0, hb⟩; refine ⟨_, rfl, ?_⟩; have HO303 := Aside0.mk (Kd.R_lower (Kd.R_new' ho0 (Kd.R_lt (hd_ HO_287000))) (bz_ HB)); replace HO_4 := rb_ HO_4 hb; replace HO_6 := rb_ HO_6 hb; replace HO_287000 := Aside0.mk (Kd.R_elder' (hd_ HO_287000) (Kd.R_base ho0) hb); replace BK275 := Aside0.mk (bb_ BK275 hb); replace BK286 := Aside0.mk (bb_ BK286 hb); replace HB := Aside0.mk (bt_ HB hb); (try clear hb); (try clear hb2); (try clear hk); (try clear hi); (try clear ho0); obtain ⟨Ao58, co58, eo58⟩ := Kd.R_slice HO303.out; subst eo58) | ((with_reducible refine gate_callee (f := 33) rfl ?_); refine gl_ (some 56) Try.func33 #[.agg #[.slice Ao58 t301.length co58]] ?_; (with_reducible refine (impl_TableSpans.calls kj16 _ _ t301 t304 _ ?side1 ?side2 A49.out).mono ?_); (case side1 => exact rc_ HO303); (case side2 => exact (Kd.R_reads' HO303.out).2.1); rintro e w59 ⟨v305, rfl, ho0, hb⟩; refine ⟨_, rfl, ?_⟩; have HO306 := Aside0.mk (Kd.R_lower (Kd.R_new' (Kd.R_new' ho0 (Kd.R_lt (hd_ HO_4))) (Kd.R_lt (hd_ HO_6))) (bz_ HB)); replace HO_287000 := rb_ HO_287000 hb; replace HO303 := rb_ HO303 hb; replace HO_4 := Aside0.mk (Kd.R_elder' (hd_ HO_4) (Kd.R_base ho0) hb); replace HO_6 := Aside0.mk (Kd.R_elder' (hd_ HO_6) (Kd.R_base ho0) hb); replace BK275 := Aside0.mk (bb_ BK275 hb); replace BK286 := Aside0.mk (bb_ BK286 hb); replace HB := Aside0.mk (bt_ HB hb); (try clear hb); (try clear hb2); (try clear hk); (try clear hi); (try clear ho0); obtain ⟨Ao60, co60, eo60⟩ := Kd.R_slice HO306.out; subst eo60) | ((with_reducible refine gate_callee (f := 34) rfl ?_); refine gl_ (some 59) Try.func34 #[.slice Ao60 t304.length co60, .slice Ao33 t280.length co33] ?_; (with_reducible refine (laws_eqIntS.calls kj16 _ _ t304 _ _ t280 true _ ?side1 ?side2 ?side3 ?side4 A50.out).mono ?_); (case side1 => exact rc_ HO306); (case side2 => exact (Kd.R_reads' HO306.out).2.1); (case side3 => exact rc_ HO_4); (case side4 => exact (Kd.R_reads' HO_4.out).2.1); rintro e w' ⟨rfl, ⟨nd, rfl⟩⟩; refine ⟨_, rfl, ?_⟩) | ((with_reducible refine gate_callee (f := 36) rfl ?_); refine goesL_ (some 63) rfl rfl Try.func36 (by kernel_rfl) rfl #[.slice Ao32 t299.length co32, .int .i64 1] rfl (by (try simp only [List.map_toArray, List.map_cons, List.map_nil]); first | done | (rw [show t299.length = t287.length from (Kd.R_reads' HO_6.out).1.symm] <;> rfl) | rfl | (simp only [List.length_drop, List.length_take]; rfl)) ?_; (with_reducible refine (laws_heldIntS.calls kj16 _ _ t299 1 t308 _ ?side1 ?side2 A52.out).mono ?_); (case side1 => exact rc_ HO_6); (case side2 => rw [show t299.length = t287.length from (Kd.R_reads' HO_6.out).1.symm]; exact (Kd.R_reads' HO_6.out).2.1); rintro e w' ⟨rfl, ⟨nd, rfl⟩⟩; refine ⟨_, rfl, ?_⟩))
           go_ret
           exact ⟨by first | rfl | (simp [errW_none, errW_some] <;> rfl) | (simp [*, errW_none, errW_some] <;> rfl), by repeat (first | (with_reducible first | exact HB.out | apply below_alloc | apply pw_below_drewN | apply below_drew1 | refine below_set ?_ GE275.out | refine below_set ?_ GE286.out) | exact HB.out)⟩
          ·rw [if_neg c53] at H
           have c53b0 : decide (t308 < 0) = false := decide_eq_false c53
           clear c53
           by_cases c61 : t308 = t298
           ·rw [if_pos c61] at H
            have c61b0 : (t308 == t298) = true := beq_iff_eq.mpr c61
            have c61b1 : (t308 != t298) = false := bne_eq_false_iff_eq.mpr c61
            clear c61
            obtain rfl := Option.some.inj H
            go_wp2_with (first | ((with_reducible refine gate_callee (f := 35) rfl ?_); refine gl_ (some 45) Try.func35 #[.slice Ao32 t287.length co32, .int .i64 1] ?_; (with_reducible refine (laws_markIntS.calls kj16 (fun k_ => some k_ = (.slice Ao32 t287.length co32 : Value).ownBlock) (.slice Ao32 t287.length co32) t287 1 t298 t299 w _ ?side1 ?side2 A43.out).mono ?_); (case side1 => exact by_ HB); (case side2 => exact Kd.R_tight rfl HO_6.out); rintro e w62 ⟨rfl, hy0, hb, hkp⟩; refine ⟨_, rfl, ?_⟩; replace HO_4 := kp_ (fun k_ => some k_ ≠ (.slice Ao32 t287.length co32 : Value).ownBlock) (HO_4.out) hkp; replace HO_287000 := kp_ (fun k_ => True) ((Kd.R_apart' HO_287000.out (Kd.R_typed HO_6.out) (by decide))) hkp; replace BK275 := bk_ BK275 hkp (fun hs_ => (Kd.R_ne HO_6.out BK275.out (by decide)) hs_); replace BK286 := bk_ BK286 hkp (fun hs_ => (Kd.R_ne HO_6.out BK286.out (by decide)) hs_); replace HO_6 := Aside0.mk (Kd.R_reok rfl hy0 (fun k_ e_ => HO_6.out.1 k_ e_)); replace HB := Aside0.mk (hb); (try clear hb); (try clear hkp); (try clear hy0)) | ((with_reducible refine gate_callee (f := 36) rfl ?_); refine goesL_ (some 48) rfl rfl Try.func36 (by kernel_rfl) rfl #[.slice Ao32 t299.length co32, .int .i64 1] rfl (by (try simp only [List.map_toArray, List.map_cons, List.map_nil]); first | done | (rw [show t299.length = t287.length from (Kd.R_reads' HO_6.out).1.symm] <;> rfl) | rfl | (simp only [List.length_drop, List.length_take]; rfl)) ?_; (with_reducible refine (laws_heldIntS.calls kj16 _ _ t299 1 t300 _ ?side1 ?side2 A44.out).mono ?_); (case side1 => exact rc_ HO_6); (case side2 => rw [show t299.length = t287.length from (Kd.R_reads' HO_6.out).1.symm]; exact (Kd.R_reads' HO_6.out).2.1); rintro e w' ⟨rfl, ⟨nd, rfl⟩⟩; refine ⟨_, rfl, ?_⟩; have hnb63 := NB275_286.out; have hnc63 := NB286_275.out; have hcz64_0 := cz_ BK275 0 (.slice A0_0 l0_0.length c0_0); have hfz64_0 := blk_frozen BK275.out 0) | ((with_reducible refine gate_callee (f := 14) rfl ?_); refine gl_ (some 55) Try.func14 #[.agg #[.slice A0_0 l0_0.length c0_0]] ?_; (with_reducible refine (laws_toTable.calls kj16 _ _ l0_0 t301 _ ?side1 ?side2 A48.out).mono ?_); (case side1 => exact cc_ HR0_0 HB); (case side2 => exact HC0_0.out); rintro e w65 ⟨v302, rfl, ho0, hb⟩; refine ⟨_, rfl, ?_⟩; have HO303 := Aside0.mk (Kd.R_lower (Kd.R_new' ho0 (Kd.R_lt (hd_ HO_287000))) (bz_ HB)); replace HO_4 := rb_ HO_4 hb; replace HO_6 := rb_ HO_6 hb; replace HO_287000 := Aside0.mk (Kd.R_elder' (hd_ HO_287000) (Kd.R_base ho0) hb); replace BK275 := Aside0.mk (bb_ BK275 hb); replace BK286 := Aside0.mk (bb_ BK286 hb); replace HB := Aside0.mk (bt_ HB hb); (try clear hb); (try clear hb2); (try clear hk); (try clear hi); (try clear ho0); obtain ⟨Ao66, co66, eo66⟩ := Kd.R_slice HO303.out; subst eo66) | ((with_reducible refine gate_callee (f := 33) rfl ?_); refine gl_ (some 56) Try.func33 #[.agg #[.slice Ao66 t301.length co66]] ?_; (with_reducible refine (impl_TableSpans.calls kj16 _ _ t301 t304 _ ?side1 ?side2 A49.out).mono ?_); (case side1 => exact rc_ HO303); (case side2 => exact (Kd.R_reads' HO303.out).2.1); rintro e w67 ⟨v305, rfl, ho0, hb⟩; refine ⟨_, rfl, ?_⟩; have HO306 := Aside0.mk (Kd.R_lower (Kd.R_new' (Kd.R_new' ho0 (Kd.R_lt (hd_ HO_4))) (Kd.R_lt (hd_ HO_6))) (bz_ HB)); replace HO_287000 := rb_ HO_287000 hb; replace HO303 := rb_ HO303 hb; replace HO_4 := Aside0.mk (Kd.R_elder' (hd_ HO_4) (Kd.R_base ho0) hb); replace HO_6 := Aside0.mk (Kd.R_elder' (hd_ HO_6) (Kd.R_base ho0) hb); replace BK275 := Aside0.mk (bb_ BK275 hb); replace BK286 := Aside0.mk (bb_ BK286 hb); replace HB := Aside0.mk (bt_ HB hb); (try clear hb); (try clear hb2); (try clear hk); (try clear hi); (try clear ho0); obtain ⟨Ao68, co68, eo68⟩ := Kd.R_slice HO306.out; subst eo68) | ((with_reducible refine gate_callee (f := 34) rfl ?_); refine gl_ (some 59) Try.func34 #[.slice Ao68 t304.length co68, .slice Ao33 t280.length co33] ?_; (with_reducible refine (laws_eqIntS.calls kj16 _ _ t304 _ _ t280 true _ ?side1 ?side2 ?side3 ?side4 A50.out).mono ?_); (case side1 => exact rc_ HO306); (case side2 => exact (Kd.R_reads' HO306.out).2.1); (case side3 => exact rc_ HO_4); (case side4 => exact (Kd.R_reads' HO_4.out).2.1); rintro e w' ⟨rfl, ⟨nd, rfl⟩⟩; refine ⟨_, rfl, ?_⟩) | ((with_reducible refine gate_callee (f := 36) rfl ?_); refine goesL_ (some 63) rfl rfl Try.func36 (by kernel_rfl) rfl #[.slice Ao32 t299.length co32, .int .i64 1] rfl (by (try simp only [List.map_toArray, List.map_cons, List.map_nil]); first | done | (rw [show t299.length = t287.length from (Kd.R_reads' HO_6.out).1.symm] <;> rfl) | rfl | (simp only [List.length_drop, List.length_take]; rfl)) ?_; (with_reducible refine (laws_heldIntS.calls kj16 _ _ t299 1 t308 _ ?side1 ?side2 A52.out).mono ?_); (case side1 => exact rc_ HO_6); (case side2 => rw [show t299.length = t287.length from (Kd.R_reads' HO_6.out).1.symm]; exact (Kd.R_reads' HO_6.out).2.1); rintro e w' ⟨rfl, ⟨nd, rfl⟩⟩; refine ⟨_, rfl, ?_⟩))
            go_ret
            exact ⟨by first | rfl | (simp [errW_none, errW_some] <;> rfl) | (simp [*, errW_none, errW_some] <;> rfl), by repeat (first | (with_reducible first | exact HB.out | apply below_alloc | apply pw_below_drewN | apply below_drew1 | refine below_set ?_ GE275.out | refine below_set ?_ GE286.out) | exact HB.out)⟩
           ·rw [if_neg c61] at H
            have c61b0 : (t308 == t298) = false := beq_eq_false_iff_ne.mpr c61
            have c61b1 : (t308 != t298) = true := bne_iff_ne.mpr c61
            obtain rfl := Option.some.inj H
            go_wp2_with (first | ((with_reducible refine gate_callee (f := 35) rfl ?_); refine gl_ (some 45) Try.func35 #[.slice Ao32 t287.length co32, .int .i64 1] ?_; (with_reducible refine (laws_markIntS.calls kj16 (fun k_ => some k_ = (.slice Ao32 t287.length co32 : Value).ownBlock) (.slice Ao32 t287.length co32) t287 1 t298 t299 w _ ?side1 ?side2 A43.out).mono ?_); (case side1 => exact by_ HB); (case side2 => exact Kd.R_tight rfl HO_6.out); rintro e w69 ⟨rfl, hy0, hb, hkp⟩; refine ⟨_, rfl, ?_⟩; replace HO_4 := kp_ (fun k_ => some k_ ≠ (.slice Ao32 t287.length co32 : Value).ownBlock) (HO_4.out) hkp; replace HO_287000 := kp_ (fun k_ => True) ((Kd.R_apart' HO_287000.out (Kd.R_typed HO_6.out) (by decide))) hkp; replace BK275 := bk_ BK275 hkp (fun hs_ => (Kd.R_ne HO_6.out BK275.out (by decide)) hs_); replace BK286 := bk_ BK286 hkp (fun hs_ => (Kd.R_ne HO_6.out BK286.out (by decide)) hs_); replace HO_6 := Aside0.mk (Kd.R_reok rfl hy0 (fun k_ e_ => HO_6.out.1 k_ e_)); replace HB := Aside0.mk (hb); (try clear hb); (try clear hkp); (try clear hy0)) | ((with_reducible refine gate_callee (f := 36) rfl ?_); refine goesL_ (some 48) rfl rfl Try.func36 (by kernel_rfl) rfl #[.slice Ao32 t299.length co32, .int .i64 1] rfl (by (try simp only [List.map_toArray, List.map_cons, List.map_nil]); first | done | (rw [show t299.length = t287.length from (Kd.R_reads' HO_6.out).1.symm] <;> rfl) | rfl | (simp only [List.length_drop, List.length_take]; rfl)) ?_; (with_reducible refine (laws_heldIntS.calls kj16 _ _ t299 1 t300 _ ?side1 ?side2 A44.out).mono ?_); (case side1 => exact rc_ HO_6); (case side2 => rw [show t299.length = t287.length from (Kd.R_reads' HO_6.out).1.symm]; exact (Kd.R_reads' HO_6.out).2.1); rintro e w' ⟨rfl, ⟨nd, rfl⟩⟩; refine ⟨_, rfl, ?_⟩; have hnb70 := NB275_286.out; have hnc70 := NB286_275.out; have hcz71_0 := cz_ BK275 0 (.slice A0_0 l0_0.length c0_0); have hfz71_0 := blk_frozen BK275.out 0) | ((with_reducible refine gate_callee (f := 14) rfl ?_); refine gl_ (some 55) Try.func14 #[.agg #[.slice A0_0 l0_0.length c0_0]] ?_; (with_reducible refine (laws_toTable.calls kj16 _ _ l0_0 t301 _ ?side1 ?side2 A48.out).mono ?_); (case side1 => exact cc_ HR0_0 HB); (case side2 => exact HC0_0.out); rintro e w72 ⟨v302, rfl, ho0, hb⟩; refine ⟨_, rfl, ?_⟩; have HO303 := Aside0.mk (Kd.R_lower (Kd.R_new' ho0 (Kd.R_lt (hd_ HO_287000))) (bz_ HB)); replace HO_4 := rb_ HO_4 hb; replace HO_6 := rb_ HO_6 hb; replace HO_287000 := Aside0.mk (Kd.R_elder' (hd_ HO_287000) (Kd.R_base ho0) hb); replace BK275 := Aside0.mk (bb_ BK275 hb); replace BK286 := Aside0.mk (bb_ BK286 hb); replace HB := Aside0.mk (bt_ HB hb); (try clear hb); (try clear hb2); (try clear hk); (try clear hi); (try clear ho0); obtain ⟨Ao73, co73, eo73⟩ := Kd.R_slice HO303.out; subst eo73) | ((with_reducible refine gate_callee (f := 33) rfl ?_); refine gl_ (some 56) Try.func33 #[.agg #[.slice Ao73 t301.length co73]] ?_; (with_reducible refine (impl_TableSpans.calls kj16 _ _ t301 t304 _ ?side1 ?side2 A49.out).mono ?_); (case side1 => exact rc_ HO303); (case side2 => exact (Kd.R_reads' HO303.out).2.1); rintro e w74 ⟨v305, rfl, ho0, hb⟩; refine ⟨_, rfl, ?_⟩; have HO306 := Aside0.mk (Kd.R_lower (Kd.R_new' (Kd.R_new' ho0 (Kd.R_lt (hd_ HO_4))) (Kd.R_lt (hd_ HO_6))) (bz_ HB)); replace HO_287000 := rb_ HO_287000 hb; replace HO303 := rb_ HO303 hb; replace HO_4 := Aside0.mk (Kd.R_elder' (hd_ HO_4) (Kd.R_base ho0) hb); replace HO_6 := Aside0.mk (Kd.R_elder' (hd_ HO_6) (Kd.R_base ho0) hb); replace BK275 := Aside0.mk (bb_ BK275 hb); replace BK286 := Aside0.mk (bb_ BK286 hb); replace HB := Aside0.mk (bt_ HB hb); (try clear hb); (try clear hb2); (try clear hk); (try clear hi); (try clear ho0); obtain ⟨Ao75, co75, eo75⟩ := Kd.R_slice HO306.out; subst eo75) | ((with_reducible refine gate_callee (f := 34) rfl ?_); refine gl_ (some 59) Try.func34 #[.slice Ao75 t304.length co75, .slice Ao33 t280.length co33] ?_; (with_reducible refine (laws_eqIntS.calls kj16 _ _ t304 _ _ t280 true _ ?side1 ?side2 ?side3 ?side4 A50.out).mono ?_); (case side1 => exact rc_ HO306); (case side2 => exact (Kd.R_reads' HO306.out).2.1); (case side3 => exact rc_ HO_4); (case side4 => exact (Kd.R_reads' HO_4.out).2.1); rintro e w' ⟨rfl, ⟨nd, rfl⟩⟩; refine ⟨_, rfl, ?_⟩) | ((with_reducible refine gate_callee (f := 36) rfl ?_); refine goesL_ (some 63) rfl rfl Try.func36 (by kernel_rfl) rfl #[.slice Ao32 t299.length co32, .int .i64 1] rfl (by (try simp only [List.map_toArray, List.map_cons, List.map_nil]); first | done | (rw [show t299.length = t287.length from (Kd.R_reads' HO_6.out).1.symm] <;> rfl) | rfl | (simp only [List.length_drop, List.length_take]; rfl)) ?_; (with_reducible refine (laws_heldIntS.calls kj16 _ _ t299 1 t308 _ ?side1 ?side2 A52.out).mono ?_); (case side1 => exact rc_ HO_6); (case side2 => rw [show t299.length = t287.length from (Kd.R_reads' HO_6.out).1.symm]; exact (Kd.R_reads' HO_6.out).2.1); rintro e w' ⟨rfl, ⟨nd, rfl⟩⟩; refine ⟨_, rfl, ?_⟩))
            go_ret
            exact ⟨by first | rfl | (simp [errW_none, errW_some] <;> rfl) | (simp [*, errW_none, errW_some] <;> rfl), by repeat (first | (with_reducible first | exact HB.out | apply below_alloc | apply pw_below_drewN | apply below_drew1 | refine below_set ?_ GE275.out | refine below_set ?_ GE286.out) | exact HB.out)⟩
         ·replace c51 := Bool.eq_false_iff.mpr c51
          subst c51
          rw [if_neg (show ¬ (false = true) by decide)] at H
          obtain rfl := Option.some.inj H
          go_wp2_with (first | ((with_reducible refine gate_callee (f := 35) rfl ?_); refine gl_ (some 45) Try.func35 #[.slice Ao32 t287.length co32, .int .i64 1] ?_; (with_reducible refine (laws_markIntS.calls kj16 (fun k_ => some k_ = (.slice Ao32 t287.length co32 : Value).ownBlock) (.slice Ao32 t287.length co32) t287 1 t298 t299 w _ ?side1 ?side2 A43.out).mono ?_); (case side1 => exact by_ HB); (case side2 => exact Kd.R_tight rfl HO_6.out); rintro e w76 ⟨rfl, hy0, hb, hkp⟩; refine ⟨_, rfl, ?_⟩; replace HO_4 := kp_ (fun k_ => some k_ ≠ (.slice Ao32 t287.length co32 : Value).ownBlock) (HO_4.out) hkp; replace HO_287000 := kp_ (fun k_ => True) ((Kd.R_apart' HO_287000.out (Kd.R_typed HO_6.out) (by decide))) hkp; replace BK275 := bk_ BK275 hkp (fun hs_ => (Kd.R_ne HO_6.out BK275.out (by decide)) hs_); replace BK286 := bk_ BK286 hkp (fun hs_ => (Kd.R_ne HO_6.out BK286.out (by decide)) hs_); replace HO_6 := Aside0.mk (Kd.R_reok rfl hy0 (fun k_ e_ => HO_6.out.1 k_ e_)); replace HB := Aside0.mk (hb); (try clear hb); (try clear hkp); (try clear hy0)) | ((with_reducible refine gate_callee (f := 36) rfl ?_); refine goesL_ (some 48) rfl rfl Try.func36 (by kernel_rfl) rfl #[.slice Ao32 t299.length co32, .int .i64 1] rfl (by (try simp only [List.map_toArray, List.map_cons, List.map_nil]); first | done | (rw [show t299.length = t287.length from (Kd.R_reads' HO_6.out).1.symm] <;> rfl) | rfl | (simp only [List.length_drop, List.length_take]; rfl)) ?_; (with_reducible refine (laws_heldIntS.calls kj16 _ _ t299 1 t300 _ ?side1 ?side2 A44.out).mono ?_); (case side1 => exact rc_ HO_6); (case side2 => rw [show t299.length = t287.length from (Kd.R_reads' HO_6.out).1.symm]; exact (Kd.R_reads' HO_6.out).2.1); rintro e w' ⟨rfl, ⟨nd, rfl⟩⟩; refine ⟨_, rfl, ?_⟩; have hnb77 := NB275_286.out; have hnc77 := NB286_275.out; have hcz78_0 := cz_ BK275 0 (.slice A0_0 l0_0.length c0_0); have hfz78_0 := blk_frozen BK275.out 0) | ((with_reducible refine gate_callee (f := 14) rfl ?_); refine gl_ (some 55) Try.func14 #[.agg #[.slice A0_0 l0_0.length c0_0]] ?_; (with_reducible refine (laws_toTable.calls kj16 _ _ l0_0 t301 _ ?side1 ?side2 A48.out).mono ?_); (case side1 => exact cc_ HR0_0 HB); (case side2 => exact HC0_0.out); rintro e w79 ⟨v302, rfl, ho0, hb⟩; refine ⟨_, rfl, ?_⟩; have HO303 := Aside0.mk (Kd.R_lower (Kd.R_new' ho0 (Kd.R_lt (hd_ HO_287000))) (bz_ HB)); replace HO_4 := rb_ HO_4 hb; replace HO_6 := rb_ HO_6 hb; replace HO_287000 := Aside0.mk (Kd.R_elder' (hd_ HO_287000) (Kd.R_base ho0) hb); replace BK275 := Aside0.mk (bb_ BK275 hb); replace BK286 := Aside0.mk (bb_ BK286 hb); replace HB := Aside0.mk (bt_ HB hb); (try clear hb); (try clear hb2); (try clear hk); (try clear hi); (try clear ho0); obtain ⟨Ao80, co80, eo80⟩ := Kd.R_slice HO303.out; subst eo80) | ((with_reducible refine gate_callee (f := 33) rfl ?_); refine gl_ (some 56) Try.func33 #[.agg #[.slice Ao80 t301.length co80]] ?_; (with_reducible refine (impl_TableSpans.calls kj16 _ _ t301 t304 _ ?side1 ?side2 A49.out).mono ?_); (case side1 => exact rc_ HO303); (case side2 => exact (Kd.R_reads' HO303.out).2.1); rintro e w81 ⟨v305, rfl, ho0, hb⟩; refine ⟨_, rfl, ?_⟩; have HO306 := Aside0.mk (Kd.R_lower (Kd.R_new' (Kd.R_new' ho0 (Kd.R_lt (hd_ HO_4))) (Kd.R_lt (hd_ HO_6))) (bz_ HB)); replace HO_287000 := rb_ HO_287000 hb; replace HO303 := rb_ HO303 hb; replace HO_4 := Aside0.mk (Kd.R_elder' (hd_ HO_4) (Kd.R_base ho0) hb); replace HO_6 := Aside0.mk (Kd.R_elder' (hd_ HO_6) (Kd.R_base ho0) hb); replace BK275 := Aside0.mk (bb_ BK275 hb); replace BK286 := Aside0.mk (bb_ BK286 hb); replace HB := Aside0.mk (bt_ HB hb); (try clear hb); (try clear hb2); (try clear hk); (try clear hi); (try clear ho0); obtain ⟨Ao82, co82, eo82⟩ := Kd.R_slice HO306.out; subst eo82) | ((with_reducible refine gate_callee (f := 34) rfl ?_); refine gl_ (some 59) Try.func34 #[.slice Ao82 t304.length co82, .slice Ao33 t280.length co33] ?_; (with_reducible refine (laws_eqIntS.calls kj16 _ _ t304 _ _ t280 false _ ?side1 ?side2 ?side3 ?side4 A50.out).mono ?_); (case side1 => exact rc_ HO306); (case side2 => exact (Kd.R_reads' HO306.out).2.1); (case side3 => exact rc_ HO_4); (case side4 => exact (Kd.R_reads' HO_4.out).2.1); rintro e w' ⟨rfl, ⟨nd, rfl⟩⟩; refine ⟨_, rfl, ?_⟩))
          go_ret
          exact ⟨by first | rfl | (simp [errW_none, errW_some] <;> rfl) | (simp [*, errW_none, errW_some] <;> rfl), by repeat (first | (with_reducible first | exact HB.out | apply below_alloc | apply pw_below_drewN | apply below_drew1 | refine below_set ?_ GE275.out | refine below_set ?_ GE286.out) | exact HB.out)⟩
        ·rw [if_neg c47] at H
         have c47b0 : (t300 == t298) = false := beq_eq_false_iff_ne.mpr c47
         have c47b1 : (t300 != t298) = true := bne_iff_ne.mpr c47
         obtain rfl := Option.some.inj H
         go_wp2_with (first | ((with_reducible refine gate_callee (f := 35) rfl ?_); refine gl_ (some 45) Try.func35 #[.slice Ao32 t287.length co32, .int .i64 1] ?_; (with_reducible refine (laws_markIntS.calls kj16 (fun k_ => some k_ = (.slice Ao32 t287.length co32 : Value).ownBlock) (.slice Ao32 t287.length co32) t287 1 t298 t299 w _ ?side1 ?side2 A43.out).mono ?_); (case side1 => exact by_ HB); (case side2 => exact Kd.R_tight rfl HO_6.out); rintro e w83 ⟨rfl, hy0, hb, hkp⟩; refine ⟨_, rfl, ?_⟩; replace HO_4 := kp_ (fun k_ => some k_ ≠ (.slice Ao32 t287.length co32 : Value).ownBlock) (HO_4.out) hkp; replace HO_287000 := kp_ (fun k_ => True) ((Kd.R_apart' HO_287000.out (Kd.R_typed HO_6.out) (by decide))) hkp; replace BK275 := bk_ BK275 hkp (fun hs_ => (Kd.R_ne HO_6.out BK275.out (by decide)) hs_); replace BK286 := bk_ BK286 hkp (fun hs_ => (Kd.R_ne HO_6.out BK286.out (by decide)) hs_); replace HO_6 := Aside0.mk (Kd.R_reok rfl hy0 (fun k_ e_ => HO_6.out.1 k_ e_)); replace HB := Aside0.mk (hb); (try clear hb); (try clear hkp); (try clear hy0)) | ((with_reducible refine gate_callee (f := 36) rfl ?_); refine goesL_ (some 48) rfl rfl Try.func36 (by kernel_rfl) rfl #[.slice Ao32 t299.length co32, .int .i64 1] rfl (by (try simp only [List.map_toArray, List.map_cons, List.map_nil]); first | done | (rw [show t299.length = t287.length from (Kd.R_reads' HO_6.out).1.symm] <;> rfl) | rfl | (simp only [List.length_drop, List.length_take]; rfl)) ?_; (with_reducible refine (laws_heldIntS.calls kj16 _ _ t299 1 t300 _ ?side1 ?side2 A44.out).mono ?_); (case side1 => exact rc_ HO_6); (case side2 => rw [show t299.length = t287.length from (Kd.R_reads' HO_6.out).1.symm]; exact (Kd.R_reads' HO_6.out).2.1); rintro e w' ⟨rfl, ⟨nd, rfl⟩⟩; refine ⟨_, rfl, ?_⟩))
         go_ret
         exact ⟨by first | rfl | (simp [errW_none, errW_some] <;> rfl) | (simp [*, errW_none, errW_some] <;> rfl), by repeat (first | (with_reducible first | exact HB.out | apply below_alloc | apply pw_below_drewN | apply below_drew1 | refine below_set ?_ GE275.out | refine below_set ?_ GE286.out) | exact HB.out)⟩
   ·replace c15 := Bool.eq_false_iff.mpr c15
    subst c15
    rw [if_neg (show ¬ (false = true) by decide)] at H
    obtain rfl := Option.some.inj H
    go_enter Try.func9, Try.ntmps9
    try go_wp2_with (first | ((with_reducible refine gate_dst (N := 1) rfl ?_); refine box_event ?hg (N := 1) ?hd (cs := #[.slice A0_0 l0_0.length c0_0]) (t := 24) ?hr ?_; (case hd => rfl); (case hg => rfl); (case hr => first | (go_simp; done) | (go_simp; rfl)); intro gb275 hg w84 hbox hb; have BK275 := Aside0.mk hbox; have GW275 := ge_ HB hg; have GE275 := ge_ HB hg; replace HB := Aside0.mk (bt_ HB hb); clear hb hbox hg; have hcz85_0 := cz_ BK275 0 (.slice A0_0 l0_0.length c0_0); have hfz85_0 := blk_frozen BK275.out 0) | ((with_reducible refine gate_callee (f := 12) rfl ?_); refine gl_ (some 13) Try.func12 #[.agg #[.slice A0_0 l0_0.length c0_0], .int .i64 1048576] ?_; (with_reducible refine (laws_szTable.calls _ _ l0_0 1048576 t276 _ ?side1 ?side2 A2.out).mono ?_); (case side1 => exact cb_ HR0_0 HB); (case side2 => exact HC0_0.out); rintro e w86 ⟨rfl, hb⟩; refine ⟨_, rfl, ?_⟩; replace BK275 := Aside0.mk (bb_ BK275 hb); replace HB := Aside0.mk (bt_ HB hb); (try clear hb); (try clear hb2); (try clear hk); (try clear hi); have hcz87_0 := cz_ BK275 0 (.slice A0_0 l0_0.length c0_0); have hfz87_0 := blk_frozen BK275.out 0) | ((with_reducible refine gate_callee (f := 14) rfl ?_); refine gl_ (some 17) Try.func14 #[.agg #[.slice A0_0 l0_0.length c0_0]] ?_; (with_reducible refine (laws_toTable.calls k _ _ l0_0 t277 _ ?side1 ?side2 A7.out).mono ?_); (case side1 => exact cb_ HR0_0 HB); (case side2 => exact HC0_0.out); rintro e w88 ⟨v278, rfl, ho0, hb⟩; refine ⟨_, rfl, ?_⟩; have HO279 := Aside0.mk (Kd.R_lower ho0 (bz_ HB)); replace BK275 := Aside0.mk (bb_ BK275 hb); replace HB := Aside0.mk (bt_ HB hb); (try clear hb); (try clear hb2); (try clear hk); (try clear hi); (try clear ho0); obtain ⟨Ao89, co89, eo89⟩ := Kd.R_slice HO279.out; subst eo89) | ((with_reducible refine gate_callee (f := 32) rfl ?_); refine gl_ (some 18) Try.func32 #[.agg #[.slice Ao89 t277.length co89]] ?_; (with_reducible refine (spec_TableSpans.calls k _ _ t277 t280 _ ?side1 ?side2 A8.out).mono ?_); (case side1 => exact rc_ HO279); (case side2 => exact (Kd.R_reads' HO279.out).2.1); rintro e w90 ⟨v281, rfl, ho0, hb⟩; refine ⟨_, rfl, ?_⟩; have HO282 := Aside0.mk (Kd.R_lower ho0 (bz_ HB)); replace HO279 := rb_ HO279 hb; replace BK275 := Aside0.mk (bb_ BK275 hb); replace HB := Aside0.mk (bt_ HB hb); (try clear hb); (try clear hb2); (try clear hk); (try clear hi); (try clear ho0); have hcz91_0 := cz_ BK275 0 (.slice A0_0 l0_0.length c0_0); have hfz91_0 := blk_frozen BK275.out 0) | ((with_reducible refine gate_callee (f := 14) rfl ?_); refine gl_ (some 20) Try.func14 #[.agg #[.slice A0_0 l0_0.length c0_0]] ?_; (with_reducible refine (laws_toTable.calls k _ _ l0_0 t283 _ ?side1 ?side2 A9.out).mono ?_); (case side1 => exact cb_ HR0_0 HB); (case side2 => exact HC0_0.out); rintro e w92 ⟨v284, rfl, ho0, hb⟩; refine ⟨_, rfl, ?_⟩; have HO285 := Aside0.mk (Kd.R_lower (Kd.R_new' ho0 (Kd.R_lt (hd_ HO279))) (bz_ HB)); replace HO282 := rb_ HO282 hb; replace HO279 := Aside0.mk (Kd.R_elder' (hd_ HO279) (Kd.R_base ho0) hb); replace BK275 := Aside0.mk (bb_ BK275 hb); replace HB := Aside0.mk (bt_ HB hb); (try clear hb); (try clear hb2); (try clear hk); (try clear hi); (try clear ho0)) | ((with_reducible refine gate_dst (N := 5) rfl ?_); refine box_event ?hg (N := 5) ?hd (cs := #[.slice none 0 0]) (t := 34) ?hr ?_; (case hd => rfl); (case hg => rfl); (case hr => first | (go_simp; done) | (go_simp; rfl)); intro gb286 hg w93 hbox hb; have BK286 := Aside0.mk hbox; have GW286 := ge_ HB hg; have GE286 := ge_ HB hg; have NB275_286 := nl_ BK275 hg; have NB286_275 := ng_ BK275 hg; replace HO279 := rb_ HO279 hb; replace HO282 := rb_ HO282 hb; replace HO285 := rb_ HO285 hb; replace HB := Aside0.mk (bt_ HB hb); replace BK275 := Aside0.mk (bb_ BK275 hb); clear hb hbox hg; obtain ⟨Ao94, co94, eo94⟩ := Kd.R_slice HO285.out; subst eo94; have hnb95 := NB286_275.out; have hnc95 := NB275_286.out; have hcz96_0 := cz_ BK286 0 (.slice none 0 0); have hfz96_0 := blk_frozen BK286.out 0) | ((with_reducible refine gate_callee (f := 33) rfl ?_); refine gl_ (some 22) Try.func33 #[.agg #[.slice Ao94 t283.length co94]] ?_; (with_reducible refine (impl_TableSpans.calls k _ _ t283 t287 _ ?side1 ?side2 A10.out).mono ?_); (case side1 => refine (Kd.R_reads' (e := 29) (base := w.heap.size) (ok := fun k_ => (True ∧ some k_ ≠ (.slice Ao89 t277.length co89 : Value).ownBlock)) (n := t283.length) (c := co94) ?_).2.2; exact (hs_ HO285 BK286)); (case side2 => exact (Kd.R_reads' HO285.out).2.1); rintro e w97 ⟨v288, rfl, ho0, hb⟩; refine ⟨_, rfl, ?_⟩; have HO289 := Aside0.mk (Kd.R_lower (Kd.R_new' ho0 (Kd.R_lt (hs_ HO282 BK286))) (bz_ HB)); replace HO279 := rs_ HO279 BK286 hb; replace HO285 := rs_ HO285 BK286 hb; replace HO282 := Aside0.mk (Kd.R_elder' (hs_ HO282 BK286) (Kd.R_base ho0) hb); replace BK275 := bf_ BK275 NB275_286 hb; replace BK286 := Aside0.mk (blk_below (g := gb286) (o := .cells #[.slice Ao94 t283.length co94] 34 (0, 0)) (by (with_reducible repeat (first | refine blk_drewN ?_ _ | refine blk_drew ?_ | refine blk_alloc ?_ _)); refine blk_put (cs := #[.slice none 0 0]) ?_ 0 _ rfl; (with_reducible repeat (first | refine blk_drewN ?_ _ | refine blk_drew ?_ | refine blk_alloc ?_ _)); exact BK286.out) hb); replace HB := Aside0.mk (bt_ HB hb); (try clear hb); (try clear hb2); (try clear hk); (try clear hi); (try clear ho0); obtain ⟨Ao98, co98, eo98⟩ := Kd.R_slice HO289.out; subst eo98; obtain ⟨Ao99, co99, eo99⟩ := Kd.R_slice HO282.out; subst eo99) | ((with_reducible refine gate_callee (f := 34) rfl ?_); refine gl_ (some 25) Try.func34 #[.slice Ao98 t287.length co98, .slice Ao99 t280.length co99] ?_; (with_reducible refine (laws_eqIntS.calls k _ _ t287 _ _ t280 true _ ?side1 ?side2 ?side3 ?side4 A11.out).mono ?_); (case side1 => exact rc_ HO289); (case side2 => exact (Kd.R_reads' HO289.out).2.1); (case side3 => exact rc_ HO282); (case side4 => exact (Kd.R_reads' HO282.out).2.1); rintro e w' ⟨rfl, ⟨nd, rfl⟩⟩; refine ⟨_, rfl, ?_⟩))
    (try (rw [drewN_self w97]; generalize hq_ : World.drewN w97 _ = w97; replace HO279 : Aside0 (Kd.R k29 29 w97 w.heap.size (fun k_ => some k_ ≠ (.slice Ao94 t283.length co94 : Value).ownBlock) (.slice Ao89 t277.length co89) t277) := ⟨by rw [← hq_]; exact (by (with_reducible repeat (first | apply Kd.R_alloc | apply Kd.R_drewN | apply Kd.R_drew)); exact Kd.R_mono HO279.out (fun _ hk => hk.2))⟩; replace HO282 : Aside0 (Kd.R (Kd.int .i64) 3 w97 w.heap.size (fun k_ => some k_ ≠ (.slice Ao98 t287.length co98 : Value).ownBlock) (.slice Ao99 t280.length co99) t280) := ⟨by rw [← hq_]; exact (by (with_reducible repeat (first | apply Kd.R_alloc | apply Kd.R_drewN | apply Kd.R_drew)); exact Kd.R_mono HO282.out (fun _ hk => hk.2))⟩; replace HO285 : Aside0 (Kd.R k29 29 w97 w.heap.size (fun k_ => some k_ ≠ (.slice Ao89 t277.length co89 : Value).ownBlock) (.slice Ao94 t283.length co94) t283) := ⟨by rw [← hq_]; exact (by (with_reducible repeat (first | apply Kd.R_alloc | apply Kd.R_drewN | apply Kd.R_drew)); exact Kd.R_mono HO285.out (fun _ hk => hk.2))⟩; replace HO289 : Aside0 (Kd.R (Kd.int .i64) 3 w97 w.heap.size (fun k_ => some k_ ≠ (.slice Ao99 t280.length co99 : Value).ownBlock) (.slice Ao98 t287.length co98) t287) := ⟨by rw [← hq_]; exact (by (with_reducible repeat (first | apply Kd.R_alloc | apply Kd.R_drewN | apply Kd.R_drew)); exact Kd.R_mono HO289.out (fun _ hk => hk.2))⟩; replace BK275 : Aside0 (w97.heap[gb275]? = some (.cells #[.slice A0_0 l0_0.length c0_0] 24 (0, 0))) := ⟨by rw [← hq_]; exact (by (with_reducible repeat (first | refine blk_drewN ?_ _ | refine blk_drew ?_ | refine blk_alloc ?_ _)); exact BK275.out)⟩; replace BK286 : Aside0 (w97.heap[gb286]? = some (.cells #[.slice Ao94 t283.length co94] 34 (0, 0))) := ⟨by rw [← hq_]; exact (by (with_reducible repeat (first | refine blk_drewN ?_ _ | refine blk_drew ?_ | refine blk_alloc ?_ _)); exact BK286.out)⟩; replace HB : Aside0 (Below w.heap.size w w97) := ⟨by rw [← hq_]; exact (by repeat (first | (with_reducible first | exact HB.out | apply below_alloc | apply pw_below_drewN | apply below_drew1 | refine below_set ?_ GE275.out | refine below_set ?_ GE286.out) | exact HB.out))⟩; clear hq_))
    replace HO279 := Aside0.mk (Kd.R_drew HO279.out)
    replace HO282 := Aside0.mk (Kd.R_drew HO282.out)
    replace HO285 := Aside0.mk (Kd.R_drew HO285.out)
    replace HO289 := Aside0.mk (Kd.R_drew HO289.out)
    replace BK275 := Aside0.mk (blk_drew BK275.out)
    replace BK286 := Aside0.mk (blk_drew BK286.out)
    replace HB := Aside0.mk (below_drew1 HB.out)
    refine start_ (n := 5) (S := fun w' => w'.cell? ⟨gb286, 0, none⟩ = some (.slice Ao94 t283.length co94) ∧ w'.cell? ⟨gb275, 0, none⟩ = some (.slice A0_0 l0_0.length c0_0)) (ds := []) ba13_0 (by kernel_rfl) rfl rfl ⟨(blk_cell BK286.out 0).trans rfl, (blk_cell BK275.out 0).trans rfl⟩ (fun hHeld => ?_)
    generalize w97.drew = w100 at HO279 HO282 HO285 HO289 BK275 BK286 HB hHeld ⊢
    refine take_ (i := 0) (N := some 27) (v := ?_) (a' := ?_) ba13_1 rfl rfl (by kernel_rfl) (fun _ _ _ h => h) (Or.inl ⟨by rfl, ?_⟩) hHeld ?_ ?_
    rotate_left; · rintro w' ⟨s0, s1⟩; go_simp; with_reducible rfl
    rotate_left; · simp only [Act.put, List.setIfInBounds_toArray, List.set_cons_zero, List.set_cons_succ, i64_w, i32_w]; rfl
    refine take_ (i := 1) (N := some 28) (v := ?_) (a' := ?_) ba13_2 rfl rfl (by kernel_rfl) (fun _ _ _ h => h) (Or.inl ⟨by rfl, ?_⟩) hHeld ?_ ?_
    rotate_left; · rintro w' ⟨s0, s1⟩; go_simp; with_reducible rfl
    rotate_left; · simp only [Act.put, List.setIfInBounds_toArray, List.set_cons_zero, List.set_cons_succ, i64_w, i32_w]; rfl
    refine one_ (i := 2) (N := some 29) ba13_3 rfl rfl (by kernel_rfl) (by decide) (fun K hK => ?_)
    refine gz_ Try.func14 #[.agg #[.slice A0_0 l0_0.length c0_0]] ?_
    with_reducible refine (laws_toTable.calls k _ _ l0_0 t291 _ ?side1 ?side2 A13.out).mono ?_
    (case side1 => exact cb_ HR0_0 HB)
    (case side2 => exact HC0_0.out)
    rintro e w101 ⟨v292, rfl, ho0, hb⟩
    refine ⟨_, rfl, ?_⟩
    have HO293 := Aside0.mk (Kd.R_lower (Kd.R_new' (Kd.R_new' ho0 (Kd.R_lt (hd_ HO279))) (Kd.R_lt (hd_ HO285))) (bz_ HB))
    replace HO282 := rb_ HO282 hb
    replace HO289 := rb_ HO289 hb
    replace HO279 := Aside0.mk (Kd.R_elder' (hd_ HO279) (Kd.R_base ho0) hb)
    replace HO285 := Aside0.mk (Kd.R_elder' (hd_ HO285) (Kd.R_base ho0) hb)
    replace BK275 := Aside0.mk (bb_ BK275 hb)
    replace BK286 := Aside0.mk (bb_ BK286 hb)
    replace HB := Aside0.mk (bt_ HB hb)
    (try clear hb)
    (try clear hb2)
    (try clear hk)
    (try clear hi)
    (try clear ho0)
    obtain ⟨Ao102, co102, eo102⟩ := Kd.R_slice HO293.out
    (first | subst eo102 | (injection eo102 with f1_ f2_ f3_; have f4_ := f1_.symm; have f5_ := f3_.symm; clear f1_ f2_ f3_; subst f4_; subst f5_))
    refine hK.out _ _ ⟨(blk_cell BK286.out 0).trans rfl, (blk_cell BK275.out 0).trans rfl⟩ (fun hHeld => ?_)
    clear hK K
    refine nz_ 29 ?_
    refine one_ (i := 3) (N := some 30) ba13_4 rfl rfl (by kernel_rfl) (by decide) (fun K hK => ?_)
    refine gz_ Try.func17 #[.agg #[.slice Ao94 t283.length co94], .agg #[.slice Ao102 t291.length co102]] ?_
    with_reducible refine (laws_eqTable.calls k _ _ t283 _ _ t291 false _ ?side1 ?side2 ?side3 ?side4 A14.out).mono ?_
    (case side1 => exact rc_ HO285)
    (case side2 => exact (Kd.R_reads' HO285.out).2.1)
    (case side3 => exact rc_ HO293)
    (case side4 => exact (Kd.R_reads' HO293.out).2.1)
    rintro e w103 ⟨rfl, hb⟩
    refine ⟨_, rfl, ?_⟩
    replace HO279 := rb_ HO279 hb
    replace HO282 := rb_ HO282 hb
    replace HO285 := rb_ HO285 hb
    replace HO289 := rb_ HO289 hb
    replace HO293 := rb_ HO293 hb
    replace BK275 := Aside0.mk (bb_ BK275 hb)
    replace BK286 := Aside0.mk (bb_ BK286 hb)
    replace HB := Aside0.mk (bt_ HB hb)
    (try clear hb)
    (try clear hb2)
    (try clear hk)
    (try clear hi)
    refine hK.out _ _ ⟨(blk_cell BK286.out 0).trans rfl, (blk_cell BK275.out 0).trans rfl⟩ (fun hHeld => ?_)
    clear hK K
    refine nz_ 30 ?_
    refine pure_ (i := 4) (N := some 31) (v := ?_) (a' := ?_) ba13_5 rfl rfl (by kernel_rfl) (fun _ _ _ h => h) (Or.inl ⟨by rfl, ?_⟩) ?_ ?_
    rotate_left; · intro w'; go_simp; with_reducible rfl
    rotate_left; · simp only [Act.put, List.setIfInBounds_toArray, List.set_cons_zero, List.set_cons_succ, i64_w, i32_w]; rfl
    refine done_ (by kernel_rfl) ?_
    try go_wp2
    go_ret
    exact ⟨by first | rfl | (simp [errW_none, errW_some] <;> rfl) | (simp [*, errW_none, errW_some] <;> rfl), by repeat (first | (with_reducible first | exact HB.out | apply below_alloc | apply pw_below_drewN | apply below_drew1 | refine below_set ?_ GE275.out | refine below_set ?_ GE286.out) | exact HB.out)⟩
  ·replace c12 := Bool.eq_false_iff.mpr c12
   subst c12
   rw [if_neg (show ¬ (false = true) by decide)] at H
   obtain rfl := Option.some.inj H
   go_enter Try.func9, Try.ntmps9
   go_wp2_with (first | ((with_reducible refine gate_dst (N := 1) rfl ?_); refine box_event ?hg (N := 1) ?hd (cs := #[.slice A0_0 l0_0.length c0_0]) (t := 24) ?hr ?_; (case hd => rfl); (case hg => rfl); (case hr => first | (go_simp; done) | (go_simp; rfl)); intro gb275 hg w104 hbox hb; have BK275 := Aside0.mk hbox; have GW275 := ge_ HB hg; have GE275 := ge_ HB hg; replace HB := Aside0.mk (bt_ HB hb); clear hb hbox hg; have hcz105_0 := cz_ BK275 0 (.slice A0_0 l0_0.length c0_0); have hfz105_0 := blk_frozen BK275.out 0) | ((with_reducible refine gate_callee (f := 12) rfl ?_); refine gl_ (some 13) Try.func12 #[.agg #[.slice A0_0 l0_0.length c0_0], .int .i64 1048576] ?_; (with_reducible refine (laws_szTable.calls _ _ l0_0 1048576 t276 _ ?side1 ?side2 A2.out).mono ?_); (case side1 => exact cb_ HR0_0 HB); (case side2 => exact HC0_0.out); rintro e w106 ⟨rfl, hb⟩; refine ⟨_, rfl, ?_⟩; replace BK275 := Aside0.mk (bb_ BK275 hb); replace HB := Aside0.mk (bt_ HB hb); (try clear hb); (try clear hb2); (try clear hk); (try clear hi); have hcz107_0 := cz_ BK275 0 (.slice A0_0 l0_0.length c0_0); have hfz107_0 := blk_frozen BK275.out 0) | ((with_reducible refine gate_callee (f := 14) rfl ?_); refine gl_ (some 17) Try.func14 #[.agg #[.slice A0_0 l0_0.length c0_0]] ?_; (with_reducible refine (laws_toTable.calls k _ _ l0_0 t277 _ ?side1 ?side2 A7.out).mono ?_); (case side1 => exact cb_ HR0_0 HB); (case side2 => exact HC0_0.out); rintro e w108 ⟨v278, rfl, ho0, hb⟩; refine ⟨_, rfl, ?_⟩; have HO279 := Aside0.mk (Kd.R_lower ho0 (bz_ HB)); replace BK275 := Aside0.mk (bb_ BK275 hb); replace HB := Aside0.mk (bt_ HB hb); (try clear hb); (try clear hb2); (try clear hk); (try clear hi); (try clear ho0); obtain ⟨Ao109, co109, eo109⟩ := Kd.R_slice HO279.out; subst eo109) | ((with_reducible refine gate_callee (f := 32) rfl ?_); refine gl_ (some 18) Try.func32 #[.agg #[.slice Ao109 t277.length co109]] ?_; (with_reducible refine (spec_TableSpans.calls k _ _ t277 t280 _ ?side1 ?side2 A8.out).mono ?_); (case side1 => exact rc_ HO279); (case side2 => exact (Kd.R_reads' HO279.out).2.1); rintro e w110 ⟨v281, rfl, ho0, hb⟩; refine ⟨_, rfl, ?_⟩; have HO282 := Aside0.mk (Kd.R_lower ho0 (bz_ HB)); replace HO279 := rb_ HO279 hb; replace BK275 := Aside0.mk (bb_ BK275 hb); replace HB := Aside0.mk (bt_ HB hb); (try clear hb); (try clear hb2); (try clear hk); (try clear hi); (try clear ho0); have hcz111_0 := cz_ BK275 0 (.slice A0_0 l0_0.length c0_0); have hfz111_0 := blk_frozen BK275.out 0) | ((with_reducible refine gate_callee (f := 14) rfl ?_); refine gl_ (some 20) Try.func14 #[.agg #[.slice A0_0 l0_0.length c0_0]] ?_; (with_reducible refine (laws_toTable.calls k _ _ l0_0 t283 _ ?side1 ?side2 A9.out).mono ?_); (case side1 => exact cb_ HR0_0 HB); (case side2 => exact HC0_0.out); rintro e w112 ⟨v284, rfl, ho0, hb⟩; refine ⟨_, rfl, ?_⟩; have HO285 := Aside0.mk (Kd.R_lower (Kd.R_new' ho0 (Kd.R_lt (hd_ HO279))) (bz_ HB)); replace HO282 := rb_ HO282 hb; replace HO279 := Aside0.mk (Kd.R_elder' (hd_ HO279) (Kd.R_base ho0) hb); replace BK275 := Aside0.mk (bb_ BK275 hb); replace HB := Aside0.mk (bt_ HB hb); (try clear hb); (try clear hb2); (try clear hk); (try clear hi); (try clear ho0)) | ((with_reducible refine gate_dst (N := 5) rfl ?_); refine box_event ?hg (N := 5) ?hd (cs := #[.slice none 0 0]) (t := 34) ?hr ?_; (case hd => rfl); (case hg => rfl); (case hr => first | (go_simp; done) | (go_simp; rfl)); intro gb286 hg w113 hbox hb; have BK286 := Aside0.mk hbox; have GW286 := ge_ HB hg; have GE286 := ge_ HB hg; have NB275_286 := nl_ BK275 hg; have NB286_275 := ng_ BK275 hg; replace HO279 := rb_ HO279 hb; replace HO282 := rb_ HO282 hb; replace HO285 := rb_ HO285 hb; replace HB := Aside0.mk (bt_ HB hb); replace BK275 := Aside0.mk (bb_ BK275 hb); clear hb hbox hg; obtain ⟨Ao114, co114, eo114⟩ := Kd.R_slice HO285.out; subst eo114; have hnb115 := NB286_275.out; have hnc115 := NB275_286.out; have hcz116_0 := cz_ BK286 0 (.slice none 0 0); have hfz116_0 := blk_frozen BK286.out 0) | ((with_reducible refine gate_callee (f := 33) rfl ?_); refine gl_ (some 22) Try.func33 #[.agg #[.slice Ao114 t283.length co114]] ?_; (with_reducible refine (impl_TableSpans.calls k _ _ t283 t287 _ ?side1 ?side2 A10.out).mono ?_); (case side1 => refine (Kd.R_reads' (e := 29) (base := w.heap.size) (ok := fun k_ => (True ∧ some k_ ≠ (.slice Ao109 t277.length co109 : Value).ownBlock)) (n := t283.length) (c := co114) ?_).2.2; exact (hs_ HO285 BK286)); (case side2 => exact (Kd.R_reads' HO285.out).2.1); rintro e w117 ⟨v288, rfl, ho0, hb⟩; refine ⟨_, rfl, ?_⟩; have HO289 := Aside0.mk (Kd.R_lower (Kd.R_new' ho0 (Kd.R_lt (hs_ HO282 BK286))) (bz_ HB)); replace HO279 := rs_ HO279 BK286 hb; replace HO285 := rs_ HO285 BK286 hb; replace HO282 := Aside0.mk (Kd.R_elder' (hs_ HO282 BK286) (Kd.R_base ho0) hb); replace BK275 := bf_ BK275 NB275_286 hb; replace BK286 := Aside0.mk (blk_below (g := gb286) (o := .cells #[.slice Ao114 t283.length co114] 34 (0, 0)) (by (with_reducible repeat (first | refine blk_drewN ?_ _ | refine blk_drew ?_ | refine blk_alloc ?_ _)); refine blk_put (cs := #[.slice none 0 0]) ?_ 0 _ rfl; (with_reducible repeat (first | refine blk_drewN ?_ _ | refine blk_drew ?_ | refine blk_alloc ?_ _)); exact BK286.out) hb); replace HB := Aside0.mk (bt_ HB hb); (try clear hb); (try clear hb2); (try clear hk); (try clear hi); (try clear ho0); obtain ⟨Ao118, co118, eo118⟩ := Kd.R_slice HO289.out; subst eo118; obtain ⟨Ao119, co119, eo119⟩ := Kd.R_slice HO282.out; subst eo119) | ((with_reducible refine gate_callee (f := 34) rfl ?_); refine gl_ (some 25) Try.func34 #[.slice Ao118 t287.length co118, .slice Ao119 t280.length co119] ?_; (with_reducible refine (laws_eqIntS.calls k _ _ t287 _ _ t280 false _ ?side1 ?side2 ?side3 ?side4 A11.out).mono ?_); (case side1 => exact rc_ HO289); (case side2 => exact (Kd.R_reads' HO289.out).2.1); (case side3 => exact rc_ HO282); (case side4 => exact (Kd.R_reads' HO282.out).2.1); rintro e w' ⟨rfl, ⟨nd, rfl⟩⟩; refine ⟨_, rfl, ?_⟩))
   go_ret
   exact ⟨by first | rfl | (simp [errW_none, errW_some] <;> rfl) | (simp [*, errW_none, errW_some] <;> rfl), by repeat (first | (with_reducible first | exact HB.out | apply below_alloc | apply pw_below_drewN | apply below_drew1 | refine below_set ?_ GE275.out | refine below_set ?_ GE286.out) | exact HB.out)⟩

end Go.Proofs.Ytjepabdgmholjaa.QFnExactTableSpans
