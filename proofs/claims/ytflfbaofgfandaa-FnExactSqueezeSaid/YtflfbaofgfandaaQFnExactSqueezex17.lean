/- Contracts of functions that the law reaches: what each call returns and what it leaves in memory. Made by this session over the print of the kit. -/
import Derived.Test.YtflfbaofgfandaaQFnExactSqueezex0
import Derived.Test.YtflfbaofgfandaaQFnExactSqueezex3
import Derived.Test.YtflfbaofgfandaaQFnExactSqueezex4
import Derived.Test.YtflfbaofgfandaaQFnExactSqueezex11
import Derived.Test.YtflfbaofgfandaaQFnExactSqueezex16
namespace Go.Proofs.Ytflfbaofgfandaa.QFnExactSqueeze
open Go.RowKit Go.Proofs.YtflfbaofgfandaaQ.PrintWords Go.Proofs.YtflfbaofgfandaaQ.PrintLast Go.Proofs.YtflfbaofgfandaaQ.PrintMore
attribute [local go_sem] max2_int min2_int max_two min_two max_three min_three max_four min_four   -- for this text's walks alone
set_option linter.unusedVariables false
set_option linter.unusedSimpArgs false
def ba17_0 : Array Bool := #[false, false, false, false, false]
def ba17_1 : Array Bool := #[true, false, false, false, false]
def ba17_2 : Array Bool := #[true, true, false, false, false]
def ba17_3 : Array Bool := #[true, true, true, false, false]
def ba17_4 : Array Bool := #[true, true, true, true, false]
def ba17_5 : Array Bool := #[true, true, true, true, true]

/-! ### laws_FnExactSqueeze: function 5 -/
mutual
def laws_FnExactSqueeze.j0 : Nat → Bool → Bool → Bool → List (S40) → List (S43) → List (S43) → List (S43) → Option (Bool)
 | 0, _, _, _, _, _, _, _ => none
 | k + 1, x5, x8, x40, x317000, x326000, x330000, x335000 => if x40 = true then (some false) else ((laws_toTable.f k x317000).bind fun t336 => ((laws_eqTable.f k x330000 t336).bind fun t339 => (if t339 = true then ((laws_markTable.f k x330000 1).bind fun bt340 => (if bt340.1 < 0 then (laws_FnExactSqueeze.j1 k x5 true x317000 x326000 x335000) else ((laws_eqTable.f k x335000 x326000).bind fun t342 => (if t342 = true then (laws_FnExactSqueeze.j1 k x5 (x8 != x5) x317000 x326000 x335000) else (laws_FnExactSqueeze.j1 k x5 true x317000 x326000 x335000))))) else (some false))))
def laws_FnExactSqueeze.j1 : Nat → Bool → Bool → List (S40) → List (S43) → List (S43) → Option (Bool)
 | 0, _, _, _, _, _ => none
 | k + 1, x5, x61, x317000, x326000, x335000 => if x61 = true then (some false) else ((laws_markTable.f k x335000 1).bind fun bt343 => ((laws_heldTable.f k bt343.2 1).bind fun t345 => (if t345 < 0 then (some false) else (if t345 = bt343.1 then ((laws_toTable.f k x317000).bind fun t346 => ((impl_Squeeze.f k t346).bind fun bt349 => ((laws_eqTable.f k bt349.1 x326000).bind fun t354 => (if t354 = true then (laws_FnExactSqueeze.j2 k bt343.1 (bt349.2 != x5) bt343.2) else (laws_FnExactSqueeze.j2 k bt343.1 true bt343.2))))) else (some false)))))
def laws_FnExactSqueeze.j2 : Nat → Int → Bool → List (S43) → Option (Bool)
 | 0, _, _, _ => none
 | k + 1, x10, x87, x335000 => if x87 = true then (some false) else ((laws_heldTable.f k x335000 1).bind fun t355 => (if t355 < 0 then (some false) else (if t355 = x10 then (some true) else (some false))))
end
def laws_FnExactSqueeze.f (k : Nat) (l0_0 : List (S40)) : Option (Bool) := (laws_szTable.f l0_0 1048576).bind fun t317 => (if t317 < 0 then (some true) else ((laws_toTable.f k l0_0).bind fun t318 => ((spec_Squeeze.f k t318).bind fun bt321 => ((laws_toTable.f k l0_0).bind fun t326 => ((impl_Squeeze.f k t326).bind fun bt330 => ((laws_eqTable.f k bt330.1 bt321.1).bind fun t335 => (if t335 = true then (laws_FnExactSqueeze.j0 k bt321.2 bt330.2 (bt330.2 != bt321.2) l0_0 bt321.1 t326 bt330.1) else (laws_FnExactSqueeze.j0 k bt321.2 bt330.2 true l0_0 bt321.1 t326 bt330.1))))))))
theorem laws_FnExactSqueeze.mono_l : ∀ k, (∀ y0 y1 y2 y3 y4 y5 y6, LeO (laws_FnExactSqueeze.j0 k y0 y1 y2 y3 y4 y5 y6) (laws_FnExactSqueeze.j0 (k + 1) y0 y1 y2 y3 y4 y5 y6)) ∧ (∀ y0 y1 y2 y3 y4, LeO (laws_FnExactSqueeze.j1 k y0 y1 y2 y3 y4) (laws_FnExactSqueeze.j1 (k + 1) y0 y1 y2 y3 y4)) ∧ (∀ y0 y1 y2, LeO (laws_FnExactSqueeze.j2 k y0 y1 y2) (laws_FnExactSqueeze.j2 (k + 1) y0 y1 y2))
 | 0 => ⟨fun _ _ _ _ _ _ _ r h => by simp [laws_FnExactSqueeze.j0] at h, fun _ _ _ _ _ r h => by simp [laws_FnExactSqueeze.j1] at h, fun _ _ _ r h => by simp [laws_FnExactSqueeze.j2] at h⟩
 | k + 1 => by
  obtain ⟨ih0, ih1, ih2⟩ := laws_FnExactSqueeze.mono_l k
  refine ⟨?_, ?_, ?_⟩
  ·intro y0 y1 y2 y3 y4 y5 y6
   unfold laws_FnExactSqueeze.j0
   repeat' first
   | (with_reducible exact ih0 _ _ _ _ _ _ _)
   | (with_reducible exact ih1 _ _ _ _ _)
   | (with_reducible exact ih2 _ _ _)
   | (with_reducible exact impl_Squeeze.mono _ _)
   | (with_reducible exact laws_eqTable.mono _ _ _)
   | (with_reducible exact laws_heldTable.mono _ _ _)
   | (with_reducible exact laws_markTable.mono _ _ _)
   | (with_reducible exact laws_toTable.mono _ _)
   | (with_reducible exact spec_Squeeze.mono _ _)
   | (with_reducible exact LeO.refl _)
   | (with_reducible exact LeO.none _)
   | (with_reducible refine LeO.ite ?_ ?_)
   | (with_reducible refine LeO.bind ?_ (fun _ => ?_))
   | exact ih0 _ _ _ _ _ _ _
   | exact ih1 _ _ _ _ _
   | exact ih2 _ _ _
   | exact impl_Squeeze.mono _ _
   | exact laws_eqTable.mono _ _ _
   | exact laws_heldTable.mono _ _ _
   | exact laws_markTable.mono _ _ _
   | exact laws_toTable.mono _ _
   | exact spec_Squeeze.mono _ _
   | exact LeO.none _
   | refine LeO.ite ?_ ?_
   | refine LeO.bind ?_ (fun _ => ?_)
  ·intro y0 y1 y2 y3 y4
   unfold laws_FnExactSqueeze.j1
   repeat' first
   | (with_reducible exact ih0 _ _ _ _ _ _ _)
   | (with_reducible exact ih1 _ _ _ _ _)
   | (with_reducible exact ih2 _ _ _)
   | (with_reducible exact impl_Squeeze.mono _ _)
   | (with_reducible exact laws_eqTable.mono _ _ _)
   | (with_reducible exact laws_heldTable.mono _ _ _)
   | (with_reducible exact laws_markTable.mono _ _ _)
   | (with_reducible exact laws_toTable.mono _ _)
   | (with_reducible exact spec_Squeeze.mono _ _)
   | (with_reducible exact LeO.refl _)
   | (with_reducible exact LeO.none _)
   | (with_reducible refine LeO.ite ?_ ?_)
   | (with_reducible refine LeO.bind ?_ (fun _ => ?_))
   | exact ih0 _ _ _ _ _ _ _
   | exact ih1 _ _ _ _ _
   | exact ih2 _ _ _
   | exact impl_Squeeze.mono _ _
   | exact laws_eqTable.mono _ _ _
   | exact laws_heldTable.mono _ _ _
   | exact laws_markTable.mono _ _ _
   | exact laws_toTable.mono _ _
   | exact spec_Squeeze.mono _ _
   | exact LeO.none _
   | refine LeO.ite ?_ ?_
   | refine LeO.bind ?_ (fun _ => ?_)
  ·intro y0 y1 y2
   unfold laws_FnExactSqueeze.j2
   repeat' first
   | (with_reducible exact ih0 _ _ _ _ _ _ _)
   | (with_reducible exact ih1 _ _ _ _ _)
   | (with_reducible exact ih2 _ _ _)
   | (with_reducible exact impl_Squeeze.mono _ _)
   | (with_reducible exact laws_eqTable.mono _ _ _)
   | (with_reducible exact laws_heldTable.mono _ _ _)
   | (with_reducible exact laws_markTable.mono _ _ _)
   | (with_reducible exact laws_toTable.mono _ _)
   | (with_reducible exact spec_Squeeze.mono _ _)
   | (with_reducible exact LeO.refl _)
   | (with_reducible exact LeO.none _)
   | (with_reducible refine LeO.ite ?_ ?_)
   | (with_reducible refine LeO.bind ?_ (fun _ => ?_))
   | exact ih0 _ _ _ _ _ _ _
   | exact ih1 _ _ _ _ _
   | exact ih2 _ _ _
   | exact impl_Squeeze.mono _ _
   | exact laws_eqTable.mono _ _ _
   | exact laws_heldTable.mono _ _ _
   | exact laws_markTable.mono _ _ _
   | exact laws_toTable.mono _ _
   | exact spec_Squeeze.mono _ _
   | exact LeO.none _
   | refine LeO.ite ?_ ?_
   | refine LeO.bind ?_ (fun _ => ?_)
theorem laws_FnExactSqueeze.mono : ∀ a0 k, LeO (laws_FnExactSqueeze.f k a0) (laws_FnExactSqueeze.f (k + 1) a0) := by
 intro a0 k
 obtain ⟨ih0, ih1, ih2⟩ := laws_FnExactSqueeze.mono_l k
 unfold laws_FnExactSqueeze.f
 repeat' first
   | (with_reducible exact ih0 _ _ _ _ _ _ _)
   | (with_reducible exact ih1 _ _ _ _ _)
   | (with_reducible exact ih2 _ _ _)
   | (with_reducible exact impl_Squeeze.mono _ _)
   | (with_reducible exact laws_eqTable.mono _ _ _)
   | (with_reducible exact laws_heldTable.mono _ _ _)
   | (with_reducible exact laws_markTable.mono _ _ _)
   | (with_reducible exact laws_toTable.mono _ _)
   | (with_reducible exact spec_Squeeze.mono _ _)
   | (with_reducible exact LeO.refl _)
   | (with_reducible exact LeO.none _)
   | (with_reducible refine LeO.ite ?_ ?_)
   | (with_reducible refine LeO.bind ?_ (fun _ => ?_))
   | exact ih0 _ _ _ _ _ _ _
   | exact ih1 _ _ _ _ _
   | exact ih2 _ _ _
   | exact impl_Squeeze.mono _ _
   | exact laws_eqTable.mono _ _ _
   | exact laws_heldTable.mono _ _ _
   | exact laws_markTable.mono _ _ _
   | exact laws_toTable.mono _ _
   | exact spec_Squeeze.mono _ _
   | exact LeO.none _
   | refine LeO.ite ?_ ?_
   | refine LeO.bind ?_ (fun _ => ?_)
set_option maxHeartbeats 8000000 in
set_option maxRecDepth 100000 in
theorem laws_FnExactSqueeze.calls (k : Nat) (A0_0 : Option Addr) (c0_0 : Nat) (l0_0 : List (S40)) (r : Bool) (w : World) (hr0_0 : Kd.C k40 w A0_0 l0_0.length l0_0) (hc0_0 : l0_0.length ≤ c0_0) (h : laws_FnExactSqueeze.f k l0_0 = some r) :
  Calls Try.prog 5 #[.agg #[.slice A0_0 l0_0.length c0_0]] w fun e w' => e = .returned (.bool r) ∧ Below w.heap.size w w' := by
 have hu24 := Try.underlying24
 have hu30 := Try.underlying30
 have HR0_0 := Aside0.mk hr0_0
 have HC0_0 := Aside0.mk hc0_0
 clear hr0_0 hc0_0
 have HB := Aside0.mk (Below.refl w.heap.size w)
 have H : ((laws_szTable.f l0_0 1048576).bind fun t317 => (if t317 < 0 then (some true) else ((laws_toTable.f k l0_0).bind fun t318 => ((spec_Squeeze.f k t318).bind fun bt321 => ((laws_toTable.f k l0_0).bind fun t326 => ((impl_Squeeze.f k t326).bind fun bt330 => ((laws_eqTable.f k bt330.1 bt321.1).bind fun t335 => (if t335 = true then (laws_FnExactSqueeze.j0 k bt321.2 bt330.2 (bt330.2 != bt321.2) l0_0 bt321.1 t326 bt330.1) else (laws_FnExactSqueeze.j0 k bt321.2 bt330.2 true l0_0 bt321.1 t326 bt330.1))))))))) = some r := h
 clear h
 replace H := Option.bind_eq_some_iff.mp H
 obtain ⟨t317, A20, H⟩ := H
 have A2 := Aside0.mk A20
 clear A20
 by_cases c3 : t317 < 0
 ·rw [if_pos c3] at H
  have c3b0 : decide (t317 < 0) = true := decide_eq_true c3
  clear c3
  obtain rfl := Option.some.inj H
  go_enter Try.func5, Try.ntmps5
  go_wp2_with (first | ((with_reducible refine gate_dst (N := 1) rfl ?_); refine box_event ?hg (N := 1) ?hd (cs := #[.slice A0_0 l0_0.length c0_0]) (t := 24) ?hr ?_; (case hd => rfl); (case hg => rfl); (case hr => first | (go_simp; done) | (go_simp; rfl)); intro gb316 hg w4 hbox hb; have BK316 := Aside0.mk hbox; have GW316 := ge_ HB hg; have GE316 := ge_ HB hg; replace HB := Aside0.mk (bt_ HB hb); clear hb hbox hg; have hcz5_0 := cz_ BK316 0 (.slice A0_0 l0_0.length c0_0); have hfz5_0 := blk_frozen BK316.out 0) | ((with_reducible refine gate_callee (f := 7) rfl ?_); refine gl_ (some 16) Try.func7 #[.agg #[.slice A0_0 l0_0.length c0_0], .int .i64 1048576] ?_; (with_reducible refine (laws_szTable.calls _ _ l0_0 1048576 t317 _ ?side1 ?side2 A2.out).mono ?_); (case side1 => exact cb_ HR0_0 HB); (case side2 => exact HC0_0.out); rintro e w6 ⟨rfl, hb⟩; refine ⟨_, rfl, ?_⟩; replace BK316 := Aside0.mk (bb_ BK316 hb); replace HB := Aside0.mk (bt_ HB hb); (try clear hb); (try clear hb2); (try clear hk); (try clear hi)))
  go_ret
  exact ⟨by first | rfl | (simp [errW_none, errW_some] <;> rfl) | (simp [*, errW_none, errW_some] <;> rfl), by repeat (first | (with_reducible first | exact HB.out | apply below_alloc | apply pw_below_drewN | apply below_drew1 | refine below_set ?_ GE316.out) | exact HB.out)⟩
 rw [if_neg c3] at H
 have c3b0 : decide (t317 < 0) = false := decide_eq_false c3
 clear c3
 replace H := Option.bind_eq_some_iff.mp H
 obtain ⟨t318, A70, H⟩ := H
 have A7 := Aside0.mk A70
 clear A70
 replace H := Option.bind_eq_some_iff.mp H
 obtain ⟨⟨t321, t324⟩, A80, H⟩ := H
 have A8 := Aside0.mk A80
 clear A80
 replace H := Option.bind_eq_some_iff.mp H
 obtain ⟨t326, A90, H⟩ := H
 have A9 := Aside0.mk A90
 clear A90
 replace H := Option.bind_eq_some_iff.mp H
 obtain ⟨⟨t330, t333⟩, A100, H⟩ := H
 have A10 := Aside0.mk A100
 clear A100
 have HC11 := Aside0.mk H
 clear H
 go_enter Try.func5, Try.ntmps5
 go_upto_region 8 with (first | ((with_reducible refine gate_dst (N := 1) rfl ?_); refine box_event ?hg (N := 1) ?hd (cs := #[.slice A0_0 l0_0.length c0_0]) (t := 24) ?hr ?_; (case hd => rfl); (case hg => rfl); (case hr => first | (go_simp; done) | (go_simp; rfl)); intro gb316 hg w12 hbox hb; have BK316 := Aside0.mk hbox; have GW316 := ge_ HB hg; have GE316 := ge_ HB hg; replace HB := Aside0.mk (bt_ HB hb); clear hb hbox hg; have hcz13_0 := cz_ BK316 0 (.slice A0_0 l0_0.length c0_0); have hfz13_0 := blk_frozen BK316.out 0) | ((with_reducible refine gate_callee (f := 7) rfl ?_); refine gl_ (some 16) Try.func7 #[.agg #[.slice A0_0 l0_0.length c0_0], .int .i64 1048576] ?_; (with_reducible refine (laws_szTable.calls _ _ l0_0 1048576 t317 _ ?side1 ?side2 A2.out).mono ?_); (case side1 => exact cb_ HR0_0 HB); (case side2 => exact HC0_0.out); rintro e w14 ⟨rfl, hb⟩; refine ⟨_, rfl, ?_⟩; replace BK316 := Aside0.mk (bb_ BK316 hb); replace HB := Aside0.mk (bt_ HB hb); (try clear hb); (try clear hb2); (try clear hk); (try clear hi); have hcz15_0 := cz_ BK316 0 (.slice A0_0 l0_0.length c0_0); have hfz15_0 := blk_frozen BK316.out 0) | ((with_reducible refine gate_callee (f := 9) rfl ?_); refine gl_ (some 21) Try.func9 #[.agg #[.slice A0_0 l0_0.length c0_0]] ?_; (with_reducible refine (laws_toTable.calls k _ _ l0_0 t318 _ ?side1 ?side2 A7.out).mono ?_); (case side1 => exact cb_ HR0_0 HB); (case side2 => exact HC0_0.out); rintro e w16 ⟨v319, rfl, ho0, hb⟩; refine ⟨_, rfl, ?_⟩; have HO320 := Aside0.mk (Kd.R_lower ho0 (bz_ HB)); replace BK316 := Aside0.mk (bb_ BK316 hb); replace HB := Aside0.mk (bt_ HB hb); (try clear hb); (try clear hb2); (try clear hk); (try clear hi); (try clear ho0); obtain ⟨Ao17, co17, eo17⟩ := Kd.R_slice HO320.out; subst eo17) | ((with_reducible refine gate_callee (f := 18) rfl ?_); refine gl_ (some 22) Try.func18 #[.agg #[.slice Ao17 t318.length co17]] ?_; (with_reducible refine (spec_Squeeze.calls k _ _ t318 t321 t324 _ ?side1 ?side2 A8.out).mono ?_); (case side1 => exact rc_ HO320); (case side2 => exact (Kd.R_reads' HO320.out).2.1); rintro e w18 ⟨v322, rfl, ho0, hb⟩; refine ⟨_, rfl, ?_⟩; have HO323 := Aside0.mk (Kd.R_lower (Kd.R_new' ho0 (Kd.R_lt (hd_ HO320))) (bz_ HB)); replace HO320 := Aside0.mk (Kd.R_elder' (hd_ HO320) (Kd.R_base ho0) hb); replace BK316 := Aside0.mk (bb_ BK316 hb); replace HB := Aside0.mk (bt_ HB hb); (try clear hb); (try clear hb2); (try clear hk); (try clear hi); (try clear ho0)) | ((with_reducible refine gate_dst (N := 4) rfl ?_); refine box_event ?hg (N := 4) ?hd (cs := #[.slice none 0 0]) (t := 30) ?hr ?_; (case hd => rfl); (case hg => rfl); (case hr => first | (go_simp; done) | (go_simp; rfl)); intro gb325 hg w19 hbox hb; have BK325 := Aside0.mk hbox; have GW325 := ge_ HB hg; have GE325 := ge_ HB hg; have NB316_325 := nl_ BK316 hg; have NB325_316 := ng_ BK316 hg; replace HO320 := rb_ HO320 hb; replace HO323 := rb_ HO323 hb; replace HB := Aside0.mk (bt_ HB hb); replace BK316 := Aside0.mk (bb_ BK316 hb); clear hb hbox hg; obtain ⟨Ao20, co20, eo20⟩ := Kd.R_slice HO323.out; subst eo20; have hnb21 := NB325_316.out; have hnc21 := NB316_325.out; have hcz22_0 := cz_ BK325 0 (.slice none 0 0); have hfz22_0 := blk_frozen BK325.out 0; have hcz23_0 := cz_ BK316 0 (.slice A0_0 l0_0.length c0_0); have hfz23_0 := blk_frozen BK316.out 0) | ((with_reducible refine gate_callee (f := 9) rfl ?_); refine gl_ (some 26) Try.func9 #[.agg #[.slice A0_0 l0_0.length c0_0]] ?_; (with_reducible refine (laws_toTable.calls k _ _ l0_0 t326 _ ?side1 ?side2 A9.out).mono ?_); (case side1 => exact Kd.C_below HR0_0.out (by repeat (first | (with_reducible first | exact HB.out | apply below_alloc | apply pw_below_drewN | apply below_drew1 | refine below_set ?_ GE316.out | refine below_set ?_ GE325.out) | exact HB.out))); (case side2 => exact HC0_0.out); rintro e w24 ⟨v327, rfl, ho0, hb⟩; refine ⟨_, rfl, ?_⟩; have HO328 := Aside0.mk (Kd.R_lower (Kd.R_new' (Kd.R_new' ho0 (Kd.R_lt (hs_ HO320 BK325))) (Kd.R_lt (hs_ HO323 BK325))) (bz_ HB)); replace HO320 := Aside0.mk (Kd.R_elder' (hs_ HO320 BK325) (Kd.R_base ho0) hb); replace HO323 := Aside0.mk (Kd.R_elder' (hs_ HO323 BK325) (Kd.R_base ho0) hb); replace BK316 := bf_ BK316 NB316_325 hb; replace BK325 := Aside0.mk (blk_below (g := gb325) (o := .cells #[.slice Ao20 t321.length co20] 30 (0, 0)) (by (with_reducible repeat (first | refine blk_drewN ?_ _ | refine blk_drew ?_ | refine blk_alloc ?_ _)); refine blk_put (cs := #[.slice none 0 0]) ?_ 0 _ rfl; (with_reducible repeat (first | refine blk_drewN ?_ _ | refine blk_drew ?_ | refine blk_alloc ?_ _)); exact BK325.out) hb); replace HB := Aside0.mk (bt_ HB hb); (try clear hb); (try clear hb2); (try clear hk); (try clear hi); (try clear ho0)) | ((with_reducible refine gate_dst (N := 6) rfl ?_); refine box_event ?hg (N := 6) ?hd (cs := #[.slice none 0 0]) (t := 30) ?hr ?_; (case hd => rfl); (case hg => rfl); (case hr => first | (go_simp; done) | (go_simp; rfl)); intro gb329 hg w25 hbox hb; have BK329 := Aside0.mk hbox; have GW329 := ge_ HB hg; have GE329 := ge_ HB hg; have NB316_329 := nl_ BK316 hg; have NB329_316 := ng_ BK316 hg; have NB325_329 := nl_ BK325 hg; have NB329_325 := ng_ BK325 hg; replace HO320 := rb_ HO320 hb; replace HO323 := rb_ HO323 hb; replace HO328 := rb_ HO328 hb; replace HB := Aside0.mk (bt_ HB hb); replace BK316 := Aside0.mk (bb_ BK316 hb); replace BK325 := Aside0.mk (bb_ BK325 hb); clear hb hbox hg; obtain ⟨Ao26, co26, eo26⟩ := Kd.R_slice HO328.out; subst eo26; have hnb27 := NB329_316.out; have hnc27 := NB316_329.out; have hnb28 := NB329_325.out; have hnc28 := NB325_329.out; have hcz29_0 := cz_ BK329 0 (.slice none 0 0); have hfz29_0 := blk_frozen BK329.out 0) | ((with_reducible refine gate_callee (f := 19) rfl ?_); refine gl_ (some 29) Try.func19 #[.agg #[.slice Ao26 t326.length co26]] ?_; (with_reducible refine (impl_Squeeze.calls k _ _ t326 t330 t333 _ ?side1 ?side2 A10.out).mono ?_); (case side1 => refine (Kd.R_reads' (e := 43) (base := w.heap.size) (ok := fun k_ => ((True ∧ some k_ ≠ (.slice Ao17 t318.length co17 : Value).ownBlock) ∧ some k_ ≠ (.slice Ao20 t321.length co20 : Value).ownBlock)) (n := t326.length) (c := co26) ?_).2.2; exact (hs_ HO328 BK329)); (case side2 => exact (Kd.R_reads' HO328.out).2.1); rintro e w30 ⟨v331, rfl, ho0, hb⟩; refine ⟨_, rfl, ?_⟩; have HO332 := Aside0.mk (Kd.R_lower (Kd.R_new' (Kd.R_new' (Kd.R_new' ho0 (Kd.R_lt (hs_ HO320 BK329))) (Kd.R_lt (hs_ HO323 BK329))) (Kd.R_lt (hs_ HO328 BK329))) (bz_ HB)); replace HO320 := Aside0.mk (Kd.R_elder' (hs_ HO320 BK329) (Kd.R_base ho0) hb); replace HO323 := Aside0.mk (Kd.R_elder' (hs_ HO323 BK329) (Kd.R_base ho0) hb); replace HO328 := Aside0.mk (Kd.R_elder' (hs_ HO328 BK329) (Kd.R_base ho0) hb); replace BK316 := bf_ BK316 NB316_329 hb; replace BK325 := bf_ BK325 NB325_329 hb; replace BK329 := Aside0.mk (blk_below (g := gb329) (o := .cells #[.slice Ao26 t326.length co26] 30 (0, 0)) (by (with_reducible repeat (first | refine blk_drewN ?_ _ | refine blk_drew ?_ | refine blk_alloc ?_ _)); refine blk_put (cs := #[.slice none 0 0]) ?_ 0 _ rfl; (with_reducible repeat (first | refine blk_drewN ?_ _ | refine blk_drew ?_ | refine blk_alloc ?_ _)); exact BK329.out) hb); replace HB := Aside0.mk (bt_ HB hb); (try clear hb); (try clear hb2); (try clear hk); (try clear hi); (try clear ho0)) | ((with_reducible refine gate_dst (N := 7) rfl ?_); refine box_event ?hg (N := 7) ?hd (cs := #[.slice none 0 0]) (t := 30) ?hr ?_; (case hd => rfl); (case hg => rfl); (case hr => first | (go_simp; done) | (go_simp; rfl)); intro gb334 hg w31 hbox hb; have BK334 := Aside0.mk hbox; have GW334 := ge_ HB hg; have GE334 := ge_ HB hg; have NB316_334 := nl_ BK316 hg; have NB334_316 := ng_ BK316 hg; have NB325_334 := nl_ BK325 hg; have NB334_325 := ng_ BK325 hg; have NB329_334 := nl_ BK329 hg; have NB334_329 := ng_ BK329 hg; replace HO320 := rb_ HO320 hb; replace HO323 := rb_ HO323 hb; replace HO328 := rb_ HO328 hb; replace HO332 := rb_ HO332 hb; replace HB := Aside0.mk (bt_ HB hb); replace BK316 := Aside0.mk (bb_ BK316 hb); replace BK325 := Aside0.mk (bb_ BK325 hb); replace BK329 := Aside0.mk (bb_ BK329 hb); clear hb hbox hg; obtain ⟨Ao32, co32, eo32⟩ := Kd.R_slice HO332.out; subst eo32; have hnb33 := NB334_316.out; have hnc33 := NB316_334.out; have hnb34 := NB334_325.out; have hnc34 := NB325_334.out; have hnb35 := NB334_329.out; have hnc35 := NB329_334.out; have hcz36_0 := cz_ BK334 0 (.slice none 0 0); have hfz36_0 := blk_frozen BK334.out 0))
 (try simp only [Act.put, List.setIfInBounds_toArray, List.set_cons_zero, List.set_cons_succ])
 go_cut [40] (fun v40 wc => ∃ (kq : Nat) (x40_10 : Bool), v40 = .bool x40_10 ∧ Aside0 (laws_FnExactSqueeze.j0 kq t324 t333 x40_10 l0_0 t321 t326 t330 = some r) ∧ Aside0 (kq ≤ k) ∧ Aside0 (Kd.R k43 43 wc w.heap.size (fun k_ => some k_ ≠ ((.slice Ao26 t326.length co26) : Value).ownBlock ∧ some k_ ≠ ((.slice Ao32 t330.length co32) : Value).ownBlock) (.slice Ao20 t321.length co20) t321) ∧ Aside0 (Kd.R k43 43 wc w.heap.size (fun k_ => some k_ ≠ ((.slice Ao20 t321.length co20) : Value).ownBlock ∧ some k_ ≠ ((.slice Ao32 t330.length co32) : Value).ownBlock) (.slice Ao26 t326.length co26) t326) ∧ Aside0 (Kd.R k43 43 wc w.heap.size (fun k_ => some k_ ≠ ((.slice Ao20 t321.length co20) : Value).ownBlock ∧ some k_ ≠ ((.slice Ao26 t326.length co26) : Value).ownBlock) (.slice Ao32 t330.length co32) t330) ∧ Aside0 (wc.heap[gb316]? = some (.cells #[(.slice A0_0 l0_0.length c0_0)] 24 (0, 0))) ∧ Aside0 (wc.heap[gb325]? = some (.cells #[(.slice Ao20 t321.length co20)] 30 (0, 0))) ∧ Aside0 (wc.heap[gb329]? = some (.cells #[(.slice Ao26 t326.length co26)] 30 (0, 0))) ∧ Aside0 (wc.heap[gb334]? = some (.cells #[(.slice Ao32 t330.length co32)] 30 (0, 0))) ∧ Aside0 (Below w.heap.size w wc))
 case first =>
  have H := HC11.out
  clear HC11
  replace H := Option.bind_eq_some_iff.mp H
  obtain ⟨t335, A370, H⟩ := H
  have A37 := Aside0.mk A370
  clear A370
  by_cases c38 : t335 = true
  ·subst c38
   rw [if_pos rfl] at H
   have H' := Aside0.mk H
   clear H
   have hnb39 := NB334_316.out
   have hnc39 := NB316_334.out
   have hnb40 := NB334_325.out
   have hnc40 := NB325_334.out
   have hnb41 := NB334_329.out
   have hnc41 := NB329_334.out
   have hcz42_0 := cz_ BK334 0 (.slice none 0 0)
   have hfz42_0 := blk_frozen BK334.out 0
   have hnb43 := NB325_316.out
   have hnc43 := NB316_325.out
   have hnb44 := NB325_329.out
   have hnc44 := NB329_325.out
   have hcz45_0 := cz_ BK325 0 (.slice Ao20 t321.length co20)
   have hfz45_0 := blk_frozen BK325.out 0
   go_wp2_with (first | ((with_reducible refine gate_callee (f := 12) rfl ?_); refine gl_ (some 34) Try.func12 #[.agg #[.slice Ao32 t330.length co32], .agg #[.slice Ao20 t321.length co20]] ?_; (with_reducible refine (laws_eqTable.calls k _ _ t330 _ _ t321 true _ ?side1 ?side2 ?side3 ?side4 A37.out).mono ?_); (case side1 => refine (Kd.R_reads' (e := 43) (base := w.heap.size) (ok := fun k_ => (((True ∧ some k_ ≠ (.slice Ao17 t318.length co17 : Value).ownBlock) ∧ some k_ ≠ (.slice Ao20 t321.length co20 : Value).ownBlock) ∧ some k_ ≠ (.slice Ao26 t326.length co26 : Value).ownBlock)) (n := t330.length) (c := co32) ?_).2.2; exact (hs_ HO332 BK334)); (case side2 => exact (Kd.R_reads' HO332.out).2.1); (case side3 => refine (Kd.R_reads' (e := 43) (base := w.heap.size) (ok := fun k_ => (((True ∧ some k_ ≠ (.slice Ao17 t318.length co17 : Value).ownBlock) ∧ some k_ ≠ (.slice Ao26 t326.length co26 : Value).ownBlock) ∧ some k_ ≠ (.slice Ao32 t330.length co32 : Value).ownBlock)) (n := t321.length) (c := co20) ?_).2.2; exact (hs_ HO323 BK334)); (case side4 => exact (Kd.R_reads' HO323.out).2.1); rintro e w46 ⟨rfl, hb⟩; refine ⟨_, rfl, ?_⟩; replace HO320 := rs_ HO320 BK334 hb; replace HO323 := rs_ HO323 BK334 hb; replace HO328 := rs_ HO328 BK334 hb; replace HO332 := rs_ HO332 BK334 hb; replace BK316 := bf_ BK316 NB316_334 hb; replace BK325 := bf_ BK325 NB325_334 hb; replace BK329 := bf_ BK329 NB329_334 hb; replace BK334 := Aside0.mk (blk_below (g := gb334) (o := .cells #[.slice Ao32 t330.length co32] 30 (0, 0)) (by (with_reducible repeat (first | refine blk_drewN ?_ _ | refine blk_drew ?_ | refine blk_alloc ?_ _)); refine blk_put (cs := #[.slice none 0 0]) ?_ 0 _ rfl; (with_reducible repeat (first | refine blk_drewN ?_ _ | refine blk_drew ?_ | refine blk_alloc ?_ _)); exact BK334.out) hb); replace HB := Aside0.mk (bt_ HB hb); (try clear hb); (try clear hb2); (try clear hk); (try clear hi)))
   go_meet
   case rel => exact ⟨_, ((t333 != t324)), (by first | rfl | (simp; done) | (simp [*]; done)), H', ⟨by first | omega | exact Nat.le_refl _⟩, ⟨by (with_reducible repeat (first | apply Kd.R_alloc | apply Kd.R_drewN | apply Kd.R_drew)); exact Kd.R_mono HO323.out (fun _ hk => by first | exact ⟨hk.1.2, hk.2⟩ | grind)⟩, ⟨by (with_reducible repeat (first | apply Kd.R_alloc | apply Kd.R_drewN | apply Kd.R_drew)); exact Kd.R_mono HO328.out (fun _ hk => by first | exact ⟨hk.1.2, hk.2⟩ | grind)⟩, ⟨by (with_reducible repeat (first | apply Kd.R_alloc | apply Kd.R_drewN | apply Kd.R_drew)); exact Kd.R_mono HO332.out (fun _ hk => by first | exact ⟨hk.1.2, hk.2⟩ | grind)⟩, ⟨by (with_reducible repeat (first | refine blk_drewN ?_ _ | refine blk_drew ?_ | refine blk_alloc ?_ _)); exact BK316.out⟩, ⟨by (with_reducible repeat (first | refine blk_drewN ?_ _ | refine blk_drew ?_ | refine blk_alloc ?_ _)); exact BK325.out⟩, ⟨by (with_reducible repeat (first | refine blk_drewN ?_ _ | refine blk_drew ?_ | refine blk_alloc ?_ _)); exact BK329.out⟩, ⟨by (with_reducible repeat (first | refine blk_drewN ?_ _ | refine blk_drew ?_ | refine blk_alloc ?_ _)); exact BK334.out⟩, ⟨by repeat (first | (with_reducible first | exact HB.out | apply below_alloc | apply pw_below_drewN | apply below_drew1 | refine below_set ?_ GE316.out | refine below_set ?_ GE325.out | refine below_set ?_ GE329.out | refine below_set ?_ GE334.out) | exact HB.out)⟩⟩
  replace c38 := Bool.eq_false_iff.mpr c38
  subst c38
  rw [if_neg (show ¬ (false = true) by decide)] at H
  have H' := Aside0.mk H
  clear H
  have hnb47 := NB334_316.out
  have hnc47 := NB316_334.out
  have hnb48 := NB334_325.out
  have hnc48 := NB325_334.out
  have hnb49 := NB334_329.out
  have hnc49 := NB329_334.out
  have hcz50_0 := cz_ BK334 0 (.slice none 0 0)
  have hfz50_0 := blk_frozen BK334.out 0
  have hnb51 := NB325_316.out
  have hnc51 := NB316_325.out
  have hnb52 := NB325_329.out
  have hnc52 := NB329_325.out
  have hcz53_0 := cz_ BK325 0 (.slice Ao20 t321.length co20)
  have hfz53_0 := blk_frozen BK325.out 0
  go_wp2_with (first | ((with_reducible refine gate_callee (f := 12) rfl ?_); refine gl_ (some 34) Try.func12 #[.agg #[.slice Ao32 t330.length co32], .agg #[.slice Ao20 t321.length co20]] ?_; (with_reducible refine (laws_eqTable.calls k _ _ t330 _ _ t321 false _ ?side1 ?side2 ?side3 ?side4 A37.out).mono ?_); (case side1 => refine (Kd.R_reads' (e := 43) (base := w.heap.size) (ok := fun k_ => (((True ∧ some k_ ≠ (.slice Ao17 t318.length co17 : Value).ownBlock) ∧ some k_ ≠ (.slice Ao20 t321.length co20 : Value).ownBlock) ∧ some k_ ≠ (.slice Ao26 t326.length co26 : Value).ownBlock)) (n := t330.length) (c := co32) ?_).2.2; exact (hs_ HO332 BK334)); (case side2 => exact (Kd.R_reads' HO332.out).2.1); (case side3 => refine (Kd.R_reads' (e := 43) (base := w.heap.size) (ok := fun k_ => (((True ∧ some k_ ≠ (.slice Ao17 t318.length co17 : Value).ownBlock) ∧ some k_ ≠ (.slice Ao26 t326.length co26 : Value).ownBlock) ∧ some k_ ≠ (.slice Ao32 t330.length co32 : Value).ownBlock)) (n := t321.length) (c := co20) ?_).2.2; exact (hs_ HO323 BK334)); (case side4 => exact (Kd.R_reads' HO323.out).2.1); rintro e w54 ⟨rfl, hb⟩; refine ⟨_, rfl, ?_⟩; replace HO320 := rs_ HO320 BK334 hb; replace HO323 := rs_ HO323 BK334 hb; replace HO328 := rs_ HO328 BK334 hb; replace HO332 := rs_ HO332 BK334 hb; replace BK316 := bf_ BK316 NB316_334 hb; replace BK325 := bf_ BK325 NB325_334 hb; replace BK329 := bf_ BK329 NB329_334 hb; replace BK334 := Aside0.mk (blk_below (g := gb334) (o := .cells #[.slice Ao32 t330.length co32] 30 (0, 0)) (by (with_reducible repeat (first | refine blk_drewN ?_ _ | refine blk_drew ?_ | refine blk_alloc ?_ _)); refine blk_put (cs := #[.slice none 0 0]) ?_ 0 _ rfl; (with_reducible repeat (first | refine blk_drewN ?_ _ | refine blk_drew ?_ | refine blk_alloc ?_ _)); exact BK334.out) hb); replace HB := Aside0.mk (bt_ HB hb); (try clear hb); (try clear hb2); (try clear hk); (try clear hi)))
  go_meet
  case rel => exact ⟨_, (true), (by first | rfl | (simp; done) | (simp [*]; done)), H', ⟨by first | omega | exact Nat.le_refl _⟩, ⟨by (with_reducible repeat (first | apply Kd.R_alloc | apply Kd.R_drewN | apply Kd.R_drew)); exact Kd.R_mono HO323.out (fun _ hk => by first | exact ⟨hk.1.2, hk.2⟩ | grind)⟩, ⟨by (with_reducible repeat (first | apply Kd.R_alloc | apply Kd.R_drewN | apply Kd.R_drew)); exact Kd.R_mono HO328.out (fun _ hk => by first | exact ⟨hk.1.2, hk.2⟩ | grind)⟩, ⟨by (with_reducible repeat (first | apply Kd.R_alloc | apply Kd.R_drewN | apply Kd.R_drew)); exact Kd.R_mono HO332.out (fun _ hk => by first | exact ⟨hk.1.2, hk.2⟩ | grind)⟩, ⟨by (with_reducible repeat (first | refine blk_drewN ?_ _ | refine blk_drew ?_ | refine blk_alloc ?_ _)); exact BK316.out⟩, ⟨by (with_reducible repeat (first | refine blk_drewN ?_ _ | refine blk_drew ?_ | refine blk_alloc ?_ _)); exact BK325.out⟩, ⟨by (with_reducible repeat (first | refine blk_drewN ?_ _ | refine blk_drew ?_ | refine blk_alloc ?_ _)); exact BK329.out⟩, ⟨by (with_reducible repeat (first | refine blk_drewN ?_ _ | refine blk_drew ?_ | refine blk_alloc ?_ _)); exact BK334.out⟩, ⟨by repeat (first | (with_reducible first | exact HB.out | apply below_alloc | apply pw_below_drewN | apply below_drew1 | refine below_set ?_ GE316.out | refine below_set ?_ GE325.out | refine below_set ?_ GE329.out | refine below_set ?_ GE334.out) | exact HB.out)⟩⟩
 case rest =>
  clear HC11
  try clear c1
  try clear c2
  try clear p2
  try clear c3
  try clear c3b0
  try clear c4
  try clear c5
  try clear c7
  try clear c9
  try clear c12
  try clear c18
  try clear c19
  try clear c21
  try clear c27
  try clear c28
  try clear c33
  try clear c34
  try clear c35
  try clear c38
  try clear c39
  try clear c40
  try clear c41
  try clear c43
  try clear c44
  try clear c47
  try clear c48
  try clear c49
  try clear c51
  try clear c52
  try clear hcz13_0
  try clear hcz15_0
  try clear hcz22_0
  try clear hcz23_0
  try clear hcz29_0
  try clear hcz36_0
  try clear hcz42_0
  try clear hcz45_0
  try clear hcz50_0
  try clear hcz53_0
  try clear hcz5_0
  try clear hfz13_0
  try clear hfz15_0
  try clear hfz22_0
  try clear hfz23_0
  try clear hfz29_0
  try clear hfz36_0
  try clear hfz42_0
  try clear hfz45_0
  try clear hfz50_0
  try clear hfz53_0
  try clear hfz5_0
  obtain ⟨kq, x40_10, rfl, HA, HJ10, HO_326000, HO_330000, HO_335000, BK316, BK325, BK329, BK334, HB⟩ := hcut
  cases kq with
  | zero => exact absurd HA.out (by simp [laws_FnExactSqueeze.j0])
  | succ kj10 =>
   have H := HA.out
   clear HA
   simp only [laws_FnExactSqueeze.j0] at H
   by_cases c55 : x40_10 = true
   ·subst c55
    rw [if_pos rfl] at H
    obtain rfl := Option.some.inj H
    go_wp2
    go_ret
    exact ⟨by first | rfl | (simp [errW_none, errW_some] <;> rfl) | (simp [*, errW_none, errW_some] <;> rfl), by repeat (first | (with_reducible first | exact HB.out | apply below_alloc | apply pw_below_drewN | apply below_drew1 | refine below_set ?_ GE316.out | refine below_set ?_ GE325.out | refine below_set ?_ GE329.out | refine below_set ?_ GE334.out) | exact HB.out)⟩
   replace c55 := Bool.eq_false_iff.mpr c55
   subst c55
   rw [if_neg (show ¬ (false = true) by decide)] at H
   replace H := Option.bind_eq_some_iff.mp H
   obtain ⟨t336, A560, H⟩ := H
   have A56 := Aside0.mk A560
   clear A560
   replace H := Option.bind_eq_some_iff.mp H
   obtain ⟨t339, A570, H⟩ := H
   have A57 := Aside0.mk A570
   clear A570
   by_cases c58 : t339 = true
   rotate_left
   ·replace c58 := Bool.eq_false_iff.mpr c58
    subst c58
    rw [if_neg (show ¬ (false = true) by decide)] at H
    obtain rfl := Option.some.inj H
    try go_wp2
    replace HO_326000 := Aside0.mk (Kd.R_drew HO_326000.out)
    replace HO_330000 := Aside0.mk (Kd.R_drew HO_330000.out)
    replace HO_335000 := Aside0.mk (Kd.R_drew HO_335000.out)
    replace BK316 := Aside0.mk (blk_drew BK316.out)
    replace BK325 := Aside0.mk (blk_drew BK325.out)
    replace BK329 := Aside0.mk (blk_drew BK329.out)
    replace BK334 := Aside0.mk (blk_drew BK334.out)
    replace HB := Aside0.mk (below_drew1 HB.out)
    refine start_ (n := 5) (S := fun w' => w'.cell? ⟨gb329, 0, none⟩ = some (.slice Ao26 t326.length co26) ∧ w'.cell? ⟨gb316, 0, none⟩ = some (.slice A0_0 l0_0.length c0_0)) (ds := []) ba17_0 (by kernel_rfl) rfl rfl ⟨(blk_cell BK329.out 0).trans rfl, (blk_cell BK316.out 0).trans rfl⟩ (fun hHeld => ?_)
    generalize wc.drew = w175 at HO_326000 HO_330000 HO_335000 BK316 BK325 BK329 BK334 HB hHeld ⊢
    refine take_ (i := 0) (N := some 41) (v := ?_) (a' := ?_) ba17_1 rfl rfl (by kernel_rfl) (fun _ _ _ h => h) (Or.inl ⟨by rfl, ?_⟩) hHeld ?_ ?_
    rotate_left; · rintro w' ⟨s0, s1⟩; go_simp; with_reducible rfl
    rotate_left; · simp only [Act.put, List.setIfInBounds_toArray, List.set_cons_zero, List.set_cons_succ, i64_w, i32_w]; rfl
    refine take_ (i := 1) (N := some 42) (v := ?_) (a' := ?_) ba17_2 rfl rfl (by kernel_rfl) (fun _ _ _ h => h) (Or.inl ⟨by rfl, ?_⟩) hHeld ?_ ?_
    rotate_left; · rintro w' ⟨s0, s1⟩; go_simp; with_reducible rfl
    rotate_left; · simp only [Act.put, List.setIfInBounds_toArray, List.set_cons_zero, List.set_cons_succ, i64_w, i32_w]; rfl
    refine one_ (i := 2) (N := some 43) ba17_3 rfl rfl (by kernel_rfl) (by decide) (fun K hK => ?_)
    refine gz_ Try.func9 #[.agg #[.slice A0_0 l0_0.length c0_0]] ?_
    with_reducible refine (laws_toTable.calls kj10 _ _ l0_0 t336 _ ?side1 ?side2 A56.out).mono ?_
    (case side1 => exact cb_ HR0_0 HB)
    (case side2 => exact HC0_0.out)
    rintro e w176 ⟨v337, rfl, ho0, hb⟩
    refine ⟨_, rfl, ?_⟩
    have HO338 := Aside0.mk (Kd.R_lower (Kd.R_new' (Kd.R_new' (Kd.R_new' ho0 (Kd.R_lt (hd_ HO_326000))) (Kd.R_lt (hd_ HO_330000))) (Kd.R_lt (hd_ HO_335000))) (bz_ HB))
    replace HO_326000 := Aside0.mk (Kd.R_elder' (hd_ HO_326000) (Kd.R_base ho0) hb)
    replace HO_330000 := Aside0.mk (Kd.R_elder' (hd_ HO_330000) (Kd.R_base ho0) hb)
    replace HO_335000 := Aside0.mk (Kd.R_elder' (hd_ HO_335000) (Kd.R_base ho0) hb)
    replace BK316 := Aside0.mk (bb_ BK316 hb)
    replace BK325 := Aside0.mk (bb_ BK325 hb)
    replace BK329 := Aside0.mk (bb_ BK329 hb)
    replace BK334 := Aside0.mk (bb_ BK334 hb)
    replace HB := Aside0.mk (bt_ HB hb)
    (try clear hb)
    (try clear hb2)
    (try clear hk)
    (try clear hi)
    (try clear ho0)
    obtain ⟨Ao177, co177, eo177⟩ := Kd.R_slice HO338.out
    (first | subst eo177 | (injection eo177 with f1_ f2_ f3_; have f4_ := f1_.symm; have f5_ := f3_.symm; clear f1_ f2_ f3_; subst f4_; subst f5_))
    refine hK.out _ _ ⟨(blk_cell BK329.out 0).trans rfl, (blk_cell BK316.out 0).trans rfl⟩ (fun hHeld => ?_)
    clear hK K
    refine nz_ 43 ?_
    refine one_ (i := 3) (N := some 44) ba17_4 rfl rfl (by kernel_rfl) (by decide) (fun K hK => ?_)
    refine gz_ Try.func12 #[.agg #[.slice Ao26 t326.length co26], .agg #[.slice Ao177 t336.length co177]] ?_
    with_reducible refine (laws_eqTable.calls kj10 _ _ t326 _ _ t336 false _ ?side1 ?side2 ?side3 ?side4 A57.out).mono ?_
    (case side1 => exact rc_ HO_330000)
    (case side2 => exact (Kd.R_reads' HO_330000.out).2.1)
    (case side3 => exact rc_ HO338)
    (case side4 => exact (Kd.R_reads' HO338.out).2.1)
    rintro e w178 ⟨rfl, hb⟩
    refine ⟨_, rfl, ?_⟩
    replace HO_326000 := rb_ HO_326000 hb
    replace HO_330000 := rb_ HO_330000 hb
    replace HO_335000 := rb_ HO_335000 hb
    replace HO338 := rb_ HO338 hb
    replace BK316 := Aside0.mk (bb_ BK316 hb)
    replace BK325 := Aside0.mk (bb_ BK325 hb)
    replace BK329 := Aside0.mk (bb_ BK329 hb)
    replace BK334 := Aside0.mk (bb_ BK334 hb)
    replace HB := Aside0.mk (bt_ HB hb)
    (try clear hb)
    (try clear hb2)
    (try clear hk)
    (try clear hi)
    refine hK.out _ _ ⟨(blk_cell BK329.out 0).trans rfl, (blk_cell BK316.out 0).trans rfl⟩ (fun hHeld => ?_)
    clear hK K
    refine nz_ 44 ?_
    refine pure_ (i := 4) (N := some 45) (v := ?_) (a' := ?_) ba17_5 rfl rfl (by kernel_rfl) (fun _ _ _ h => h) (Or.inl ⟨by rfl, ?_⟩) ?_ ?_
    rotate_left; · intro w'; go_simp; with_reducible rfl
    rotate_left; · simp only [Act.put, List.setIfInBounds_toArray, List.set_cons_zero, List.set_cons_succ, i64_w, i32_w]; rfl
    refine done_ (by kernel_rfl) ?_
    try go_wp2
    go_ret
    exact ⟨by first | rfl | (simp [errW_none, errW_some] <;> rfl) | (simp [*, errW_none, errW_some] <;> rfl), by repeat (first | (with_reducible first | exact HB.out | apply below_alloc | apply pw_below_drewN | apply below_drew1 | refine below_set ?_ GE316.out | refine below_set ?_ GE325.out | refine below_set ?_ GE329.out | refine below_set ?_ GE334.out) | exact HB.out)⟩
   subst c58
   rw [if_pos rfl] at H
   replace H := Option.bind_eq_some_iff.mp H
   obtain ⟨⟨t340, t341⟩, A590, H⟩ := H
   have A59 := Aside0.mk A590
   clear A590
   have HC60 := Aside0.mk H
   clear H
   try go_wp2
   replace HO_326000 := Aside0.mk (Kd.R_drew HO_326000.out)
   replace HO_330000 := Aside0.mk (Kd.R_drew HO_330000.out)
   replace HO_335000 := Aside0.mk (Kd.R_drew HO_335000.out)
   replace BK316 := Aside0.mk (blk_drew BK316.out)
   replace BK325 := Aside0.mk (blk_drew BK325.out)
   replace BK329 := Aside0.mk (blk_drew BK329.out)
   replace BK334 := Aside0.mk (blk_drew BK334.out)
   replace HB := Aside0.mk (below_drew1 HB.out)
   refine start_ (n := 5) (S := fun w' => w'.cell? ⟨gb329, 0, none⟩ = some (.slice Ao26 t326.length co26) ∧ w'.cell? ⟨gb316, 0, none⟩ = some (.slice A0_0 l0_0.length c0_0)) (ds := []) ba17_0 (by kernel_rfl) rfl rfl ⟨(blk_cell BK329.out 0).trans rfl, (blk_cell BK316.out 0).trans rfl⟩ (fun hHeld => ?_)
   generalize wc.drew = w61 at HO_326000 HO_330000 HO_335000 BK316 BK325 BK329 BK334 HB hHeld ⊢
   refine take_ (i := 0) (N := some 41) (v := ?_) (a' := ?_) ba17_1 rfl rfl (by kernel_rfl) (fun _ _ _ h => h) (Or.inl ⟨by rfl, ?_⟩) hHeld ?_ ?_
   rotate_left; · rintro w' ⟨s0, s1⟩; go_simp; with_reducible rfl
   rotate_left; · simp only [Act.put, List.setIfInBounds_toArray, List.set_cons_zero, List.set_cons_succ, i64_w, i32_w]; rfl
   refine take_ (i := 1) (N := some 42) (v := ?_) (a' := ?_) ba17_2 rfl rfl (by kernel_rfl) (fun _ _ _ h => h) (Or.inl ⟨by rfl, ?_⟩) hHeld ?_ ?_
   rotate_left; · rintro w' ⟨s0, s1⟩; go_simp; with_reducible rfl
   rotate_left; · simp only [Act.put, List.setIfInBounds_toArray, List.set_cons_zero, List.set_cons_succ, i64_w, i32_w]; rfl
   refine one_ (i := 2) (N := some 43) ba17_3 rfl rfl (by kernel_rfl) (by decide) (fun K hK => ?_)
   refine gz_ Try.func9 #[.agg #[.slice A0_0 l0_0.length c0_0]] ?_
   with_reducible refine (laws_toTable.calls kj10 _ _ l0_0 t336 _ ?side1 ?side2 A56.out).mono ?_
   (case side1 => exact cb_ HR0_0 HB)
   (case side2 => exact HC0_0.out)
   rintro e w62 ⟨v337, rfl, ho0, hb⟩
   refine ⟨_, rfl, ?_⟩
   have HO338 := Aside0.mk (Kd.R_lower (Kd.R_new' (Kd.R_new' (Kd.R_new' ho0 (Kd.R_lt (hd_ HO_326000))) (Kd.R_lt (hd_ HO_330000))) (Kd.R_lt (hd_ HO_335000))) (bz_ HB))
   replace HO_326000 := Aside0.mk (Kd.R_elder' (hd_ HO_326000) (Kd.R_base ho0) hb)
   replace HO_330000 := Aside0.mk (Kd.R_elder' (hd_ HO_330000) (Kd.R_base ho0) hb)
   replace HO_335000 := Aside0.mk (Kd.R_elder' (hd_ HO_335000) (Kd.R_base ho0) hb)
   replace BK316 := Aside0.mk (bb_ BK316 hb)
   replace BK325 := Aside0.mk (bb_ BK325 hb)
   replace BK329 := Aside0.mk (bb_ BK329 hb)
   replace BK334 := Aside0.mk (bb_ BK334 hb)
   replace HB := Aside0.mk (bt_ HB hb)
   (try clear hb)
   (try clear hb2)
   (try clear hk)
   (try clear hi)
   (try clear ho0)
   obtain ⟨Ao63, co63, eo63⟩ := Kd.R_slice HO338.out
   (first | subst eo63 | (injection eo63 with f1_ f2_ f3_; have f4_ := f1_.symm; have f5_ := f3_.symm; clear f1_ f2_ f3_; subst f4_; subst f5_))
   refine hK.out _ _ ⟨(blk_cell BK329.out 0).trans rfl, (blk_cell BK316.out 0).trans rfl⟩ (fun hHeld => ?_)
   clear hK K
   refine nz_ 43 ?_
   refine one_ (i := 3) (N := some 44) ba17_4 rfl rfl (by kernel_rfl) (by decide) (fun K hK => ?_)
   refine gz_ Try.func12 #[.agg #[.slice Ao26 t326.length co26], .agg #[.slice Ao63 t336.length co63]] ?_
   with_reducible refine (laws_eqTable.calls kj10 _ _ t326 _ _ t336 true _ ?side1 ?side2 ?side3 ?side4 A57.out).mono ?_
   (case side1 => exact rc_ HO_330000)
   (case side2 => exact (Kd.R_reads' HO_330000.out).2.1)
   (case side3 => exact rc_ HO338)
   (case side4 => exact (Kd.R_reads' HO338.out).2.1)
   rintro e w64 ⟨rfl, hb⟩
   refine ⟨_, rfl, ?_⟩
   replace HO_326000 := rb_ HO_326000 hb
   replace HO_330000 := rb_ HO_330000 hb
   replace HO_335000 := rb_ HO_335000 hb
   replace HO338 := rb_ HO338 hb
   replace BK316 := Aside0.mk (bb_ BK316 hb)
   replace BK325 := Aside0.mk (bb_ BK325 hb)
   replace BK329 := Aside0.mk (bb_ BK329 hb)
   replace BK334 := Aside0.mk (bb_ BK334 hb)
   replace HB := Aside0.mk (bt_ HB hb)
   (try clear hb)
   (try clear hb2)
   (try clear hk)
   (try clear hi)
   refine hK.out _ _ ⟨(blk_cell BK329.out 0).trans rfl, (blk_cell BK316.out 0).trans rfl⟩ (fun hHeld => ?_)
   clear hK K
   refine nz_ 44 ?_
   refine pure_ (i := 4) (N := some 45) (v := ?_) (a' := ?_) ba17_5 rfl rfl (by kernel_rfl) (fun _ _ _ h => h) (Or.inl ⟨by rfl, ?_⟩) ?_ ?_
   rotate_left; · intro w'; go_simp; with_reducible rfl
   rotate_left; · simp only [Act.put, List.setIfInBounds_toArray, List.set_cons_zero, List.set_cons_succ, i64_w, i32_w]; rfl
   refine done_ (by kernel_rfl) ?_
   have hnb65 := NB329_316.out
   have hnc65 := NB316_329.out
   have hnb66 := NB329_325.out
   have hnc66 := NB325_329.out
   have hnb67 := NB329_334.out
   have hnc67 := NB334_329.out
   have hcz68_0 := cz_ BK329 0 (.slice Ao26 t326.length co26)
   have hfz68_0 := blk_frozen BK329.out 0
   go_upto_region 14 with (first | ((with_reducible refine gate_callee (f := 13) rfl ?_); refine gl_ (some 48) Try.func13 #[.agg #[.slice Ao26 t326.length co26], .int .i64 1] ?_; (with_reducible refine (laws_markTable.calls kj10 (fun k_ => some k_ = (.slice Ao26 t326.length co26 : Value).ownBlock) (.slice Ao26 t326.length co26) t326 1 t340 t341 w _ ?side1 ?side2 A59.out).mono ?_); (case side1 => exact by_ HB); (case side2 => exact Kd.R_tight rfl HO_330000.out); rintro e w69 ⟨rfl, hy0, hb, hkp⟩; refine ⟨_, rfl, ?_⟩; replace HO_326000 := kp_ (fun k_ => some k_ ≠ (.slice Ao26 t326.length co26 : Value).ownBlock ∧ some k_ ≠ (.slice Ao32 t330.length co32 : Value).ownBlock ∧ some k_ ≠ (.slice Ao63 t336.length co63 : Value).ownBlock) (HO_326000.out) hkp; replace HO_335000 := kp_ (fun k_ => some k_ ≠ (.slice Ao20 t321.length co20 : Value).ownBlock ∧ some k_ ≠ (.slice Ao26 t326.length co26 : Value).ownBlock ∧ some k_ ≠ (.slice Ao63 t336.length co63 : Value).ownBlock) (HO_335000.out) hkp; replace BK316 := bk_ BK316 hkp (fun hs_ => (Kd.R_ne HO_330000.out BK316.out (by decide)) hs_); replace BK325 := bk_ BK325 hkp (fun hs_ => (Kd.R_ne HO_330000.out BK325.out (by decide)) hs_); replace BK329 := bk_ BK329 hkp (fun hs_ => (Kd.R_ne HO_330000.out BK329.out (by decide)) hs_); replace BK334 := bk_ BK334 hkp (fun hs_ => (Kd.R_ne HO_330000.out BK334.out (by decide)) hs_); replace HO_330000 := Aside0.mk (Kd.R_reok rfl hy0 (fun k_ e_ => HO_330000.out.1 k_ e_)); replace HO338 := kp_ (fun k_ => some k_ ≠ (.slice Ao20 t321.length co20 : Value).ownBlock ∧ some k_ ≠ (.slice Ao26 t326.length co26 : Value).ownBlock ∧ some k_ ≠ (.slice Ao32 t330.length co32 : Value).ownBlock) (HO338.out) hkp; replace HB := Aside0.mk (hb); (try clear hb); (try clear hkp); (try clear hy0)))
   (try simp only [Act.put, List.setIfInBounds_toArray, List.set_cons_zero, List.set_cons_succ])
   go_cut [61] (fun v61 wc => ∃ (kq : Nat) (x61_59 : Bool), v61 = .bool x61_59 ∧ Aside0 (laws_FnExactSqueeze.j1 kq t324 x61_59 l0_0 t321 t330 = some r) ∧ Aside0 (kq ≤ kj10) ∧ Aside0 (Kd.R k43 43 wc w.heap.size (fun k_ => some k_ ≠ ((.slice Ao26 t326.length co26) : Value).ownBlock ∧ some k_ ≠ ((.slice Ao32 t330.length co32) : Value).ownBlock) (.slice Ao20 t321.length co20) t321) ∧ Aside0 (Kd.R k43 43 wc w.heap.size (fun k_ => some k_ ≠ ((.slice Ao20 t321.length co20) : Value).ownBlock ∧ some k_ ≠ ((.slice Ao32 t330.length co32) : Value).ownBlock) (.slice Ao26 t326.length co26) t341) ∧ Aside0 (Kd.R k43 43 wc w.heap.size (fun k_ => some k_ ≠ ((.slice Ao20 t321.length co20) : Value).ownBlock ∧ some k_ ≠ ((.slice Ao26 t326.length co26) : Value).ownBlock) (.slice Ao32 t330.length co32) t330) ∧ Aside0 (wc.heap[gb316]? = some (.cells #[(.slice A0_0 l0_0.length c0_0)] 24 (0, 0))) ∧ Aside0 (wc.heap[gb325]? = some (.cells #[(.slice Ao20 t321.length co20)] 30 (0, 0))) ∧ Aside0 (wc.heap[gb329]? = some (.cells #[(.slice Ao26 t326.length co26)] 30 (0, 0))) ∧ Aside0 (wc.heap[gb334]? = some (.cells #[(.slice Ao32 t330.length co32)] 30 (0, 0))) ∧ Aside0 (Below w.heap.size w wc))
   case first =>
    have H := HC60.out
    clear HC60
    by_cases c70 : t340 < 0
    ·rw [if_pos c70] at H
     have c70b0 : decide (t340 < 0) = true := decide_eq_true c70
     clear c70
     (first | rw [c70b0] | (simp only [i64_w, i32_w]; rw [c70b0]) | skip)
     have H' := Aside0.mk H
     clear H
     go_wp2
     go_meet
     case rel => exact ⟨_, (true), (by first | rfl | (simp; done) | (simp [*]; done)), H', ⟨by have := HJ10.out; first | omega | exact Nat.le_refl _⟩, ⟨by (with_reducible repeat (first | apply Kd.R_alloc | apply Kd.R_drewN | apply Kd.R_drew)); exact Kd.R_mono HO_326000.out (fun _ hk => by first | exact ⟨hk.1, hk.2.1⟩ | grind)⟩, ⟨by (with_reducible repeat (first | apply Kd.R_alloc | apply Kd.R_drewN | apply Kd.R_drew)); exact Kd.R_mono HO_330000.out (fun _ hk => by first | exact ⟨hk.1.1, hk.1.2⟩ | grind)⟩, ⟨by (with_reducible repeat (first | apply Kd.R_alloc | apply Kd.R_drewN | apply Kd.R_drew)); exact Kd.R_mono HO_335000.out (fun _ hk => by first | exact ⟨hk.1, hk.2.1⟩ | grind)⟩, ⟨by (with_reducible repeat (first | refine blk_drewN ?_ _ | refine blk_drew ?_ | refine blk_alloc ?_ _)); exact BK316.out⟩, ⟨by (with_reducible repeat (first | refine blk_drewN ?_ _ | refine blk_drew ?_ | refine blk_alloc ?_ _)); exact BK325.out⟩, ⟨by (with_reducible repeat (first | refine blk_drewN ?_ _ | refine blk_drew ?_ | refine blk_alloc ?_ _)); exact BK329.out⟩, ⟨by (with_reducible repeat (first | refine blk_drewN ?_ _ | refine blk_drew ?_ | refine blk_alloc ?_ _)); exact BK334.out⟩, ⟨by repeat (first | (with_reducible first | exact HB.out | apply below_alloc | apply pw_below_drewN | apply below_drew1 | refine below_set ?_ GE316.out | refine below_set ?_ GE325.out | refine below_set ?_ GE329.out | refine below_set ?_ GE334.out) | exact HB.out)⟩⟩
    rw [if_neg c70] at H
    have c70b0 : decide (t340 < 0) = false := decide_eq_false c70
    clear c70
    (first | rw [c70b0] | (simp only [i64_w, i32_w]; rw [c70b0]) | skip)
    replace H := Option.bind_eq_some_iff.mp H
    obtain ⟨t342, A710, H⟩ := H
    have A71 := Aside0.mk A710
    clear A710
    by_cases c72 : t342 = true
    ·subst c72
     rw [if_pos rfl] at H
     have H' := Aside0.mk H
     clear H
     have hnb73 := NB334_316.out
     have hnc73 := NB316_334.out
     have hnb74 := NB334_325.out
     have hnc74 := NB325_334.out
     have hnb75 := NB334_329.out
     have hnc75 := NB329_334.out
     have hcz76_0 := cz_ BK334 0 (.slice Ao32 t330.length co32)
     have hfz76_0 := blk_frozen BK334.out 0
     have hnb77 := NB325_316.out
     have hnc77 := NB316_325.out
     have hnb78 := NB325_329.out
     have hnc78 := NB329_325.out
     have hcz79_0 := cz_ BK325 0 (.slice Ao20 t321.length co20)
     have hfz79_0 := blk_frozen BK325.out 0
     go_wp2_with (first | (go_at_call 12; (with_reducible refine (laws_eqTable.calls kj10 _ _ t330 _ _ t321 true _ ?side1 ?side2 ?side3 ?side4 A71.out).mono ?_); (case side1 => exact rc_ HO_335000); (case side2 => exact (Kd.R_reads' HO_335000.out).2.1); (case side3 => exact rc_ HO_326000); (case side4 => exact (Kd.R_reads' HO_326000.out).2.1); rintro e w80 ⟨rfl, hb⟩; replace HO_326000 := rb_ HO_326000 hb; replace HO_330000 := rb_ HO_330000 hb; replace HO_335000 := rb_ HO_335000 hb; replace HO338 := rb_ HO338 hb; replace BK316 := Aside0.mk (bb_ BK316 hb); replace BK325 := Aside0.mk (bb_ BK325 hb); replace BK329 := Aside0.mk (bb_ BK329 hb); replace BK334 := Aside0.mk (bb_ BK334 hb); replace HB := Aside0.mk (bt_ HB hb); (try clear hb); (try clear hb2); (try clear hk); (try clear hi)))
     go_meet
     case rel => exact ⟨_, ((t333 != t324)), (by first | rfl | (simp; done) | (simp [*]; done)), H', ⟨by have := HJ10.out; first | omega | exact Nat.le_refl _⟩, ⟨by (with_reducible repeat (first | apply Kd.R_alloc | apply Kd.R_drewN | apply Kd.R_drew)); exact Kd.R_mono HO_326000.out (fun _ hk => by first | exact ⟨hk.1, hk.2.1⟩ | grind)⟩, ⟨by (with_reducible repeat (first | apply Kd.R_alloc | apply Kd.R_drewN | apply Kd.R_drew)); exact Kd.R_mono HO_330000.out (fun _ hk => by first | exact ⟨hk.1.1, hk.1.2⟩ | grind)⟩, ⟨by (with_reducible repeat (first | apply Kd.R_alloc | apply Kd.R_drewN | apply Kd.R_drew)); exact Kd.R_mono HO_335000.out (fun _ hk => by first | exact ⟨hk.1, hk.2.1⟩ | grind)⟩, ⟨by (with_reducible repeat (first | refine blk_drewN ?_ _ | refine blk_drew ?_ | refine blk_alloc ?_ _)); exact BK316.out⟩, ⟨by (with_reducible repeat (first | refine blk_drewN ?_ _ | refine blk_drew ?_ | refine blk_alloc ?_ _)); exact BK325.out⟩, ⟨by (with_reducible repeat (first | refine blk_drewN ?_ _ | refine blk_drew ?_ | refine blk_alloc ?_ _)); exact BK329.out⟩, ⟨by (with_reducible repeat (first | refine blk_drewN ?_ _ | refine blk_drew ?_ | refine blk_alloc ?_ _)); exact BK334.out⟩, ⟨by repeat (first | (with_reducible first | exact HB.out | apply below_alloc | apply pw_below_drewN | apply below_drew1 | refine below_set ?_ GE316.out | refine below_set ?_ GE325.out | refine below_set ?_ GE329.out | refine below_set ?_ GE334.out) | exact HB.out)⟩⟩
    replace c72 := Bool.eq_false_iff.mpr c72
    subst c72
    rw [if_neg (show ¬ (false = true) by decide)] at H
    have H' := Aside0.mk H
    clear H
    have hnb81 := NB334_316.out
    have hnc81 := NB316_334.out
    have hnb82 := NB334_325.out
    have hnc82 := NB325_334.out
    have hnb83 := NB334_329.out
    have hnc83 := NB329_334.out
    have hcz84_0 := cz_ BK334 0 (.slice Ao32 t330.length co32)
    have hfz84_0 := blk_frozen BK334.out 0
    have hnb85 := NB325_316.out
    have hnc85 := NB316_325.out
    have hnb86 := NB325_329.out
    have hnc86 := NB329_325.out
    have hcz87_0 := cz_ BK325 0 (.slice Ao20 t321.length co20)
    have hfz87_0 := blk_frozen BK325.out 0
    go_wp2_with (first | (go_at_call 12; (with_reducible refine (laws_eqTable.calls kj10 _ _ t330 _ _ t321 false _ ?side1 ?side2 ?side3 ?side4 A71.out).mono ?_); (case side1 => exact rc_ HO_335000); (case side2 => exact (Kd.R_reads' HO_335000.out).2.1); (case side3 => exact rc_ HO_326000); (case side4 => exact (Kd.R_reads' HO_326000.out).2.1); rintro e w88 ⟨rfl, hb⟩; replace HO_326000 := rb_ HO_326000 hb; replace HO_330000 := rb_ HO_330000 hb; replace HO_335000 := rb_ HO_335000 hb; replace HO338 := rb_ HO338 hb; replace BK316 := Aside0.mk (bb_ BK316 hb); replace BK325 := Aside0.mk (bb_ BK325 hb); replace BK329 := Aside0.mk (bb_ BK329 hb); replace BK334 := Aside0.mk (bb_ BK334 hb); replace HB := Aside0.mk (bt_ HB hb); (try clear hb); (try clear hb2); (try clear hk); (try clear hi)))
    go_meet
    case rel => exact ⟨_, (true), (by first | rfl | (simp; done) | (simp [*]; done)), H', ⟨by have := HJ10.out; first | omega | exact Nat.le_refl _⟩, ⟨by (with_reducible repeat (first | apply Kd.R_alloc | apply Kd.R_drewN | apply Kd.R_drew)); exact Kd.R_mono HO_326000.out (fun _ hk => by first | exact ⟨hk.1, hk.2.1⟩ | grind)⟩, ⟨by (with_reducible repeat (first | apply Kd.R_alloc | apply Kd.R_drewN | apply Kd.R_drew)); exact Kd.R_mono HO_330000.out (fun _ hk => by first | exact ⟨hk.1.1, hk.1.2⟩ | grind)⟩, ⟨by (with_reducible repeat (first | apply Kd.R_alloc | apply Kd.R_drewN | apply Kd.R_drew)); exact Kd.R_mono HO_335000.out (fun _ hk => by first | exact ⟨hk.1, hk.2.1⟩ | grind)⟩, ⟨by (with_reducible repeat (first | refine blk_drewN ?_ _ | refine blk_drew ?_ | refine blk_alloc ?_ _)); exact BK316.out⟩, ⟨by (with_reducible repeat (first | refine blk_drewN ?_ _ | refine blk_drew ?_ | refine blk_alloc ?_ _)); exact BK325.out⟩, ⟨by (with_reducible repeat (first | refine blk_drewN ?_ _ | refine blk_drew ?_ | refine blk_alloc ?_ _)); exact BK329.out⟩, ⟨by (with_reducible repeat (first | refine blk_drewN ?_ _ | refine blk_drew ?_ | refine blk_alloc ?_ _)); exact BK334.out⟩, ⟨by repeat (first | (with_reducible first | exact HB.out | apply below_alloc | apply pw_below_drewN | apply below_drew1 | refine below_set ?_ GE316.out | refine below_set ?_ GE325.out | refine below_set ?_ GE329.out | refine below_set ?_ GE334.out) | exact HB.out)⟩⟩
   case rest =>
    clear HC60
    try clear c1
    try clear c2
    try clear p2
    try clear c3
    try clear c3b0
    try clear c4
    try clear c5
    try clear c6
    try clear c7
    try clear c8
    try clear c9
    try clear c12
    try clear c13
    try clear c18
    try clear c19
    try clear c21
    try clear c27
    try clear c28
    try clear c33
    try clear c34
    try clear c35
    try clear c38
    try clear c39
    try clear c40
    try clear c41
    try clear c43
    try clear c44
    try clear c47
    try clear c48
    try clear c49
    try clear c51
    try clear c52
    try clear c55
    try clear c58
    try clear c65
    try clear c66
    try clear c67
    try clear c70
    try clear c70b0
    try clear c72
    try clear c73
    try clear c74
    try clear c75
    try clear c77
    try clear c78
    try clear c81
    try clear c82
    try clear c83
    try clear c85
    try clear c86
    try clear hcz13_0
    try clear hcz15_0
    try clear hcz22_0
    try clear hcz23_0
    try clear hcz29_0
    try clear hcz36_0
    try clear hcz42_0
    try clear hcz45_0
    try clear hcz50_0
    try clear hcz53_0
    try clear hcz5_0
    try clear hcz68_0
    try clear hcz76_0
    try clear hcz79_0
    try clear hcz84_0
    try clear hcz87_0
    try clear hfz13_0
    try clear hfz15_0
    try clear hfz22_0
    try clear hfz23_0
    try clear hfz29_0
    try clear hfz36_0
    try clear hfz42_0
    try clear hfz45_0
    try clear hfz50_0
    try clear hfz53_0
    try clear hfz5_0
    try clear hfz68_0
    try clear hfz76_0
    try clear hfz79_0
    try clear hfz84_0
    try clear hfz87_0
    try clear p2
    obtain ⟨kq, x61_59, rfl, HA, HJ59, HO_326000, HO_330000, HO_335000, BK316, BK325, BK329, BK334, HB⟩ := hcut
    have hl330000_59 := (Kd.R_reads' HO_330000.out).1
    rw [hl330000_59] at HO_330000
    (try simp only [hl330000_59])
    (try simp only [hl330000_59] at BK316)
    (try simp only [hl330000_59] at BK325)
    (try simp only [hl330000_59] at BK329)
    (try simp only [hl330000_59] at BK334)
    (try simp only [hl330000_59] at HO_326000)
    (try simp only [hl330000_59] at HO_335000)
    cases kq with
    | zero => exact absurd HA.out (by simp [laws_FnExactSqueeze.j1])
    | succ kj59 =>
     have H := HA.out
     clear HA
     simp only [laws_FnExactSqueeze.j1] at H
     by_cases c89 : x61_59 = true
     ·subst c89
      rw [if_pos rfl] at H
      obtain rfl := Option.some.inj H
      go_wp2
      go_ret
      exact ⟨by first | rfl | (simp [errW_none, errW_some] <;> rfl) | (simp [*, errW_none, errW_some] <;> rfl), by repeat (first | (with_reducible first | exact HB.out | apply below_alloc | apply pw_below_drewN | apply below_drew1 | refine below_set ?_ GE316.out | refine below_set ?_ GE325.out | refine below_set ?_ GE329.out | refine below_set ?_ GE334.out) | exact HB.out)⟩
     replace c89 := Bool.eq_false_iff.mpr c89
     subst c89
     rw [if_neg (show ¬ (false = true) by decide)] at H
     replace H := Option.bind_eq_some_iff.mp H
     obtain ⟨⟨t343, t344⟩, A900, H⟩ := H
     have A90 := Aside0.mk A900
     clear A900
     replace H := Option.bind_eq_some_iff.mp H
     obtain ⟨t345, A910, H⟩ := H
     have A91 := Aside0.mk A910
     clear A910
     by_cases c92 : t345 < 0
     ·rw [if_pos c92] at H
      have c92b0 : decide (t345 < 0) = true := decide_eq_true c92
      clear c92
      obtain rfl := Option.some.inj H
      have hnb93 := NB334_316.out
      have hnc93 := NB316_334.out
      have hnb94 := NB334_325.out
      have hnc94 := NB325_334.out
      have hnb95 := NB334_329.out
      have hnc95 := NB329_334.out
      have hcz96_0 := cz_ BK334 0 (.slice Ao32 t330.length co32)
      have hfz96_0 := blk_frozen BK334.out 0
      go_wp2_with (first | ((with_reducible refine gate_callee (f := 13) rfl ?_); refine gl_ (some 64) Try.func13 #[.agg #[.slice Ao32 t330.length co32], .int .i64 1] ?_; (with_reducible refine (laws_markTable.calls kj59 (fun k_ => some k_ = (.slice Ao32 t330.length co32 : Value).ownBlock) (.slice Ao32 t330.length co32) t330 1 t343 t344 w _ ?side1 ?side2 A90.out).mono ?_); (case side1 => exact by_ HB); (case side2 => exact Kd.R_tight rfl HO_335000.out); rintro e w97 ⟨rfl, hy0, hb, hkp⟩; refine ⟨_, rfl, ?_⟩; replace HO_326000 := kp_ (fun k_ => some k_ ≠ (.slice Ao26 t341.length co26 : Value).ownBlock ∧ some k_ ≠ (.slice Ao32 t330.length co32 : Value).ownBlock) (HO_326000.out) hkp; replace HO_330000 := kp_ (fun k_ => some k_ ≠ (.slice Ao20 t321.length co20 : Value).ownBlock ∧ some k_ ≠ (.slice Ao32 t330.length co32 : Value).ownBlock) (HO_330000.out) hkp; replace BK316 := bk_ BK316 hkp (fun hs_ => (Kd.R_ne HO_335000.out BK316.out (by decide)) hs_); replace BK325 := bk_ BK325 hkp (fun hs_ => (Kd.R_ne HO_335000.out BK325.out (by decide)) hs_); replace BK329 := bk_ BK329 hkp (fun hs_ => (Kd.R_ne HO_335000.out BK329.out (by decide)) hs_); replace BK334 := bk_ BK334 hkp (fun hs_ => (Kd.R_ne HO_335000.out BK334.out (by decide)) hs_); replace HO_335000 := Aside0.mk (Kd.R_reok rfl hy0 (fun k_ e_ => HO_335000.out.1 k_ e_)); replace HB := Aside0.mk (hb); (try clear hb); (try clear hkp); (try clear hy0); have hcz98_0 := cz_ BK334 0 (.slice Ao32 t330.length co32); have hfz98_0 := blk_frozen BK334.out 0) | ((with_reducible refine gate_callee (f := 14) rfl ?_); refine goesL_ (some 67) rfl rfl Try.func14 (by kernel_rfl) rfl #[.agg #[.slice Ao32 t344.length co32], .int .i64 1] rfl (by (try simp only [List.map_toArray, List.map_cons, List.map_nil]); first | done | (rw [show t344.length = t330.length from (Kd.R_reads' HO_335000.out).1.symm] <;> rfl) | rfl | (simp only [List.length_drop, List.length_take]; rfl)) ?_; (with_reducible refine (laws_heldTable.calls kj59 _ _ t344 1 t345 _ ?side1 ?side2 A91.out).mono ?_); (case side1 => exact rc_ HO_335000); (case side2 => rw [show t344.length = t330.length from (Kd.R_reads' HO_335000.out).1.symm]; exact (Kd.R_reads' HO_335000.out).2.1); rintro e w99 ⟨rfl, hb⟩; refine ⟨_, rfl, ?_⟩; replace HO_326000 := rb_ HO_326000 hb; replace HO_330000 := rb_ HO_330000 hb; replace HO_335000 := rb_ HO_335000 hb; replace BK316 := Aside0.mk (bb_ BK316 hb); replace BK325 := Aside0.mk (bb_ BK325 hb); replace BK329 := Aside0.mk (bb_ BK329 hb); replace BK334 := Aside0.mk (bb_ BK334 hb); replace HB := Aside0.mk (bt_ HB hb); (try clear hb); (try clear hb2); (try clear hk); (try clear hi)))
      go_ret
      exact ⟨by first | rfl | (simp [errW_none, errW_some] <;> rfl) | (simp [*, errW_none, errW_some] <;> rfl), by repeat (first | (with_reducible first | exact HB.out | apply below_alloc | apply pw_below_drewN | apply below_drew1 | refine below_set ?_ GE316.out | refine below_set ?_ GE325.out | refine below_set ?_ GE329.out | refine below_set ?_ GE334.out) | exact HB.out)⟩
     rw [if_neg c92] at H
     have c92b0 : decide (t345 < 0) = false := decide_eq_false c92
     clear c92
     by_cases c100 : t345 = t343
     rotate_left
     ·rw [if_neg c100] at H
      have c100b0 : (t345 == t343) = false := beq_eq_false_iff_ne.mpr c100
      have c100b1 : (t345 != t343) = true := bne_iff_ne.mpr c100
      obtain rfl := Option.some.inj H
      have hnb168 := NB334_316.out
      have hnc168 := NB316_334.out
      have hnb169 := NB334_325.out
      have hnc169 := NB325_334.out
      have hnb170 := NB334_329.out
      have hnc170 := NB329_334.out
      have hcz171_0 := cz_ BK334 0 (.slice Ao32 t330.length co32)
      have hfz171_0 := blk_frozen BK334.out 0
      go_wp2_with (first | ((with_reducible refine gate_callee (f := 13) rfl ?_); refine gl_ (some 64) Try.func13 #[.agg #[.slice Ao32 t330.length co32], .int .i64 1] ?_; (with_reducible refine (laws_markTable.calls kj59 (fun k_ => some k_ = (.slice Ao32 t330.length co32 : Value).ownBlock) (.slice Ao32 t330.length co32) t330 1 t343 t344 w _ ?side1 ?side2 A90.out).mono ?_); (case side1 => exact by_ HB); (case side2 => exact Kd.R_tight rfl HO_335000.out); rintro e w172 ⟨rfl, hy0, hb, hkp⟩; refine ⟨_, rfl, ?_⟩; replace HO_326000 := kp_ (fun k_ => some k_ ≠ (.slice Ao26 t341.length co26 : Value).ownBlock ∧ some k_ ≠ (.slice Ao32 t330.length co32 : Value).ownBlock) (HO_326000.out) hkp; replace HO_330000 := kp_ (fun k_ => some k_ ≠ (.slice Ao20 t321.length co20 : Value).ownBlock ∧ some k_ ≠ (.slice Ao32 t330.length co32 : Value).ownBlock) (HO_330000.out) hkp; replace BK316 := bk_ BK316 hkp (fun hs_ => (Kd.R_ne HO_335000.out BK316.out (by decide)) hs_); replace BK325 := bk_ BK325 hkp (fun hs_ => (Kd.R_ne HO_335000.out BK325.out (by decide)) hs_); replace BK329 := bk_ BK329 hkp (fun hs_ => (Kd.R_ne HO_335000.out BK329.out (by decide)) hs_); replace BK334 := bk_ BK334 hkp (fun hs_ => (Kd.R_ne HO_335000.out BK334.out (by decide)) hs_); replace HO_335000 := Aside0.mk (Kd.R_reok rfl hy0 (fun k_ e_ => HO_335000.out.1 k_ e_)); replace HB := Aside0.mk (hb); (try clear hb); (try clear hkp); (try clear hy0); have hcz173_0 := cz_ BK334 0 (.slice Ao32 t330.length co32); have hfz173_0 := blk_frozen BK334.out 0) | ((with_reducible refine gate_callee (f := 14) rfl ?_); refine goesL_ (some 67) rfl rfl Try.func14 (by kernel_rfl) rfl #[.agg #[.slice Ao32 t344.length co32], .int .i64 1] rfl (by (try simp only [List.map_toArray, List.map_cons, List.map_nil]); first | done | (rw [show t344.length = t330.length from (Kd.R_reads' HO_335000.out).1.symm] <;> rfl) | rfl | (simp only [List.length_drop, List.length_take]; rfl)) ?_; (with_reducible refine (laws_heldTable.calls kj59 _ _ t344 1 t345 _ ?side1 ?side2 A91.out).mono ?_); (case side1 => exact rc_ HO_335000); (case side2 => rw [show t344.length = t330.length from (Kd.R_reads' HO_335000.out).1.symm]; exact (Kd.R_reads' HO_335000.out).2.1); rintro e w174 ⟨rfl, hb⟩; refine ⟨_, rfl, ?_⟩; replace HO_326000 := rb_ HO_326000 hb; replace HO_330000 := rb_ HO_330000 hb; replace HO_335000 := rb_ HO_335000 hb; replace BK316 := Aside0.mk (bb_ BK316 hb); replace BK325 := Aside0.mk (bb_ BK325 hb); replace BK329 := Aside0.mk (bb_ BK329 hb); replace BK334 := Aside0.mk (bb_ BK334 hb); replace HB := Aside0.mk (bt_ HB hb); (try clear hb); (try clear hb2); (try clear hk); (try clear hi)))
      go_ret
      exact ⟨by first | rfl | (simp [errW_none, errW_some] <;> rfl) | (simp [*, errW_none, errW_some] <;> rfl), by repeat (first | (with_reducible first | exact HB.out | apply below_alloc | apply pw_below_drewN | apply below_drew1 | refine below_set ?_ GE316.out | refine below_set ?_ GE325.out | refine below_set ?_ GE329.out | refine below_set ?_ GE334.out) | exact HB.out)⟩
     rw [if_pos c100] at H
     have c100b0 : (t345 == t343) = true := beq_iff_eq.mpr c100
     have c100b1 : (t345 != t343) = false := bne_eq_false_iff_eq.mpr c100
     clear c100
     replace H := Option.bind_eq_some_iff.mp H
     obtain ⟨t346, A1010, H⟩ := H
     have A101 := Aside0.mk A1010
     clear A1010
     replace H := Option.bind_eq_some_iff.mp H
     obtain ⟨⟨t349, t352⟩, A1020, H⟩ := H
     have A102 := Aside0.mk A1020
     clear A1020
     have HC103 := Aside0.mk H
     clear H
     have hnb104 := NB334_316.out
     have hnc104 := NB316_334.out
     have hnb105 := NB334_325.out
     have hnc105 := NB325_334.out
     have hnb106 := NB334_329.out
     have hnc106 := NB329_334.out
     have hcz107_0 := cz_ BK334 0 (.slice Ao32 t330.length co32)
     have hfz107_0 := blk_frozen BK334.out 0
     go_upto_region 25 with (first | ((with_reducible refine gate_callee (f := 13) rfl ?_); refine gl_ (some 64) Try.func13 #[.agg #[.slice Ao32 t330.length co32], .int .i64 1] ?_; (with_reducible refine (laws_markTable.calls kj59 (fun k_ => some k_ = (.slice Ao32 t330.length co32 : Value).ownBlock) (.slice Ao32 t330.length co32) t330 1 t343 t344 w _ ?side1 ?side2 A90.out).mono ?_); (case side1 => exact by_ HB); (case side2 => exact Kd.R_tight rfl HO_335000.out); rintro e w108 ⟨rfl, hy0, hb, hkp⟩; refine ⟨_, rfl, ?_⟩; replace HO_326000 := kp_ (fun k_ => some k_ ≠ (.slice Ao26 t341.length co26 : Value).ownBlock ∧ some k_ ≠ (.slice Ao32 t330.length co32 : Value).ownBlock) (HO_326000.out) hkp; replace HO_330000 := kp_ (fun k_ => some k_ ≠ (.slice Ao20 t321.length co20 : Value).ownBlock ∧ some k_ ≠ (.slice Ao32 t330.length co32 : Value).ownBlock) (HO_330000.out) hkp; replace BK316 := bk_ BK316 hkp (fun hs_ => (Kd.R_ne HO_335000.out BK316.out (by decide)) hs_); replace BK325 := bk_ BK325 hkp (fun hs_ => (Kd.R_ne HO_335000.out BK325.out (by decide)) hs_); replace BK329 := bk_ BK329 hkp (fun hs_ => (Kd.R_ne HO_335000.out BK329.out (by decide)) hs_); replace BK334 := bk_ BK334 hkp (fun hs_ => (Kd.R_ne HO_335000.out BK334.out (by decide)) hs_); replace HO_335000 := Aside0.mk (Kd.R_reok rfl hy0 (fun k_ e_ => HO_335000.out.1 k_ e_)); replace HB := Aside0.mk (hb); (try clear hb); (try clear hkp); (try clear hy0); have hcz109_0 := cz_ BK334 0 (.slice Ao32 t330.length co32); have hfz109_0 := blk_frozen BK334.out 0) | ((with_reducible refine gate_callee (f := 14) rfl ?_); refine goesL_ (some 67) rfl rfl Try.func14 (by kernel_rfl) rfl #[.agg #[.slice Ao32 t344.length co32], .int .i64 1] rfl (by (try simp only [List.map_toArray, List.map_cons, List.map_nil]); first | done | (rw [show t344.length = t330.length from (Kd.R_reads' HO_335000.out).1.symm] <;> rfl) | rfl | (simp only [List.length_drop, List.length_take]; rfl)) ?_; (with_reducible refine (laws_heldTable.calls kj59 _ _ t344 1 t345 _ ?side1 ?side2 A91.out).mono ?_); (case side1 => exact rc_ HO_335000); (case side2 => rw [show t344.length = t330.length from (Kd.R_reads' HO_335000.out).1.symm]; exact (Kd.R_reads' HO_335000.out).2.1); rintro e w110 ⟨rfl, hb⟩; refine ⟨_, rfl, ?_⟩; replace HO_326000 := rb_ HO_326000 hb; replace HO_330000 := rb_ HO_330000 hb; replace HO_335000 := rb_ HO_335000 hb; replace BK316 := Aside0.mk (bb_ BK316 hb); replace BK325 := Aside0.mk (bb_ BK325 hb); replace BK329 := Aside0.mk (bb_ BK329 hb); replace BK334 := Aside0.mk (bb_ BK334 hb); replace HB := Aside0.mk (bt_ HB hb); (try clear hb); (try clear hb2); (try clear hk); (try clear hi); have hnb111 := NB316_325.out; have hnc111 := NB325_316.out; have hnb112 := NB316_329.out; have hnc112 := NB329_316.out; have hcz113_0 := cz_ BK316 0 (.slice A0_0 l0_0.length c0_0); have hfz113_0 := blk_frozen BK316.out 0) | ((with_reducible refine gate_callee (f := 9) rfl ?_); refine gl_ (some 75) Try.func9 #[.agg #[.slice A0_0 l0_0.length c0_0]] ?_; (with_reducible refine (laws_toTable.calls kj59 _ _ l0_0 t346 _ ?side1 ?side2 A101.out).mono ?_); (case side1 => exact cb_ HR0_0 HB); (case side2 => exact HC0_0.out); rintro e w114 ⟨v347, rfl, ho0, hb⟩; refine ⟨_, rfl, ?_⟩; have HO348 := Aside0.mk (Kd.R_lower (Kd.R_new' (Kd.R_new' (Kd.R_new' ho0 (Kd.R_lt (hd_ HO_326000))) (Kd.R_lt (hd_ HO_330000))) (Kd.R_lt (hd_ HO_335000))) (bz_ HB)); replace HO_326000 := Aside0.mk (Kd.R_elder' (hd_ HO_326000) (Kd.R_base ho0) hb); replace HO_330000 := Aside0.mk (Kd.R_elder' (hd_ HO_330000) (Kd.R_base ho0) hb); replace HO_335000 := Aside0.mk (Kd.R_elder' (hd_ HO_335000) (Kd.R_base ho0) hb); replace BK316 := Aside0.mk (bb_ BK316 hb); replace BK325 := Aside0.mk (bb_ BK325 hb); replace BK329 := Aside0.mk (bb_ BK329 hb); replace BK334 := Aside0.mk (bb_ BK334 hb); replace HB := Aside0.mk (bt_ HB hb); (try clear hb); (try clear hb2); (try clear hk); (try clear hi); (try clear ho0); obtain ⟨Ao115, co115, eo115⟩ := Kd.R_slice HO348.out; subst eo115) | ((with_reducible refine gate_callee (f := 19) rfl ?_); refine gl_ (some 76) Try.func19 #[.agg #[.slice Ao115 t346.length co115]] ?_; (with_reducible refine (impl_Squeeze.calls kj59 _ _ t346 t349 t352 _ ?side1 ?side2 A102.out).mono ?_); (case side1 => exact rc_ HO348); (case side2 => exact (Kd.R_reads' HO348.out).2.1); rintro e w116 ⟨v350, rfl, ho0, hb⟩; refine ⟨_, rfl, ?_⟩; have HO351 := Aside0.mk (Kd.R_lower (Kd.R_new' (Kd.R_new' (Kd.R_new' (Kd.R_new' ho0 (Kd.R_lt (hd_ HO_326000))) (Kd.R_lt (hd_ HO_330000))) (Kd.R_lt (hd_ HO_335000))) (Kd.R_lt (hd_ HO348))) (bz_ HB)); replace HO_326000 := Aside0.mk (Kd.R_elder' (hd_ HO_326000) (Kd.R_base ho0) hb); replace HO_330000 := Aside0.mk (Kd.R_elder' (hd_ HO_330000) (Kd.R_base ho0) hb); replace HO_335000 := Aside0.mk (Kd.R_elder' (hd_ HO_335000) (Kd.R_base ho0) hb); replace HO348 := Aside0.mk (Kd.R_elder' (hd_ HO348) (Kd.R_base ho0) hb); replace BK316 := Aside0.mk (bb_ BK316 hb); replace BK325 := Aside0.mk (bb_ BK325 hb); replace BK329 := Aside0.mk (bb_ BK329 hb); replace BK334 := Aside0.mk (bb_ BK334 hb); replace HB := Aside0.mk (bt_ HB hb); (try clear hb); (try clear hb2); (try clear hk); (try clear hi); (try clear ho0)) | ((with_reducible refine gate_dst (N := 12) rfl ?_); refine box_event ?hg (N := 12) ?hd (cs := #[.slice none 0 0]) (t := 30) ?hr ?_; (case hd => rfl); (case hg => rfl); (case hr => first | (go_simp; done) | (go_simp; rfl)); intro gb353 hg w117 hbox hb; have BK353 := Aside0.mk hbox; have GW353 := ge_ HB hg; have GE353 := ge_ HB hg; have NB316_353 := nl_ BK316 hg; have NB353_316 := ng_ BK316 hg; have NB325_353 := nl_ BK325 hg; have NB353_325 := ng_ BK325 hg; have NB329_353 := nl_ BK329 hg; have NB353_329 := ng_ BK329 hg; have NB334_353 := nl_ BK334 hg; have NB353_334 := ng_ BK334 hg; replace HO_326000 := rb_ HO_326000 hb; replace HO_330000 := rb_ HO_330000 hb; replace HO_335000 := rb_ HO_335000 hb; replace HO348 := rb_ HO348 hb; replace HO351 := rb_ HO351 hb; replace HB := Aside0.mk (bt_ HB hb); replace BK316 := Aside0.mk (bb_ BK316 hb); replace BK325 := Aside0.mk (bb_ BK325 hb); replace BK329 := Aside0.mk (bb_ BK329 hb); replace BK334 := Aside0.mk (bb_ BK334 hb); clear hb hbox hg; obtain ⟨Ao118, co118, eo118⟩ := Kd.R_slice HO351.out; subst eo118; have hnb119 := NB353_316.out; have hnc119 := NB316_353.out; have hnb120 := NB353_325.out; have hnc120 := NB325_353.out; have hnb121 := NB353_329.out; have hnc121 := NB329_353.out; have hnb122 := NB353_334.out; have hnc122 := NB334_353.out; have hcz123_0 := cz_ BK353 0 (.slice none 0 0); have hfz123_0 := blk_frozen BK353.out 0))
     (try simp only [Act.put, List.setIfInBounds_toArray, List.set_cons_zero, List.set_cons_succ])
     go_cut [87] (fun v87 wc => ∃ (kq : Nat) (x87_102 : Bool), v87 = .bool x87_102 ∧ Aside0 (laws_FnExactSqueeze.j2 kq t343 x87_102 t344 = some r) ∧ Aside0 (kq ≤ kj59) ∧ Aside0 (Kd.R k43 43 wc w.heap.size (fun k_ => some k_ ≠ ((.slice Ao26 t341.length co26) : Value).ownBlock ∧ some k_ ≠ ((.slice Ao32 t330.length co32) : Value).ownBlock ∧ some k_ ≠ ((.slice Ao118 t349.length co118) : Value).ownBlock) (.slice Ao20 t321.length co20) t321) ∧ Aside0 (Kd.R k43 43 wc w.heap.size (fun k_ => some k_ ≠ ((.slice Ao20 t321.length co20) : Value).ownBlock ∧ some k_ ≠ ((.slice Ao32 t330.length co32) : Value).ownBlock ∧ some k_ ≠ ((.slice Ao118 t349.length co118) : Value).ownBlock) (.slice Ao26 t341.length co26) t341) ∧ Aside0 (Kd.R k43 43 wc w.heap.size (fun k_ => some k_ ≠ ((.slice Ao20 t321.length co20) : Value).ownBlock ∧ some k_ ≠ ((.slice Ao26 t341.length co26) : Value).ownBlock ∧ some k_ ≠ ((.slice Ao118 t349.length co118) : Value).ownBlock) (.slice Ao32 t330.length co32) t344) ∧ Aside0 (Kd.R k43 43 wc w.heap.size (fun k_ => some k_ ≠ ((.slice Ao20 t321.length co20) : Value).ownBlock ∧ some k_ ≠ ((.slice Ao26 t341.length co26) : Value).ownBlock ∧ some k_ ≠ ((.slice Ao32 t330.length co32) : Value).ownBlock) (.slice Ao118 t349.length co118) t349) ∧ Aside0 (wc.heap[gb316]? = some (.cells #[(.slice A0_0 l0_0.length c0_0)] 24 (0, 0))) ∧ Aside0 (wc.heap[gb325]? = some (.cells #[(.slice Ao20 t321.length co20)] 30 (0, 0))) ∧ Aside0 (wc.heap[gb329]? = some (.cells #[(.slice Ao26 t341.length co26)] 30 (0, 0))) ∧ Aside0 (wc.heap[gb334]? = some (.cells #[(.slice Ao32 t330.length co32)] 30 (0, 0))) ∧ Aside0 (wc.heap[gb353]? = some (.cells #[(.slice Ao118 t349.length co118)] 30 (0, 0))) ∧ Aside0 (Below w.heap.size w wc))
     case first =>
      have H := HC103.out
      clear HC103
      replace H := Option.bind_eq_some_iff.mp H
      obtain ⟨t354, A1240, H⟩ := H
      have A124 := Aside0.mk A1240
      clear A1240
      by_cases c125 : t354 = true
      ·subst c125
       rw [if_pos rfl] at H
       have H' := Aside0.mk H
       clear H
       have hnb126 := NB353_316.out
       have hnc126 := NB316_353.out
       have hnb127 := NB353_325.out
       have hnc127 := NB325_353.out
       have hnb128 := NB353_329.out
       have hnc128 := NB329_353.out
       have hnb129 := NB353_334.out
       have hnc129 := NB334_353.out
       have hcz130_0 := cz_ BK353 0 (.slice none 0 0)
       have hfz130_0 := blk_frozen BK353.out 0
       have hnb131 := NB325_316.out
       have hnc131 := NB316_325.out
       have hnb132 := NB325_329.out
       have hnc132 := NB329_325.out
       have hnb133 := NB325_334.out
       have hnc133 := NB334_325.out
       have hcz134_0 := cz_ BK325 0 (.slice Ao20 t321.length co20)
       have hfz134_0 := blk_frozen BK325.out 0
       go_wp2_with (first | ((with_reducible refine gate_callee (f := 12) rfl ?_); refine gl_ (some 81) Try.func12 #[.agg #[.slice Ao118 t349.length co118], .agg #[.slice Ao20 t321.length co20]] ?_; (with_reducible refine (laws_eqTable.calls kj59 _ _ t349 _ _ t321 true _ ?side1 ?side2 ?side3 ?side4 A124.out).mono ?_); (case side1 => refine (Kd.R_reads' (e := 43) (base := w.heap.size) (ok := fun k_ => ((((True ∧ some k_ ≠ (.slice Ao20 t321.length co20 : Value).ownBlock) ∧ some k_ ≠ (.slice Ao26 t341.length co26 : Value).ownBlock) ∧ some k_ ≠ (.slice Ao32 t330.length co32 : Value).ownBlock) ∧ some k_ ≠ (.slice Ao115 t346.length co115 : Value).ownBlock)) (n := t349.length) (c := co118) ?_).2.2; exact (hs_ HO351 BK353)); (case side2 => exact (Kd.R_reads' HO351.out).2.1); (case side3 => refine (Kd.R_reads' (e := 43) (base := w.heap.size) (ok := fun k_ => (((some k_ ≠ (.slice Ao26 t341.length co26 : Value).ownBlock ∧ some k_ ≠ (.slice Ao32 t330.length co32 : Value).ownBlock) ∧ some k_ ≠ (.slice Ao115 t346.length co115 : Value).ownBlock) ∧ some k_ ≠ (.slice Ao118 t349.length co118 : Value).ownBlock)) (n := t321.length) (c := co20) ?_).2.2; exact (hs_ HO_326000 BK353)); (case side4 => exact (Kd.R_reads' HO_326000.out).2.1); rintro e w135 ⟨rfl, hb⟩; refine ⟨_, rfl, ?_⟩; replace HO_326000 := rs_ HO_326000 BK353 hb; replace HO_330000 := rs_ HO_330000 BK353 hb; replace HO_335000 := rs_ HO_335000 BK353 hb; replace HO348 := rs_ HO348 BK353 hb; replace HO351 := rs_ HO351 BK353 hb; replace BK316 := bf_ BK316 NB316_353 hb; replace BK325 := bf_ BK325 NB325_353 hb; replace BK329 := bf_ BK329 NB329_353 hb; replace BK334 := bf_ BK334 NB334_353 hb; replace BK353 := Aside0.mk (blk_below (g := gb353) (o := .cells #[.slice Ao118 t349.length co118] 30 (0, 0)) (by (with_reducible repeat (first | refine blk_drewN ?_ _ | refine blk_drew ?_ | refine blk_alloc ?_ _)); refine blk_put (cs := #[.slice none 0 0]) ?_ 0 _ rfl; (with_reducible repeat (first | refine blk_drewN ?_ _ | refine blk_drew ?_ | refine blk_alloc ?_ _)); exact BK353.out) hb); replace HB := Aside0.mk (bt_ HB hb); (try clear hb); (try clear hb2); (try clear hk); (try clear hi)))
       go_meet
       case rel => exact ⟨_, ((t352 != t324)), (by first | rfl | (simp; done) | (simp [*]; done)), H', ⟨by have := HJ10.out; have := HJ59.out; first | omega | exact Nat.le_refl _⟩, ⟨by (try simp only [hl330000_59]); (with_reducible repeat (first | apply Kd.R_alloc | apply Kd.R_drewN | apply Kd.R_drew)); exact Kd.R_mono HO_326000.out (fun _ hk => ⟨hk.1.1.1, ⟨hk.1.1.2, hk.2⟩⟩)⟩, ⟨by (try simp only [hl330000_59]); (with_reducible repeat (first | apply Kd.R_alloc | apply Kd.R_drewN | apply Kd.R_drew)); exact Kd.R_mono HO_330000.out (fun _ hk => ⟨hk.1.1.1, ⟨hk.1.1.2, hk.2⟩⟩)⟩, ⟨by (try simp only [hl330000_59]); (with_reducible repeat (first | apply Kd.R_alloc | apply Kd.R_drewN | apply Kd.R_drew)); exact Kd.R_mono HO_335000.out (fun _ hk => ⟨hk.1.1.1, ⟨hk.1.1.2, hk.2⟩⟩)⟩, ⟨by (try simp only [hl330000_59]); (with_reducible repeat (first | apply Kd.R_alloc | apply Kd.R_drewN | apply Kd.R_drew)); exact Kd.R_mono HO351.out (fun _ hk => ⟨hk.1.1.1.2, ⟨hk.1.1.2, hk.1.2⟩⟩)⟩, ⟨by (try simp only [hl330000_59]); (with_reducible repeat (first | refine blk_drewN ?_ _ | refine blk_drew ?_ | refine blk_alloc ?_ _)); exact BK316.out⟩, ⟨by (try simp only [hl330000_59]); (with_reducible repeat (first | refine blk_drewN ?_ _ | refine blk_drew ?_ | refine blk_alloc ?_ _)); exact BK325.out⟩, ⟨by (try simp only [hl330000_59]); (with_reducible repeat (first | refine blk_drewN ?_ _ | refine blk_drew ?_ | refine blk_alloc ?_ _)); exact BK329.out⟩, ⟨by (try simp only [hl330000_59]); (with_reducible repeat (first | refine blk_drewN ?_ _ | refine blk_drew ?_ | refine blk_alloc ?_ _)); exact BK334.out⟩, ⟨by (try simp only [hl330000_59]); (with_reducible repeat (first | refine blk_drewN ?_ _ | refine blk_drew ?_ | refine blk_alloc ?_ _)); exact BK353.out⟩, ⟨by repeat (first | (with_reducible first | exact HB.out | apply below_alloc | apply pw_below_drewN | apply below_drew1 | refine below_set ?_ GE316.out | refine below_set ?_ GE325.out | refine below_set ?_ GE329.out | refine below_set ?_ GE334.out | refine below_set ?_ GE353.out) | exact HB.out)⟩⟩
      replace c125 := Bool.eq_false_iff.mpr c125
      subst c125
      rw [if_neg (show ¬ (false = true) by decide)] at H
      have H' := Aside0.mk H
      clear H
      have hnb136 := NB353_316.out
      have hnc136 := NB316_353.out
      have hnb137 := NB353_325.out
      have hnc137 := NB325_353.out
      have hnb138 := NB353_329.out
      have hnc138 := NB329_353.out
      have hnb139 := NB353_334.out
      have hnc139 := NB334_353.out
      have hcz140_0 := cz_ BK353 0 (.slice none 0 0)
      have hfz140_0 := blk_frozen BK353.out 0
      have hnb141 := NB325_316.out
      have hnc141 := NB316_325.out
      have hnb142 := NB325_329.out
      have hnc142 := NB329_325.out
      have hnb143 := NB325_334.out
      have hnc143 := NB334_325.out
      have hcz144_0 := cz_ BK325 0 (.slice Ao20 t321.length co20)
      have hfz144_0 := blk_frozen BK325.out 0
      go_wp2_with (first | ((with_reducible refine gate_callee (f := 12) rfl ?_); refine gl_ (some 81) Try.func12 #[.agg #[.slice Ao118 t349.length co118], .agg #[.slice Ao20 t321.length co20]] ?_; (with_reducible refine (laws_eqTable.calls kj59 _ _ t349 _ _ t321 false _ ?side1 ?side2 ?side3 ?side4 A124.out).mono ?_); (case side1 => refine (Kd.R_reads' (e := 43) (base := w.heap.size) (ok := fun k_ => ((((True ∧ some k_ ≠ (.slice Ao20 t321.length co20 : Value).ownBlock) ∧ some k_ ≠ (.slice Ao26 t341.length co26 : Value).ownBlock) ∧ some k_ ≠ (.slice Ao32 t330.length co32 : Value).ownBlock) ∧ some k_ ≠ (.slice Ao115 t346.length co115 : Value).ownBlock)) (n := t349.length) (c := co118) ?_).2.2; exact (hs_ HO351 BK353)); (case side2 => exact (Kd.R_reads' HO351.out).2.1); (case side3 => refine (Kd.R_reads' (e := 43) (base := w.heap.size) (ok := fun k_ => (((some k_ ≠ (.slice Ao26 t341.length co26 : Value).ownBlock ∧ some k_ ≠ (.slice Ao32 t330.length co32 : Value).ownBlock) ∧ some k_ ≠ (.slice Ao115 t346.length co115 : Value).ownBlock) ∧ some k_ ≠ (.slice Ao118 t349.length co118 : Value).ownBlock)) (n := t321.length) (c := co20) ?_).2.2; exact (hs_ HO_326000 BK353)); (case side4 => exact (Kd.R_reads' HO_326000.out).2.1); rintro e w145 ⟨rfl, hb⟩; refine ⟨_, rfl, ?_⟩; replace HO_326000 := rs_ HO_326000 BK353 hb; replace HO_330000 := rs_ HO_330000 BK353 hb; replace HO_335000 := rs_ HO_335000 BK353 hb; replace HO348 := rs_ HO348 BK353 hb; replace HO351 := rs_ HO351 BK353 hb; replace BK316 := bf_ BK316 NB316_353 hb; replace BK325 := bf_ BK325 NB325_353 hb; replace BK329 := bf_ BK329 NB329_353 hb; replace BK334 := bf_ BK334 NB334_353 hb; replace BK353 := Aside0.mk (blk_below (g := gb353) (o := .cells #[.slice Ao118 t349.length co118] 30 (0, 0)) (by (with_reducible repeat (first | refine blk_drewN ?_ _ | refine blk_drew ?_ | refine blk_alloc ?_ _)); refine blk_put (cs := #[.slice none 0 0]) ?_ 0 _ rfl; (with_reducible repeat (first | refine blk_drewN ?_ _ | refine blk_drew ?_ | refine blk_alloc ?_ _)); exact BK353.out) hb); replace HB := Aside0.mk (bt_ HB hb); (try clear hb); (try clear hb2); (try clear hk); (try clear hi)))
      go_meet
      case rel => exact ⟨_, (true), (by first | rfl | (simp; done) | (simp [*]; done)), H', ⟨by have := HJ10.out; have := HJ59.out; first | omega | exact Nat.le_refl _⟩, ⟨by (try simp only [hl330000_59]); (with_reducible repeat (first | apply Kd.R_alloc | apply Kd.R_drewN | apply Kd.R_drew)); exact Kd.R_mono HO_326000.out (fun _ hk => ⟨hk.1.1.1, ⟨hk.1.1.2, hk.2⟩⟩)⟩, ⟨by (try simp only [hl330000_59]); (with_reducible repeat (first | apply Kd.R_alloc | apply Kd.R_drewN | apply Kd.R_drew)); exact Kd.R_mono HO_330000.out (fun _ hk => ⟨hk.1.1.1, ⟨hk.1.1.2, hk.2⟩⟩)⟩, ⟨by (try simp only [hl330000_59]); (with_reducible repeat (first | apply Kd.R_alloc | apply Kd.R_drewN | apply Kd.R_drew)); exact Kd.R_mono HO_335000.out (fun _ hk => ⟨hk.1.1.1, ⟨hk.1.1.2, hk.2⟩⟩)⟩, ⟨by (try simp only [hl330000_59]); (with_reducible repeat (first | apply Kd.R_alloc | apply Kd.R_drewN | apply Kd.R_drew)); exact Kd.R_mono HO351.out (fun _ hk => ⟨hk.1.1.1.2, ⟨hk.1.1.2, hk.1.2⟩⟩)⟩, ⟨by (try simp only [hl330000_59]); (with_reducible repeat (first | refine blk_drewN ?_ _ | refine blk_drew ?_ | refine blk_alloc ?_ _)); exact BK316.out⟩, ⟨by (try simp only [hl330000_59]); (with_reducible repeat (first | refine blk_drewN ?_ _ | refine blk_drew ?_ | refine blk_alloc ?_ _)); exact BK325.out⟩, ⟨by (try simp only [hl330000_59]); (with_reducible repeat (first | refine blk_drewN ?_ _ | refine blk_drew ?_ | refine blk_alloc ?_ _)); exact BK329.out⟩, ⟨by (try simp only [hl330000_59]); (with_reducible repeat (first | refine blk_drewN ?_ _ | refine blk_drew ?_ | refine blk_alloc ?_ _)); exact BK334.out⟩, ⟨by (try simp only [hl330000_59]); (with_reducible repeat (first | refine blk_drewN ?_ _ | refine blk_drew ?_ | refine blk_alloc ?_ _)); exact BK353.out⟩, ⟨by repeat (first | (with_reducible first | exact HB.out | apply below_alloc | apply pw_below_drewN | apply below_drew1 | refine below_set ?_ GE316.out | refine below_set ?_ GE325.out | refine below_set ?_ GE329.out | refine below_set ?_ GE334.out | refine below_set ?_ GE353.out) | exact HB.out)⟩⟩
     case rest =>
      clear HC103
      try clear c1
      try clear c2
      try clear p2
      try clear c3
      try clear c3b0
      try clear c4
      try clear c5
      try clear c6
      try clear c7
      try clear c8
      try clear c9
      try clear c10
      try clear c11
      try clear c12
      try clear c13
      try clear c14
      try clear c18
      try clear c19
      try clear c21
      try clear c27
      try clear c28
      try clear c33
      try clear c34
      try clear c35
      try clear c38
      try clear c39
      try clear c40
      try clear c41
      try clear c43
      try clear c44
      try clear c47
      try clear c48
      try clear c49
      try clear c51
      try clear c52
      try clear c55
      try clear c58
      try clear c65
      try clear c66
      try clear c67
      try clear c70
      try clear c70b0
      try clear c72
      try clear c73
      try clear c74
      try clear c75
      try clear c77
      try clear c78
      try clear c81
      try clear c82
      try clear c83
      try clear c85
      try clear c86
      try clear c89
      try clear c92
      try clear c92b0
      try clear c93
      try clear c94
      try clear c95
      try clear c100
      try clear c100b0
      try clear c100b1
      try clear c104
      try clear c105
      try clear c106
      try clear c111
      try clear c112
      try clear c119
      try clear c120
      try clear c121
      try clear c122
      try clear c125
      try clear c126
      try clear c127
      try clear c128
      try clear c129
      try clear c131
      try clear c132
      try clear c133
      try clear c136
      try clear c137
      try clear c138
      try clear c139
      try clear c141
      try clear c142
      try clear c143
      try clear hcz107_0
      try clear hcz109_0
      try clear hcz113_0
      try clear hcz123_0
      try clear hcz130_0
      try clear hcz134_0
      try clear hcz13_0
      try clear hcz140_0
      try clear hcz144_0
      try clear hcz15_0
      try clear hcz22_0
      try clear hcz23_0
      try clear hcz29_0
      try clear hcz36_0
      try clear hcz42_0
      try clear hcz45_0
      try clear hcz50_0
      try clear hcz53_0
      try clear hcz5_0
      try clear hcz68_0
      try clear hcz76_0
      try clear hcz79_0
      try clear hcz84_0
      try clear hcz87_0
      try clear hcz96_0
      try clear hcz98_0
      try clear hfz107_0
      try clear hfz109_0
      try clear hfz113_0
      try clear hfz123_0
      try clear hfz130_0
      try clear hfz134_0
      try clear hfz13_0
      try clear hfz140_0
      try clear hfz144_0
      try clear hfz15_0
      try clear hfz22_0
      try clear hfz23_0
      try clear hfz29_0
      try clear hfz36_0
      try clear hfz42_0
      try clear hfz45_0
      try clear hfz50_0
      try clear hfz53_0
      try clear hfz5_0
      try clear hfz68_0
      try clear hfz76_0
      try clear hfz79_0
      try clear hfz84_0
      try clear hfz87_0
      try clear hfz96_0
      try clear hfz98_0
      try clear p2
      obtain ⟨kq, x87_102, rfl, HA, HJ102, HO_326000, HO_330000, HO_335000, HO_354000, BK316, BK325, BK329, BK334, BK353, HB⟩ := hcut
      have hl335000_102 := (Kd.R_reads' HO_335000.out).1
      rw [hl335000_102] at HO_335000
      (try simp only [hl335000_102])
      (try simp only [hl335000_102] at BK316)
      (try simp only [hl335000_102] at BK325)
      (try simp only [hl335000_102] at BK329)
      (try simp only [hl335000_102] at BK334)
      (try simp only [hl335000_102] at BK353)
      (try simp only [hl335000_102] at HO_326000)
      (try simp only [hl335000_102] at HO_330000)
      (try simp only [hl335000_102] at HO_354000)
      cases kq with
      | zero => exact absurd HA.out (by simp [laws_FnExactSqueeze.j2])
      | succ kj102 =>
       have H := HA.out
       clear HA
       simp only [laws_FnExactSqueeze.j2] at H
       by_cases c146 : x87_102 = true
       ·subst c146
        rw [if_pos rfl] at H
        obtain rfl := Option.some.inj H
        go_wp2
        go_ret
        exact ⟨by first | rfl | (simp [errW_none, errW_some] <;> rfl) | (simp [*, errW_none, errW_some] <;> rfl), by repeat (first | (with_reducible first | exact HB.out | apply below_alloc | apply pw_below_drewN | apply below_drew1 | refine below_set ?_ GE316.out | refine below_set ?_ GE325.out | refine below_set ?_ GE329.out | refine below_set ?_ GE334.out | refine below_set ?_ GE353.out) | exact HB.out)⟩
       replace c146 := Bool.eq_false_iff.mpr c146
       subst c146
       rw [if_neg (show ¬ (false = true) by decide)] at H
       replace H := Option.bind_eq_some_iff.mp H
       obtain ⟨t355, A1470, H⟩ := H
       have A147 := Aside0.mk A1470
       clear A1470
       by_cases c148 : t355 < 0
       ·rw [if_pos c148] at H
        have c148b0 : decide (t355 < 0) = true := decide_eq_true c148
        clear c148
        obtain rfl := Option.some.inj H
        have hnb149 := NB334_316.out
        have hnc149 := NB316_334.out
        have hnb150 := NB334_325.out
        have hnc150 := NB325_334.out
        have hnb151 := NB334_329.out
        have hnc151 := NB329_334.out
        have hnb152 := NB334_353.out
        have hnc152 := NB353_334.out
        have hcz153_0 := cz_ BK334 0 (.slice Ao32 t344.length co32)
        have hfz153_0 := blk_frozen BK334.out 0
        go_wp2_with (first | ((with_reducible refine gate_callee (f := 14) rfl ?_); refine gl_ (some 90) Try.func14 #[.agg #[.slice Ao32 t344.length co32], .int .i64 1] ?_; (with_reducible refine (laws_heldTable.calls kj102 _ _ t344 1 t355 _ ?side1 ?side2 A147.out).mono ?_); (case side1 => exact rc_ HO_335000); (case side2 => exact (Kd.R_reads' HO_335000.out).2.1); rintro e w154 ⟨rfl, hb⟩; refine ⟨_, rfl, ?_⟩; replace HO_326000 := rb_ HO_326000 hb; replace HO_330000 := rb_ HO_330000 hb; replace HO_335000 := rb_ HO_335000 hb; replace HO_354000 := rb_ HO_354000 hb; replace BK316 := Aside0.mk (bb_ BK316 hb); replace BK325 := Aside0.mk (bb_ BK325 hb); replace BK329 := Aside0.mk (bb_ BK329 hb); replace BK334 := Aside0.mk (bb_ BK334 hb); replace BK353 := Aside0.mk (bb_ BK353 hb); replace HB := Aside0.mk (bt_ HB hb); (try clear hb); (try clear hb2); (try clear hk); (try clear hi)))
        go_ret
        exact ⟨by first | rfl | (simp [errW_none, errW_some] <;> rfl) | (simp [*, errW_none, errW_some] <;> rfl), by repeat (first | (with_reducible first | exact HB.out | apply below_alloc | apply pw_below_drewN | apply below_drew1 | refine below_set ?_ GE316.out | refine below_set ?_ GE325.out | refine below_set ?_ GE329.out | refine below_set ?_ GE334.out | refine below_set ?_ GE353.out) | exact HB.out)⟩
       rw [if_neg c148] at H
       have c148b0 : decide (t355 < 0) = false := decide_eq_false c148
       clear c148
       by_cases c155 : t355 = t343
       rotate_left
       ·rw [if_neg c155] at H
        have c155b0 : (t355 == t343) = false := beq_eq_false_iff_ne.mpr c155
        have c155b1 : (t355 != t343) = true := bne_iff_ne.mpr c155
        obtain rfl := Option.some.inj H
        have hnb162 := NB334_316.out
        have hnc162 := NB316_334.out
        have hnb163 := NB334_325.out
        have hnc163 := NB325_334.out
        have hnb164 := NB334_329.out
        have hnc164 := NB329_334.out
        have hnb165 := NB334_353.out
        have hnc165 := NB353_334.out
        have hcz166_0 := cz_ BK334 0 (.slice Ao32 t344.length co32)
        have hfz166_0 := blk_frozen BK334.out 0
        go_wp2_with (first | ((with_reducible refine gate_callee (f := 14) rfl ?_); refine gl_ (some 90) Try.func14 #[.agg #[.slice Ao32 t344.length co32], .int .i64 1] ?_; (with_reducible refine (laws_heldTable.calls kj102 _ _ t344 1 t355 _ ?side1 ?side2 A147.out).mono ?_); (case side1 => exact rc_ HO_335000); (case side2 => exact (Kd.R_reads' HO_335000.out).2.1); rintro e w167 ⟨rfl, hb⟩; refine ⟨_, rfl, ?_⟩; replace HO_326000 := rb_ HO_326000 hb; replace HO_330000 := rb_ HO_330000 hb; replace HO_335000 := rb_ HO_335000 hb; replace HO_354000 := rb_ HO_354000 hb; replace BK316 := Aside0.mk (bb_ BK316 hb); replace BK325 := Aside0.mk (bb_ BK325 hb); replace BK329 := Aside0.mk (bb_ BK329 hb); replace BK334 := Aside0.mk (bb_ BK334 hb); replace BK353 := Aside0.mk (bb_ BK353 hb); replace HB := Aside0.mk (bt_ HB hb); (try clear hb); (try clear hb2); (try clear hk); (try clear hi)))
        go_ret
        exact ⟨by first | rfl | (simp [errW_none, errW_some] <;> rfl) | (simp [*, errW_none, errW_some] <;> rfl), by repeat (first | (with_reducible first | exact HB.out | apply below_alloc | apply pw_below_drewN | apply below_drew1 | refine below_set ?_ GE316.out | refine below_set ?_ GE325.out | refine below_set ?_ GE329.out | refine below_set ?_ GE334.out | refine below_set ?_ GE353.out) | exact HB.out)⟩
       rw [if_pos c155] at H
       have c155b0 : (t355 == t343) = true := beq_iff_eq.mpr c155
       have c155b1 : (t355 != t343) = false := bne_eq_false_iff_eq.mpr c155
       clear c155
       obtain rfl := Option.some.inj H
       have hnb156 := NB334_316.out
       have hnc156 := NB316_334.out
       have hnb157 := NB334_325.out
       have hnc157 := NB325_334.out
       have hnb158 := NB334_329.out
       have hnc158 := NB329_334.out
       have hnb159 := NB334_353.out
       have hnc159 := NB353_334.out
       have hcz160_0 := cz_ BK334 0 (.slice Ao32 t344.length co32)
       have hfz160_0 := blk_frozen BK334.out 0
       go_wp2_with (first | ((with_reducible refine gate_callee (f := 14) rfl ?_); refine gl_ (some 90) Try.func14 #[.agg #[.slice Ao32 t344.length co32], .int .i64 1] ?_; (with_reducible refine (laws_heldTable.calls kj102 _ _ t344 1 t355 _ ?side1 ?side2 A147.out).mono ?_); (case side1 => exact rc_ HO_335000); (case side2 => exact (Kd.R_reads' HO_335000.out).2.1); rintro e w161 ⟨rfl, hb⟩; refine ⟨_, rfl, ?_⟩; replace HO_326000 := rb_ HO_326000 hb; replace HO_330000 := rb_ HO_330000 hb; replace HO_335000 := rb_ HO_335000 hb; replace HO_354000 := rb_ HO_354000 hb; replace BK316 := Aside0.mk (bb_ BK316 hb); replace BK325 := Aside0.mk (bb_ BK325 hb); replace BK329 := Aside0.mk (bb_ BK329 hb); replace BK334 := Aside0.mk (bb_ BK334 hb); replace BK353 := Aside0.mk (bb_ BK353 hb); replace HB := Aside0.mk (bt_ HB hb); (try clear hb); (try clear hb2); (try clear hk); (try clear hi)))
       go_ret
       exact ⟨by first | rfl | (simp [errW_none, errW_some] <;> rfl) | (simp [*, errW_none, errW_some] <;> rfl), by repeat (first | (with_reducible first | exact HB.out | apply below_alloc | apply pw_below_drewN | apply below_drew1 | refine below_set ?_ GE316.out | refine below_set ?_ GE325.out | refine below_set ?_ GE329.out | refine below_set ?_ GE334.out | refine below_set ?_ GE353.out) | exact HB.out)⟩

end Go.Proofs.Ytflfbaofgfandaa.QFnExactSqueeze
