/- Contracts of functions that the law reaches: what each call returns and what it leaves in memory. Made by this session over the print of the kit. -/
import Derived.Test.YteopiggdpadolaaQFnExactCountWaysx0
import Derived.Test.YteopiggdpadolaaQFnExactCountWaysx1
import Derived.Test.YteopiggdpadolaaQFnExactCountWaysx6
import Derived.Test.YteopiggdpadolaaQFnExactCountWaysx11
namespace Go.Proofs.Yteopiggdpadolaa.QFnExactCountWays
open Go.RowKit Go.Proofs.YteopiggdpadolaaX.PrintWords Go.Proofs.YteopiggdpadolaaX.PrintLast Go.Proofs.YteopiggdpadolaaX.PrintMore
attribute [local go_sem] max2_int min2_int max_two min_two max_three min_three max_four min_four   -- for this text's walks alone
set_option linter.unusedVariables false
set_option linter.unusedSimpArgs false
def ba12_0 : Array Bool := #[false, false, false, false, false]
def ba12_1 : Array Bool := #[true, false, false, false, false]
def ba12_2 : Array Bool := #[true, true, false, false, false]
def ba12_3 : Array Bool := #[true, true, true, false, false]
def ba12_4 : Array Bool := #[true, true, true, true, false]
def ba12_5 : Array Bool := #[true, true, true, true, true]

/-! ### laws_FnExactCountWays: function 10 -/
def laws_FnExactCountWays.f (k : Nat) (a0_0 : Int) (l0_1 : List (S82)) (a1 : Int) (a2 : Int) : Option (Bool) := (laws_szGraph.f a0_0 l0_1 1048576).bind fun t288 => (if t288 < 0 then (some true) else ((laws_toGraph.f k a0_0 l0_1).bind fun bt289 => ((spec_CountWays.f k bt289.1 bt289.2 a1 a2).bind fun t293 => ((laws_toGraph.f k a0_0 l0_1).bind fun bt294 => ((impl_CountWays.f k bt294.1 bt294.2 a1 a2).bind fun t299 => (if t299 = t293 then ((laws_toGraph.f k a0_0 l0_1).bind fun bt300 => ((laws_eqGraph.f k bt294.1 bt294.2 bt300.1 bt300.2).bind fun t304 => (if t304 = true then (some true) else (some false)))) else (some false)))))))
theorem laws_FnExactCountWays.mono : ∀ a0 a1 a2 a3 k, LeO (laws_FnExactCountWays.f k a0 a1 a2 a3) (laws_FnExactCountWays.f (k + 1) a0 a1 a2 a3) := by
 intro a0 a1 a2 a3 k
 unfold laws_FnExactCountWays.f
 repeat' first
   | (with_reducible exact impl_CountWays.mono _ _ _ _ _)
   | (with_reducible exact laws_eqGraph.mono _ _ _ _ _)
   | (with_reducible exact laws_toGraph.mono _ _ _)
   | (with_reducible exact spec_CountWays.mono _ _ _ _ _)
   | (with_reducible exact LeO.refl _)
   | (with_reducible exact LeO.none _)
   | (with_reducible refine LeO.ite ?_ ?_)
   | (with_reducible refine LeO.bind ?_ (fun _ => ?_))
   | exact impl_CountWays.mono _ _ _ _ _
   | exact laws_eqGraph.mono _ _ _ _ _
   | exact laws_toGraph.mono _ _ _
   | exact spec_CountWays.mono _ _ _ _ _
   | exact LeO.none _
   | refine LeO.ite ?_ ?_
   | refine LeO.bind ?_ (fun _ => ?_)
set_option maxHeartbeats 8000000 in
set_option maxRecDepth 100000 in
theorem laws_FnExactCountWays.calls (k : Nat) (a0_0 : Int) (A0_1 : Option Addr) (c0_1 : Nat) (l0_1 : List (S82)) (a1 : Int) (a2 : Int) (r : Bool) (w : World) (hr0_1 : Kd.C k82 w A0_1 l0_1.length l0_1) (hc0_1 : l0_1.length ≤ c0_1) (h : laws_FnExactCountWays.f k a0_0 l0_1 a1 a2 = some r) :
  Calls Try.prog 10 #[.agg #[.int .i64 a0_0, .slice A0_1 l0_1.length c0_1], .int .i64 a1, .int .i64 a2] w fun e w' => e = .returned (.bool r) ∧ Below w.heap.size w w' := by
 have hu24 := Try.underlying24
 have hu30 := Try.underlying30
 have HR0_1 := Aside0.mk hr0_1
 have HC0_1 := Aside0.mk hc0_1
 clear hr0_1 hc0_1
 have HB := Aside0.mk (Below.refl w.heap.size w)
 have H : ((laws_szGraph.f a0_0 l0_1 1048576).bind fun t288 => (if t288 < 0 then (some true) else ((laws_toGraph.f k a0_0 l0_1).bind fun bt289 => ((spec_CountWays.f k bt289.1 bt289.2 a1 a2).bind fun t293 => ((laws_toGraph.f k a0_0 l0_1).bind fun bt294 => ((impl_CountWays.f k bt294.1 bt294.2 a1 a2).bind fun t299 => (if t299 = t293 then ((laws_toGraph.f k a0_0 l0_1).bind fun bt300 => ((laws_eqGraph.f k bt294.1 bt294.2 bt300.1 bt300.2).bind fun t304 => (if t304 = true then (some true) else (some false)))) else (some false)))))))) = some r := h
 clear h
 replace H := Option.bind_eq_some_iff.mp H
 obtain ⟨t288, A40, H⟩ := H
 have A4 := Aside0.mk A40
 clear A40
 by_cases c5 : t288 < 0
 ·rw [if_pos c5] at H
  have c5b0 : decide (t288 < 0) = true := decide_eq_true c5
  clear c5
  obtain rfl := Option.some.inj H
  go_enter Try.func10, Try.ntmps10
  go_wp2_with (first | ((with_reducible refine gate_dst (N := 3) rfl ?_); refine box_event ?hg (N := 3) ?hd (cs := #[.int .i64 a0_0, .slice A0_1 l0_1.length c0_1]) (t := 24) ?hr ?_; (case hd => rfl); (case hg => rfl); (case hr => first | (go_simp; done) | (go_simp; rfl)); intro gb287 hg w6 hbox hb; have BK287 := Aside0.mk hbox; have GW287 := ge_ HB hg; have GE287 := ge_ HB hg; replace HB := Aside0.mk (bt_ HB hb); clear hb hbox hg; have hcz7_0 := cz_ BK287 0 (.int .i64 a0_0); have hcz7_1 := cz_ BK287 1 (.slice A0_1 l0_1.length c0_1); have hfz7_0 := blk_frozen BK287.out 0; have hfz7_1 := blk_frozen BK287.out 1) | ((with_reducible refine gate_callee (f := 15) rfl ?_); refine gl_ (some 13) Try.func15 #[.agg #[.int .i64 a0_0, .slice A0_1 l0_1.length c0_1], .int .i64 1048576] ?_; (with_reducible refine (laws_szGraph.calls a0_0 _ _ l0_1 1048576 t288 _ ?side1 ?side2 A4.out).mono ?_); (case side1 => exact cb_ HR0_1 HB); (case side2 => exact HC0_1.out); rintro e w8 ⟨rfl, hb⟩; refine ⟨_, rfl, ?_⟩; replace BK287 := Aside0.mk (bb_ BK287 hb); replace HB := Aside0.mk (bt_ HB hb); (try clear hb); (try clear hb2); (try clear hk); (try clear hi)))
  go_ret
  exact ⟨by first | rfl | (simp [errW_none, errW_some] <;> rfl) | (simp [*, errW_none, errW_some] <;> rfl), by repeat (first | (with_reducible first | exact HB.out | apply below_alloc | apply pw_below_drewN | apply below_drew1 | refine below_set ?_ GE287.out) | exact HB.out)⟩
 ·rw [if_neg c5] at H
  have c5b0 : decide (t288 < 0) = false := decide_eq_false c5
  clear c5
  replace H := Option.bind_eq_some_iff.mp H
  obtain ⟨⟨t289, t290⟩, A90, H⟩ := H
  have A9 := Aside0.mk A90
  clear A90
  replace H := Option.bind_eq_some_iff.mp H
  obtain ⟨t293, A100, H⟩ := H
  have A10 := Aside0.mk A100
  clear A100
  replace H := Option.bind_eq_some_iff.mp H
  obtain ⟨⟨t294, t295⟩, A110, H⟩ := H
  have A11 := Aside0.mk A110
  clear A110
  replace H := Option.bind_eq_some_iff.mp H
  obtain ⟨t299, A120, H⟩ := H
  have A12 := Aside0.mk A120
  clear A120
  by_cases c13 : t299 = t293
  ·rw [if_pos c13] at H
   have c13b0 : (t299 == t293) = true := beq_iff_eq.mpr c13
   have c13b1 : (t299 != t293) = false := bne_eq_false_iff_eq.mpr c13
   clear c13
   replace H := Option.bind_eq_some_iff.mp H
   obtain ⟨⟨t300, t301⟩, A140, H⟩ := H
   have A14 := Aside0.mk A140
   clear A140
   replace H := Option.bind_eq_some_iff.mp H
   obtain ⟨t304, A150, H⟩ := H
   have A15 := Aside0.mk A150
   clear A150
   by_cases c16 : t304 = true
   ·subst c16
    rw [if_pos rfl] at H
    obtain rfl := Option.some.inj H
    go_enter Try.func10, Try.ntmps10
    try go_wp2_with (first | ((with_reducible refine gate_dst (N := 3) rfl ?_); refine box_event ?hg (N := 3) ?hd (cs := #[.int .i64 a0_0, .slice A0_1 l0_1.length c0_1]) (t := 24) ?hr ?_; (case hd => rfl); (case hg => rfl); (case hr => first | (go_simp; done) | (go_simp; rfl)); intro gb287 hg w17 hbox hb; have BK287 := Aside0.mk hbox; have GW287 := ge_ HB hg; have GE287 := ge_ HB hg; replace HB := Aside0.mk (bt_ HB hb); clear hb hbox hg; have hcz18_0 := cz_ BK287 0 (.int .i64 a0_0); have hcz18_1 := cz_ BK287 1 (.slice A0_1 l0_1.length c0_1); have hfz18_0 := blk_frozen BK287.out 0; have hfz18_1 := blk_frozen BK287.out 1) | ((with_reducible refine gate_callee (f := 15) rfl ?_); refine gl_ (some 13) Try.func15 #[.agg #[.int .i64 a0_0, .slice A0_1 l0_1.length c0_1], .int .i64 1048576] ?_; (with_reducible refine (laws_szGraph.calls a0_0 _ _ l0_1 1048576 t288 _ ?side1 ?side2 A4.out).mono ?_); (case side1 => exact cb_ HR0_1 HB); (case side2 => exact HC0_1.out); rintro e w19 ⟨rfl, hb⟩; refine ⟨_, rfl, ?_⟩; replace BK287 := Aside0.mk (bb_ BK287 hb); replace HB := Aside0.mk (bt_ HB hb); (try clear hb); (try clear hb2); (try clear hk); (try clear hi); have hcz20_0 := cz_ BK287 0 (.int .i64 a0_0); have hcz20_1 := cz_ BK287 1 (.slice A0_1 l0_1.length c0_1); have hfz20_0 := blk_frozen BK287.out 0; have hfz20_1 := blk_frozen BK287.out 1) | ((with_reducible refine gate_callee (f := 17) rfl ?_); refine gl_ (some 17) Try.func17 #[.agg #[.int .i64 a0_0, .slice A0_1 l0_1.length c0_1]] ?_; (with_reducible refine (laws_toGraph.calls k a0_0 _ _ l0_1 t289 t290 _ ?side1 ?side2 A9.out).mono ?_); (case side1 => exact cb_ HR0_1 HB); (case side2 => exact HC0_1.out); rintro e w21 ⟨v291, rfl, ho0, hb⟩; refine ⟨_, rfl, ?_⟩; have HO292 := Aside0.mk (Kd.R_lower ho0 (bz_ HB)); replace BK287 := Aside0.mk (bb_ BK287 hb); replace HB := Aside0.mk (bt_ HB hb); (try clear hb); (try clear hb2); (try clear hk); (try clear hi); (try clear ho0); obtain ⟨Ao22, co22, eo22⟩ := Kd.R_slice HO292.out; subst eo22) | ((with_reducible refine gate_callee (f := 41) rfl ?_); refine gl_ (some 20) Try.func41 #[.agg #[.int .i64 t289, .slice Ao22 t290.length co22], .int .i64 a1, .int .i64 a2] ?_; (with_reducible refine (spec_CountWays.calls k t289 _ _ t290 a1 a2 t293 _ ?side1 ?side2 A10.out).mono ?_); (case side1 => exact rc_ HO292); (case side2 => exact (Kd.R_reads' HO292.out).2.1); rintro e w23 ⟨rfl, hb⟩; refine ⟨_, rfl, ?_⟩; replace HO292 := rb_ HO292 hb; replace BK287 := Aside0.mk (bb_ BK287 hb); replace HB := Aside0.mk (bt_ HB hb); (try clear hb); (try clear hb2); (try clear hk); (try clear hi); have hcz24_0 := cz_ BK287 0 (.int .i64 a0_0); have hcz24_1 := cz_ BK287 1 (.slice A0_1 l0_1.length c0_1); have hfz24_0 := blk_frozen BK287.out 0; have hfz24_1 := blk_frozen BK287.out 1) | ((with_reducible refine gate_callee (f := 17) rfl ?_); refine gl_ (some 22) Try.func17 #[.agg #[.int .i64 a0_0, .slice A0_1 l0_1.length c0_1]] ?_; (with_reducible refine (laws_toGraph.calls k a0_0 _ _ l0_1 t294 t295 _ ?side1 ?side2 A11.out).mono ?_); (case side1 => exact cb_ HR0_1 HB); (case side2 => exact HC0_1.out); rintro e w25 ⟨v296, rfl, ho0, hb⟩; refine ⟨_, rfl, ?_⟩; have HO297 := Aside0.mk (Kd.R_lower (Kd.R_new' ho0 (Kd.R_lt (hd_ HO292))) (bz_ HB)); replace HO292 := Aside0.mk (Kd.R_elder' (hd_ HO292) (Kd.R_base ho0) hb); replace BK287 := Aside0.mk (bb_ BK287 hb); replace HB := Aside0.mk (bt_ HB hb); (try clear hb); (try clear hb2); (try clear hk); (try clear hi); (try clear ho0)) | ((with_reducible refine gate_dst (N := 9) rfl ?_); refine box_event ?hg (N := 9) ?hd (cs := #[.int .i64 0, .slice none 0 0]) (t := 30) ?hr ?_; (case hd => rfl); (case hg => rfl); (case hr => first | (go_simp; done) | (go_simp; rfl)); intro gb298 hg w26 hbox hb; have BK298 := Aside0.mk hbox; have GW298 := ge_ HB hg; have GE298 := ge_ HB hg; have NB287_298 := nl_ BK287 hg; have NB298_287 := ng_ BK287 hg; replace HO292 := rb_ HO292 hb; replace HO297 := rb_ HO297 hb; replace HB := Aside0.mk (bt_ HB hb); replace BK287 := Aside0.mk (bb_ BK287 hb); clear hb hbox hg; have hnb27 := NB298_287.out; have hnc27 := NB287_298.out; have hcz28_0 := cz_ BK298 0 (.int .i64 0); have hcz28_1 := cz_ BK298 1 (.slice none 0 0); have hfz28_0 := blk_frozen BK298.out 0; have hfz28_1 := blk_frozen BK298.out 1; obtain ⟨Ao29, co29, eo29⟩ := Kd.R_slice HO297.out; subst eo29) | ((with_reducible refine gate_callee (f := 42) rfl ?_); refine gl_ (some 26) Try.func42 #[.agg #[.int .i64 t294, .slice Ao29 t295.length co29], .int .i64 a1, .int .i64 a2] ?_; (with_reducible refine (impl_CountWays.calls k t294 _ _ t295 a1 a2 t299 _ ?side1 ?side2 A12.out).mono ?_); (case side1 => refine (Kd.R_reads' (e := 67) (base := w.heap.size) (ok := fun k_ => (True ∧ some k_ ≠ (.slice Ao22 t290.length co22 : Value).ownBlock)) (n := t295.length) (c := co29) ?_).2.2; exact (hs_ HO297 BK298)); (case side2 => exact (Kd.R_reads' HO297.out).2.1); rintro e w30 ⟨rfl, hb⟩; refine ⟨_, rfl, ?_⟩; replace HO292 := rs_ HO292 BK298 hb; replace HO297 := rs_ HO297 BK298 hb; replace BK287 := bf_ BK287 NB287_298 hb; replace BK298 := Aside0.mk (blk_below (g := gb298) (o := .cells #[.int .i64 t294, .slice Ao29 t295.length co29] 30 (0, 0)) (by (with_reducible repeat (first | refine blk_drewN ?_ _ | refine blk_drew ?_ | refine blk_alloc ?_ _)); refine blk_put (cs := #[.int .i64 t294, .slice none 0 0]) ?_ 1 _ rfl; (with_reducible repeat (first | refine blk_drewN ?_ _ | refine blk_drew ?_ | refine blk_alloc ?_ _)); refine blk_put (cs := #[.int .i64 0, .slice none 0 0]) ?_ 0 _ rfl; (with_reducible repeat (first | refine blk_drewN ?_ _ | refine blk_drew ?_ | refine blk_alloc ?_ _)); exact BK298.out) hb); replace HB := Aside0.mk (bt_ HB hb); (try clear hb); (try clear hb2); (try clear hk); (try clear hi)))
    replace HO292 := Aside0.mk (Kd.R_drew HO292.out)
    replace HO297 := Aside0.mk (Kd.R_drew HO297.out)
    replace BK287 := Aside0.mk (blk_drew BK287.out)
    replace BK298 := Aside0.mk (blk_drew BK298.out)
    replace HB := Aside0.mk (below_drew1 HB.out)
    refine start_ (n := 5) (S := fun w' => w'.cell? ⟨gb298, 0, none⟩ = some (.int .i64 t294) ∧ w'.cell? ⟨gb298, 1, none⟩ = some (.slice Ao29 t295.length co29) ∧ w'.cell? ⟨gb287, 0, none⟩ = some (.int .i64 a0_0) ∧ w'.cell? ⟨gb287, 1, none⟩ = some (.slice A0_1 l0_1.length c0_1)) (ds := []) ba12_0 (by kernel_rfl) rfl rfl ⟨(blk_cell BK298.out 0).trans rfl, (blk_cell BK298.out 1).trans rfl, (blk_cell BK287.out 0).trans rfl, (blk_cell BK287.out 1).trans rfl⟩ (fun hHeld => ?_)
    generalize w30.drew = w31 at HO292 HO297 BK287 BK298 HB hHeld ⊢
    refine take_ (i := 0) (N := some 30) (v := ?_) (a' := ?_) ba12_1 rfl rfl (by kernel_rfl) (fun _ _ _ h => h) (Or.inl ⟨by rfl, ?_⟩) hHeld ?_ ?_
    rotate_left; · rintro w' ⟨s0, s1, s2, s3⟩; go_simp; with_reducible rfl
    rotate_left; · simp only [Act.put, List.setIfInBounds_toArray, List.set_cons_zero, List.set_cons_succ, i64_w, i32_w]; rfl
    refine take_ (i := 1) (N := some 31) (v := ?_) (a' := ?_) ba12_2 rfl rfl (by kernel_rfl) (fun _ _ _ h => h) (Or.inl ⟨by rfl, ?_⟩) hHeld ?_ ?_
    rotate_left; · rintro w' ⟨s0, s1, s2, s3⟩; go_simp; with_reducible rfl
    rotate_left; · simp only [Act.put, List.setIfInBounds_toArray, List.set_cons_zero, List.set_cons_succ, i64_w, i32_w]; rfl
    refine one_ (i := 2) (N := some 32) ba12_3 rfl rfl (by kernel_rfl) (by decide) (fun K hK => ?_)
    refine gz_ Try.func17 #[.agg #[.int .i64 a0_0, .slice A0_1 l0_1.length c0_1]] ?_
    with_reducible refine (laws_toGraph.calls k a0_0 _ _ l0_1 t300 t301 _ ?side1 ?side2 A14.out).mono ?_
    (case side1 => exact cb_ HR0_1 HB)
    (case side2 => exact HC0_1.out)
    rintro e w32 ⟨v302, rfl, ho0, hb⟩
    refine ⟨_, rfl, ?_⟩
    have HO303 := Aside0.mk (Kd.R_lower (Kd.R_new' (Kd.R_new' ho0 (Kd.R_lt (hd_ HO292))) (Kd.R_lt (hd_ HO297))) (bz_ HB))
    replace HO292 := Aside0.mk (Kd.R_elder' (hd_ HO292) (Kd.R_base ho0) hb)
    replace HO297 := Aside0.mk (Kd.R_elder' (hd_ HO297) (Kd.R_base ho0) hb)
    replace BK287 := Aside0.mk (bb_ BK287 hb)
    replace BK298 := Aside0.mk (bb_ BK298 hb)
    replace HB := Aside0.mk (bt_ HB hb)
    (try clear hb)
    (try clear hb2)
    (try clear hk)
    (try clear hi)
    (try clear ho0)
    obtain ⟨Ao33, co33, eo33⟩ := Kd.R_slice HO303.out
    (first | subst eo33 | (injection eo33 with f1_ f2_ f3_; have f4_ := f1_.symm; have f5_ := f3_.symm; clear f1_ f2_ f3_; subst f4_; subst f5_))
    refine hK.out _ _ ⟨(blk_cell BK298.out 0).trans rfl, (blk_cell BK298.out 1).trans rfl, (blk_cell BK287.out 0).trans rfl, (blk_cell BK287.out 1).trans rfl⟩ (fun hHeld => ?_)
    clear hK K
    refine nz_ 32 ?_
    refine one_ (i := 3) (N := some 33) ba12_4 rfl rfl (by kernel_rfl) (by decide) (fun K hK => ?_)
    refine gz_ Try.func20 #[.agg #[.int .i64 t294, .slice Ao29 t295.length co29], .agg #[.int .i64 t300, .slice Ao33 t301.length co33]] ?_
    with_reducible refine (laws_eqGraph.calls k t294 _ _ t295 t300 _ _ t301 true _ ?side1 ?side2 ?side3 ?side4 A15.out).mono ?_
    (case side1 => exact rc_ HO297)
    (case side2 => exact (Kd.R_reads' HO297.out).2.1)
    (case side3 => exact rc_ HO303)
    (case side4 => exact (Kd.R_reads' HO303.out).2.1)
    rintro e w34 ⟨rfl, hb⟩
    refine ⟨_, rfl, ?_⟩
    replace HO292 := rb_ HO292 hb
    replace HO297 := rb_ HO297 hb
    replace HO303 := rb_ HO303 hb
    replace BK287 := Aside0.mk (bb_ BK287 hb)
    replace BK298 := Aside0.mk (bb_ BK298 hb)
    replace HB := Aside0.mk (bt_ HB hb)
    (try clear hb)
    (try clear hb2)
    (try clear hk)
    (try clear hi)
    refine hK.out _ _ ⟨(blk_cell BK298.out 0).trans rfl, (blk_cell BK298.out 1).trans rfl, (blk_cell BK287.out 0).trans rfl, (blk_cell BK287.out 1).trans rfl⟩ (fun hHeld => ?_)
    clear hK K
    refine nz_ 33 ?_
    refine pure_ (i := 4) (N := some 34) (v := ?_) (a' := ?_) ba12_5 rfl rfl (by kernel_rfl) (fun _ _ _ h => h) (Or.inl ⟨by rfl, ?_⟩) ?_ ?_
    rotate_left; · intro w'; go_simp; with_reducible rfl
    rotate_left; · simp only [Act.put, List.setIfInBounds_toArray, List.set_cons_zero, List.set_cons_succ, i64_w, i32_w]; rfl
    refine done_ (by kernel_rfl) ?_
    try go_wp2
    go_ret
    exact ⟨by first | rfl | (simp [errW_none, errW_some] <;> rfl) | (simp [*, errW_none, errW_some] <;> rfl), by repeat (first | (with_reducible first | exact HB.out | apply below_alloc | apply pw_below_drewN | apply below_drew1 | refine below_set ?_ GE287.out | refine below_set ?_ GE298.out) | exact HB.out)⟩
   ·replace c16 := Bool.eq_false_iff.mpr c16
    subst c16
    rw [if_neg (show ¬ (false = true) by decide)] at H
    obtain rfl := Option.some.inj H
    go_enter Try.func10, Try.ntmps10
    try go_wp2_with (first | ((with_reducible refine gate_dst (N := 3) rfl ?_); refine box_event ?hg (N := 3) ?hd (cs := #[.int .i64 a0_0, .slice A0_1 l0_1.length c0_1]) (t := 24) ?hr ?_; (case hd => rfl); (case hg => rfl); (case hr => first | (go_simp; done) | (go_simp; rfl)); intro gb287 hg w35 hbox hb; have BK287 := Aside0.mk hbox; have GW287 := ge_ HB hg; have GE287 := ge_ HB hg; replace HB := Aside0.mk (bt_ HB hb); clear hb hbox hg; have hcz36_0 := cz_ BK287 0 (.int .i64 a0_0); have hcz36_1 := cz_ BK287 1 (.slice A0_1 l0_1.length c0_1); have hfz36_0 := blk_frozen BK287.out 0; have hfz36_1 := blk_frozen BK287.out 1) | ((with_reducible refine gate_callee (f := 15) rfl ?_); refine gl_ (some 13) Try.func15 #[.agg #[.int .i64 a0_0, .slice A0_1 l0_1.length c0_1], .int .i64 1048576] ?_; (with_reducible refine (laws_szGraph.calls a0_0 _ _ l0_1 1048576 t288 _ ?side1 ?side2 A4.out).mono ?_); (case side1 => exact cb_ HR0_1 HB); (case side2 => exact HC0_1.out); rintro e w37 ⟨rfl, hb⟩; refine ⟨_, rfl, ?_⟩; replace BK287 := Aside0.mk (bb_ BK287 hb); replace HB := Aside0.mk (bt_ HB hb); (try clear hb); (try clear hb2); (try clear hk); (try clear hi); have hcz38_0 := cz_ BK287 0 (.int .i64 a0_0); have hcz38_1 := cz_ BK287 1 (.slice A0_1 l0_1.length c0_1); have hfz38_0 := blk_frozen BK287.out 0; have hfz38_1 := blk_frozen BK287.out 1) | ((with_reducible refine gate_callee (f := 17) rfl ?_); refine gl_ (some 17) Try.func17 #[.agg #[.int .i64 a0_0, .slice A0_1 l0_1.length c0_1]] ?_; (with_reducible refine (laws_toGraph.calls k a0_0 _ _ l0_1 t289 t290 _ ?side1 ?side2 A9.out).mono ?_); (case side1 => exact cb_ HR0_1 HB); (case side2 => exact HC0_1.out); rintro e w39 ⟨v291, rfl, ho0, hb⟩; refine ⟨_, rfl, ?_⟩; have HO292 := Aside0.mk (Kd.R_lower ho0 (bz_ HB)); replace BK287 := Aside0.mk (bb_ BK287 hb); replace HB := Aside0.mk (bt_ HB hb); (try clear hb); (try clear hb2); (try clear hk); (try clear hi); (try clear ho0); obtain ⟨Ao40, co40, eo40⟩ := Kd.R_slice HO292.out; subst eo40) | ((with_reducible refine gate_callee (f := 41) rfl ?_); refine gl_ (some 20) Try.func41 #[.agg #[.int .i64 t289, .slice Ao40 t290.length co40], .int .i64 a1, .int .i64 a2] ?_; (with_reducible refine (spec_CountWays.calls k t289 _ _ t290 a1 a2 t293 _ ?side1 ?side2 A10.out).mono ?_); (case side1 => exact rc_ HO292); (case side2 => exact (Kd.R_reads' HO292.out).2.1); rintro e w41 ⟨rfl, hb⟩; refine ⟨_, rfl, ?_⟩; replace HO292 := rb_ HO292 hb; replace BK287 := Aside0.mk (bb_ BK287 hb); replace HB := Aside0.mk (bt_ HB hb); (try clear hb); (try clear hb2); (try clear hk); (try clear hi); have hcz42_0 := cz_ BK287 0 (.int .i64 a0_0); have hcz42_1 := cz_ BK287 1 (.slice A0_1 l0_1.length c0_1); have hfz42_0 := blk_frozen BK287.out 0; have hfz42_1 := blk_frozen BK287.out 1) | ((with_reducible refine gate_callee (f := 17) rfl ?_); refine gl_ (some 22) Try.func17 #[.agg #[.int .i64 a0_0, .slice A0_1 l0_1.length c0_1]] ?_; (with_reducible refine (laws_toGraph.calls k a0_0 _ _ l0_1 t294 t295 _ ?side1 ?side2 A11.out).mono ?_); (case side1 => exact cb_ HR0_1 HB); (case side2 => exact HC0_1.out); rintro e w43 ⟨v296, rfl, ho0, hb⟩; refine ⟨_, rfl, ?_⟩; have HO297 := Aside0.mk (Kd.R_lower (Kd.R_new' ho0 (Kd.R_lt (hd_ HO292))) (bz_ HB)); replace HO292 := Aside0.mk (Kd.R_elder' (hd_ HO292) (Kd.R_base ho0) hb); replace BK287 := Aside0.mk (bb_ BK287 hb); replace HB := Aside0.mk (bt_ HB hb); (try clear hb); (try clear hb2); (try clear hk); (try clear hi); (try clear ho0)) | ((with_reducible refine gate_dst (N := 9) rfl ?_); refine box_event ?hg (N := 9) ?hd (cs := #[.int .i64 0, .slice none 0 0]) (t := 30) ?hr ?_; (case hd => rfl); (case hg => rfl); (case hr => first | (go_simp; done) | (go_simp; rfl)); intro gb298 hg w44 hbox hb; have BK298 := Aside0.mk hbox; have GW298 := ge_ HB hg; have GE298 := ge_ HB hg; have NB287_298 := nl_ BK287 hg; have NB298_287 := ng_ BK287 hg; replace HO292 := rb_ HO292 hb; replace HO297 := rb_ HO297 hb; replace HB := Aside0.mk (bt_ HB hb); replace BK287 := Aside0.mk (bb_ BK287 hb); clear hb hbox hg; have hnb45 := NB298_287.out; have hnc45 := NB287_298.out; have hcz46_0 := cz_ BK298 0 (.int .i64 0); have hcz46_1 := cz_ BK298 1 (.slice none 0 0); have hfz46_0 := blk_frozen BK298.out 0; have hfz46_1 := blk_frozen BK298.out 1; obtain ⟨Ao47, co47, eo47⟩ := Kd.R_slice HO297.out; subst eo47) | ((with_reducible refine gate_callee (f := 42) rfl ?_); refine gl_ (some 26) Try.func42 #[.agg #[.int .i64 t294, .slice Ao47 t295.length co47], .int .i64 a1, .int .i64 a2] ?_; (with_reducible refine (impl_CountWays.calls k t294 _ _ t295 a1 a2 t299 _ ?side1 ?side2 A12.out).mono ?_); (case side1 => refine (Kd.R_reads' (e := 67) (base := w.heap.size) (ok := fun k_ => (True ∧ some k_ ≠ (.slice Ao40 t290.length co40 : Value).ownBlock)) (n := t295.length) (c := co47) ?_).2.2; exact (hs_ HO297 BK298)); (case side2 => exact (Kd.R_reads' HO297.out).2.1); rintro e w48 ⟨rfl, hb⟩; refine ⟨_, rfl, ?_⟩; replace HO292 := rs_ HO292 BK298 hb; replace HO297 := rs_ HO297 BK298 hb; replace BK287 := bf_ BK287 NB287_298 hb; replace BK298 := Aside0.mk (blk_below (g := gb298) (o := .cells #[.int .i64 t294, .slice Ao47 t295.length co47] 30 (0, 0)) (by (with_reducible repeat (first | refine blk_drewN ?_ _ | refine blk_drew ?_ | refine blk_alloc ?_ _)); refine blk_put (cs := #[.int .i64 t294, .slice none 0 0]) ?_ 1 _ rfl; (with_reducible repeat (first | refine blk_drewN ?_ _ | refine blk_drew ?_ | refine blk_alloc ?_ _)); refine blk_put (cs := #[.int .i64 0, .slice none 0 0]) ?_ 0 _ rfl; (with_reducible repeat (first | refine blk_drewN ?_ _ | refine blk_drew ?_ | refine blk_alloc ?_ _)); exact BK298.out) hb); replace HB := Aside0.mk (bt_ HB hb); (try clear hb); (try clear hb2); (try clear hk); (try clear hi)))
    replace HO292 := Aside0.mk (Kd.R_drew HO292.out)
    replace HO297 := Aside0.mk (Kd.R_drew HO297.out)
    replace BK287 := Aside0.mk (blk_drew BK287.out)
    replace BK298 := Aside0.mk (blk_drew BK298.out)
    replace HB := Aside0.mk (below_drew1 HB.out)
    refine start_ (n := 5) (S := fun w' => w'.cell? ⟨gb298, 0, none⟩ = some (.int .i64 t294) ∧ w'.cell? ⟨gb298, 1, none⟩ = some (.slice Ao47 t295.length co47) ∧ w'.cell? ⟨gb287, 0, none⟩ = some (.int .i64 a0_0) ∧ w'.cell? ⟨gb287, 1, none⟩ = some (.slice A0_1 l0_1.length c0_1)) (ds := []) ba12_0 (by kernel_rfl) rfl rfl ⟨(blk_cell BK298.out 0).trans rfl, (blk_cell BK298.out 1).trans rfl, (blk_cell BK287.out 0).trans rfl, (blk_cell BK287.out 1).trans rfl⟩ (fun hHeld => ?_)
    generalize w48.drew = w49 at HO292 HO297 BK287 BK298 HB hHeld ⊢
    refine take_ (i := 0) (N := some 30) (v := ?_) (a' := ?_) ba12_1 rfl rfl (by kernel_rfl) (fun _ _ _ h => h) (Or.inl ⟨by rfl, ?_⟩) hHeld ?_ ?_
    rotate_left; · rintro w' ⟨s0, s1, s2, s3⟩; go_simp; with_reducible rfl
    rotate_left; · simp only [Act.put, List.setIfInBounds_toArray, List.set_cons_zero, List.set_cons_succ, i64_w, i32_w]; rfl
    refine take_ (i := 1) (N := some 31) (v := ?_) (a' := ?_) ba12_2 rfl rfl (by kernel_rfl) (fun _ _ _ h => h) (Or.inl ⟨by rfl, ?_⟩) hHeld ?_ ?_
    rotate_left; · rintro w' ⟨s0, s1, s2, s3⟩; go_simp; with_reducible rfl
    rotate_left; · simp only [Act.put, List.setIfInBounds_toArray, List.set_cons_zero, List.set_cons_succ, i64_w, i32_w]; rfl
    refine one_ (i := 2) (N := some 32) ba12_3 rfl rfl (by kernel_rfl) (by decide) (fun K hK => ?_)
    refine gz_ Try.func17 #[.agg #[.int .i64 a0_0, .slice A0_1 l0_1.length c0_1]] ?_
    with_reducible refine (laws_toGraph.calls k a0_0 _ _ l0_1 t300 t301 _ ?side1 ?side2 A14.out).mono ?_
    (case side1 => exact cb_ HR0_1 HB)
    (case side2 => exact HC0_1.out)
    rintro e w50 ⟨v302, rfl, ho0, hb⟩
    refine ⟨_, rfl, ?_⟩
    have HO303 := Aside0.mk (Kd.R_lower (Kd.R_new' (Kd.R_new' ho0 (Kd.R_lt (hd_ HO292))) (Kd.R_lt (hd_ HO297))) (bz_ HB))
    replace HO292 := Aside0.mk (Kd.R_elder' (hd_ HO292) (Kd.R_base ho0) hb)
    replace HO297 := Aside0.mk (Kd.R_elder' (hd_ HO297) (Kd.R_base ho0) hb)
    replace BK287 := Aside0.mk (bb_ BK287 hb)
    replace BK298 := Aside0.mk (bb_ BK298 hb)
    replace HB := Aside0.mk (bt_ HB hb)
    (try clear hb)
    (try clear hb2)
    (try clear hk)
    (try clear hi)
    (try clear ho0)
    obtain ⟨Ao51, co51, eo51⟩ := Kd.R_slice HO303.out
    (first | subst eo51 | (injection eo51 with f1_ f2_ f3_; have f4_ := f1_.symm; have f5_ := f3_.symm; clear f1_ f2_ f3_; subst f4_; subst f5_))
    refine hK.out _ _ ⟨(blk_cell BK298.out 0).trans rfl, (blk_cell BK298.out 1).trans rfl, (blk_cell BK287.out 0).trans rfl, (blk_cell BK287.out 1).trans rfl⟩ (fun hHeld => ?_)
    clear hK K
    refine nz_ 32 ?_
    refine one_ (i := 3) (N := some 33) ba12_4 rfl rfl (by kernel_rfl) (by decide) (fun K hK => ?_)
    refine gz_ Try.func20 #[.agg #[.int .i64 t294, .slice Ao47 t295.length co47], .agg #[.int .i64 t300, .slice Ao51 t301.length co51]] ?_
    with_reducible refine (laws_eqGraph.calls k t294 _ _ t295 t300 _ _ t301 false _ ?side1 ?side2 ?side3 ?side4 A15.out).mono ?_
    (case side1 => exact rc_ HO297)
    (case side2 => exact (Kd.R_reads' HO297.out).2.1)
    (case side3 => exact rc_ HO303)
    (case side4 => exact (Kd.R_reads' HO303.out).2.1)
    rintro e w52 ⟨rfl, hb⟩
    refine ⟨_, rfl, ?_⟩
    replace HO292 := rb_ HO292 hb
    replace HO297 := rb_ HO297 hb
    replace HO303 := rb_ HO303 hb
    replace BK287 := Aside0.mk (bb_ BK287 hb)
    replace BK298 := Aside0.mk (bb_ BK298 hb)
    replace HB := Aside0.mk (bt_ HB hb)
    (try clear hb)
    (try clear hb2)
    (try clear hk)
    (try clear hi)
    refine hK.out _ _ ⟨(blk_cell BK298.out 0).trans rfl, (blk_cell BK298.out 1).trans rfl, (blk_cell BK287.out 0).trans rfl, (blk_cell BK287.out 1).trans rfl⟩ (fun hHeld => ?_)
    clear hK K
    refine nz_ 33 ?_
    refine pure_ (i := 4) (N := some 34) (v := ?_) (a' := ?_) ba12_5 rfl rfl (by kernel_rfl) (fun _ _ _ h => h) (Or.inl ⟨by rfl, ?_⟩) ?_ ?_
    rotate_left; · intro w'; go_simp; with_reducible rfl
    rotate_left; · simp only [Act.put, List.setIfInBounds_toArray, List.set_cons_zero, List.set_cons_succ, i64_w, i32_w]; rfl
    refine done_ (by kernel_rfl) ?_
    try go_wp2
    go_ret
    exact ⟨by first | rfl | (simp [errW_none, errW_some] <;> rfl) | (simp [*, errW_none, errW_some] <;> rfl), by repeat (first | (with_reducible first | exact HB.out | apply below_alloc | apply pw_below_drewN | apply below_drew1 | refine below_set ?_ GE287.out | refine below_set ?_ GE298.out) | exact HB.out)⟩
  ·rw [if_neg c13] at H
   have c13b0 : (t299 == t293) = false := beq_eq_false_iff_ne.mpr c13
   have c13b1 : (t299 != t293) = true := bne_iff_ne.mpr c13
   obtain rfl := Option.some.inj H
   go_enter Try.func10, Try.ntmps10
   go_wp2_with (first | ((with_reducible refine gate_dst (N := 3) rfl ?_); refine box_event ?hg (N := 3) ?hd (cs := #[.int .i64 a0_0, .slice A0_1 l0_1.length c0_1]) (t := 24) ?hr ?_; (case hd => rfl); (case hg => rfl); (case hr => first | (go_simp; done) | (go_simp; rfl)); intro gb287 hg w53 hbox hb; have BK287 := Aside0.mk hbox; have GW287 := ge_ HB hg; have GE287 := ge_ HB hg; replace HB := Aside0.mk (bt_ HB hb); clear hb hbox hg; have hcz54_0 := cz_ BK287 0 (.int .i64 a0_0); have hcz54_1 := cz_ BK287 1 (.slice A0_1 l0_1.length c0_1); have hfz54_0 := blk_frozen BK287.out 0; have hfz54_1 := blk_frozen BK287.out 1) | ((with_reducible refine gate_callee (f := 15) rfl ?_); refine gl_ (some 13) Try.func15 #[.agg #[.int .i64 a0_0, .slice A0_1 l0_1.length c0_1], .int .i64 1048576] ?_; (with_reducible refine (laws_szGraph.calls a0_0 _ _ l0_1 1048576 t288 _ ?side1 ?side2 A4.out).mono ?_); (case side1 => exact cb_ HR0_1 HB); (case side2 => exact HC0_1.out); rintro e w55 ⟨rfl, hb⟩; refine ⟨_, rfl, ?_⟩; replace BK287 := Aside0.mk (bb_ BK287 hb); replace HB := Aside0.mk (bt_ HB hb); (try clear hb); (try clear hb2); (try clear hk); (try clear hi); have hcz56_0 := cz_ BK287 0 (.int .i64 a0_0); have hcz56_1 := cz_ BK287 1 (.slice A0_1 l0_1.length c0_1); have hfz56_0 := blk_frozen BK287.out 0; have hfz56_1 := blk_frozen BK287.out 1) | ((with_reducible refine gate_callee (f := 17) rfl ?_); refine gl_ (some 17) Try.func17 #[.agg #[.int .i64 a0_0, .slice A0_1 l0_1.length c0_1]] ?_; (with_reducible refine (laws_toGraph.calls k a0_0 _ _ l0_1 t289 t290 _ ?side1 ?side2 A9.out).mono ?_); (case side1 => exact cb_ HR0_1 HB); (case side2 => exact HC0_1.out); rintro e w57 ⟨v291, rfl, ho0, hb⟩; refine ⟨_, rfl, ?_⟩; have HO292 := Aside0.mk (Kd.R_lower ho0 (bz_ HB)); replace BK287 := Aside0.mk (bb_ BK287 hb); replace HB := Aside0.mk (bt_ HB hb); (try clear hb); (try clear hb2); (try clear hk); (try clear hi); (try clear ho0); obtain ⟨Ao58, co58, eo58⟩ := Kd.R_slice HO292.out; subst eo58) | ((with_reducible refine gate_callee (f := 41) rfl ?_); refine gl_ (some 20) Try.func41 #[.agg #[.int .i64 t289, .slice Ao58 t290.length co58], .int .i64 a1, .int .i64 a2] ?_; (with_reducible refine (spec_CountWays.calls k t289 _ _ t290 a1 a2 t293 _ ?side1 ?side2 A10.out).mono ?_); (case side1 => exact rc_ HO292); (case side2 => exact (Kd.R_reads' HO292.out).2.1); rintro e w59 ⟨rfl, hb⟩; refine ⟨_, rfl, ?_⟩; replace HO292 := rb_ HO292 hb; replace BK287 := Aside0.mk (bb_ BK287 hb); replace HB := Aside0.mk (bt_ HB hb); (try clear hb); (try clear hb2); (try clear hk); (try clear hi); have hcz60_0 := cz_ BK287 0 (.int .i64 a0_0); have hcz60_1 := cz_ BK287 1 (.slice A0_1 l0_1.length c0_1); have hfz60_0 := blk_frozen BK287.out 0; have hfz60_1 := blk_frozen BK287.out 1) | ((with_reducible refine gate_callee (f := 17) rfl ?_); refine gl_ (some 22) Try.func17 #[.agg #[.int .i64 a0_0, .slice A0_1 l0_1.length c0_1]] ?_; (with_reducible refine (laws_toGraph.calls k a0_0 _ _ l0_1 t294 t295 _ ?side1 ?side2 A11.out).mono ?_); (case side1 => exact cb_ HR0_1 HB); (case side2 => exact HC0_1.out); rintro e w61 ⟨v296, rfl, ho0, hb⟩; refine ⟨_, rfl, ?_⟩; have HO297 := Aside0.mk (Kd.R_lower (Kd.R_new' ho0 (Kd.R_lt (hd_ HO292))) (bz_ HB)); replace HO292 := Aside0.mk (Kd.R_elder' (hd_ HO292) (Kd.R_base ho0) hb); replace BK287 := Aside0.mk (bb_ BK287 hb); replace HB := Aside0.mk (bt_ HB hb); (try clear hb); (try clear hb2); (try clear hk); (try clear hi); (try clear ho0)) | ((with_reducible refine gate_dst (N := 9) rfl ?_); refine box_event ?hg (N := 9) ?hd (cs := #[.int .i64 0, .slice none 0 0]) (t := 30) ?hr ?_; (case hd => rfl); (case hg => rfl); (case hr => first | (go_simp; done) | (go_simp; rfl)); intro gb298 hg w62 hbox hb; have BK298 := Aside0.mk hbox; have GW298 := ge_ HB hg; have GE298 := ge_ HB hg; have NB287_298 := nl_ BK287 hg; have NB298_287 := ng_ BK287 hg; replace HO292 := rb_ HO292 hb; replace HO297 := rb_ HO297 hb; replace HB := Aside0.mk (bt_ HB hb); replace BK287 := Aside0.mk (bb_ BK287 hb); clear hb hbox hg; have hnb63 := NB298_287.out; have hnc63 := NB287_298.out; have hcz64_0 := cz_ BK298 0 (.int .i64 0); have hcz64_1 := cz_ BK298 1 (.slice none 0 0); have hfz64_0 := blk_frozen BK298.out 0; have hfz64_1 := blk_frozen BK298.out 1; obtain ⟨Ao65, co65, eo65⟩ := Kd.R_slice HO297.out; subst eo65) | ((with_reducible refine gate_callee (f := 42) rfl ?_); refine gl_ (some 26) Try.func42 #[.agg #[.int .i64 t294, .slice Ao65 t295.length co65], .int .i64 a1, .int .i64 a2] ?_; (with_reducible refine (impl_CountWays.calls k t294 _ _ t295 a1 a2 t299 _ ?side1 ?side2 A12.out).mono ?_); (case side1 => refine (Kd.R_reads' (e := 67) (base := w.heap.size) (ok := fun k_ => (True ∧ some k_ ≠ (.slice Ao58 t290.length co58 : Value).ownBlock)) (n := t295.length) (c := co65) ?_).2.2; exact (hs_ HO297 BK298)); (case side2 => exact (Kd.R_reads' HO297.out).2.1); rintro e w66 ⟨rfl, hb⟩; refine ⟨_, rfl, ?_⟩; replace HO292 := rs_ HO292 BK298 hb; replace HO297 := rs_ HO297 BK298 hb; replace BK287 := bf_ BK287 NB287_298 hb; replace BK298 := Aside0.mk (blk_below (g := gb298) (o := .cells #[.int .i64 t294, .slice Ao65 t295.length co65] 30 (0, 0)) (by (with_reducible repeat (first | refine blk_drewN ?_ _ | refine blk_drew ?_ | refine blk_alloc ?_ _)); refine blk_put (cs := #[.int .i64 t294, .slice none 0 0]) ?_ 1 _ rfl; (with_reducible repeat (first | refine blk_drewN ?_ _ | refine blk_drew ?_ | refine blk_alloc ?_ _)); refine blk_put (cs := #[.int .i64 0, .slice none 0 0]) ?_ 0 _ rfl; (with_reducible repeat (first | refine blk_drewN ?_ _ | refine blk_drew ?_ | refine blk_alloc ?_ _)); exact BK298.out) hb); replace HB := Aside0.mk (bt_ HB hb); (try clear hb); (try clear hb2); (try clear hk); (try clear hi)))
   go_ret
   exact ⟨by first | rfl | (simp [errW_none, errW_some] <;> rfl) | (simp [*, errW_none, errW_some] <;> rfl), by repeat (first | (with_reducible first | exact HB.out | apply below_alloc | apply pw_below_drewN | apply below_drew1 | refine below_set ?_ GE287.out | refine below_set ?_ GE298.out) | exact HB.out)⟩

end Go.Proofs.Yteopiggdpadolaa.QFnExactCountWays
