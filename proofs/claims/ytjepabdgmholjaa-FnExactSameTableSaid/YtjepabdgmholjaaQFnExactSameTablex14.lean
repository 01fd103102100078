/- Contracts of functions that the law reaches: what each call returns and what it leaves in memory. Made by this session over the print of the kit. -/
import Derived.Test.YtjepabdgmholjaaQFnExactSameTablex0
import Derived.Test.YtjepabdgmholjaaQFnExactSameTablex1
import Derived.Test.YtjepabdgmholjaaQFnExactSameTablex5
import Derived.Test.YtjepabdgmholjaaQFnExactSameTablex13
namespace Go.Proofs.Ytjepabdgmholjaa.QFnExactSameTable
open Go.RowKit Go.Proofs.YtjepabdgmholjaaU.PrintWords Go.Proofs.YtjepabdgmholjaaU.PrintLast Go.Proofs.YtjepabdgmholjaaU.PrintMore
attribute [local go_sem] max2_int min2_int max_two min_two max_three min_three max_four min_four   -- for this text's walks alone
set_option linter.unusedVariables false
set_option linter.unusedSimpArgs false
def ba14_0 : Array Bool := #[false, false, false, false, false, false]
def ba14_1 : Array Bool := #[true, false, false, false, false, false]
def ba14_2 : Array Bool := #[true, false, true, false, false, false]
def ba14_3 : Array Bool := #[true, true, true, false, false, false]
def ba14_4 : Array Bool := #[true, true, true, true, false, false]
def ba14_5 : Array Bool := #[true, true, true, true, true, false]
def ba14_6 : Array Bool := #[true, true, true, true, true, true]
def ba14_7 : Array Bool := #[false, false, false, false, false]
def ba14_8 : Array Bool := #[true, false, false, false, false]
def ba14_9 : Array Bool := #[true, true, false, false, false]
def ba14_10 : Array Bool := #[true, true, true, false, false]
def ba14_11 : Array Bool := #[true, true, true, true, false]
def ba14_12 : Array Bool := #[true, true, true, true, true]

/-! ### laws_FnExactSameTable: function 7 -/
def laws_FnExactSameTable.f (k : Nat) (l0_0 : List (S46)) (l1_0 : List (S46)) : Option (Bool) := (laws_szTable.f l0_0 1048576).bind fun t264 => (if t264 < 0 then (some true) else ((laws_szTable.f l1_0 t264).bind fun t265 => (if t265 < 0 then (some true) else ((laws_toTable.f k l0_0).bind fun t266 => ((laws_toTable.f k l1_0).bind fun t269 => ((spec_SameTable.f k t266 t269).bind fun t272 => ((laws_toTable.f k l0_0).bind fun t273 => ((laws_toTable.f k l1_0).bind fun t277 => ((impl_SameTable.f k t273 t277).bind fun t281 => (if (t281 != t272) = true then (some false) else ((laws_toTable.f k l0_0).bind fun t282 => ((laws_eqTable.f k t273 t282).bind fun t285 => (if t285 = true then ((laws_toTable.f k l1_0).bind fun t286 => ((laws_eqTable.f k t277 t286).bind fun t289 => (if t289 = true then (some true) else (some false)))) else (some false))))))))))))))
theorem laws_FnExactSameTable.mono : ∀ a0 a1 k, LeO (laws_FnExactSameTable.f k a0 a1) (laws_FnExactSameTable.f (k + 1) a0 a1) := by
 intro a0 a1 k
 unfold laws_FnExactSameTable.f
 repeat' first
   | (with_reducible exact impl_SameTable.mono _ _ _)
   | (with_reducible exact laws_eqTable.mono _ _ _)
   | (with_reducible exact laws_toTable.mono _ _)
   | (with_reducible exact spec_SameTable.mono _ _ _)
   | (with_reducible exact LeO.refl _)
   | (with_reducible exact LeO.none _)
   | (with_reducible refine LeO.ite ?_ ?_)
   | (with_reducible refine LeO.bind ?_ (fun _ => ?_))
   | exact impl_SameTable.mono _ _ _
   | exact laws_eqTable.mono _ _ _
   | exact laws_toTable.mono _ _
   | exact spec_SameTable.mono _ _ _
   | exact LeO.none _
   | refine LeO.ite ?_ ?_
   | refine LeO.bind ?_ (fun _ => ?_)
set_option maxHeartbeats 8000000 in
set_option maxRecDepth 100000 in
theorem laws_FnExactSameTable.calls (k : Nat) (A0_0 : Option Addr) (c0_0 : Nat) (l0_0 : List (S46)) (A1_0 : Option Addr) (c1_0 : Nat) (l1_0 : List (S46)) (r : Bool) (w : World) (hr0_0 : Kd.C k46 w A0_0 l0_0.length l0_0) (hc0_0 : l0_0.length ≤ c0_0) (hr1_0 : Kd.C k46 w A1_0 l1_0.length l1_0) (hc1_0 : l1_0.length ≤ c1_0) (h : laws_FnExactSameTable.f k l0_0 l1_0 = some r) :
  Calls Try.prog 7 #[.agg #[.slice A0_0 l0_0.length c0_0], .agg #[.slice A1_0 l1_0.length c1_0]] w fun e w' => e = .returned (.bool r) ∧ Below w.heap.size w w' := by
 have hu24 := Try.underlying24
 have hu34 := Try.underlying34
 have HR0_0 := Aside0.mk hr0_0
 have HC0_0 := Aside0.mk hc0_0
 clear hr0_0 hc0_0
 have HR1_0 := Aside0.mk hr1_0
 have HC1_0 := Aside0.mk hc1_0
 clear hr1_0 hc1_0
 have HB := Aside0.mk (Below.refl w.heap.size w)
 have H : ((laws_szTable.f l0_0 1048576).bind fun t264 => (if t264 < 0 then (some true) else ((laws_szTable.f l1_0 t264).bind fun t265 => (if t265 < 0 then (some true) else ((laws_toTable.f k l0_0).bind fun t266 => ((laws_toTable.f k l1_0).bind fun t269 => ((spec_SameTable.f k t266 t269).bind fun t272 => ((laws_toTable.f k l0_0).bind fun t273 => ((laws_toTable.f k l1_0).bind fun t277 => ((impl_SameTable.f k t273 t277).bind fun t281 => (if (t281 != t272) = true then (some false) else ((laws_toTable.f k l0_0).bind fun t282 => ((laws_eqTable.f k t273 t282).bind fun t285 => (if t285 = true then ((laws_toTable.f k l1_0).bind fun t286 => ((laws_eqTable.f k t277 t286).bind fun t289 => (if t289 = true then (some true) else (some false)))) else (some false))))))))))))))) = some r := h
 clear h
 replace H := Option.bind_eq_some_iff.mp H
 obtain ⟨t264, A30, H⟩ := H
 have A3 := Aside0.mk A30
 clear A30
 by_cases c4 : t264 < 0
 ·rw [if_pos c4] at H
  have c4b0 : decide (t264 < 0) = true := decide_eq_true c4
  clear c4
  obtain rfl := Option.some.inj H
  go_enter Try.func7, Try.ntmps7
  go_wp2_with (first | ((with_reducible refine gate_dst (N := 2) rfl ?_); refine box_event ?hg (N := 2) ?hd (cs := #[.slice A0_0 l0_0.length c0_0]) (t := 24) ?hr ?_; (case hd => rfl); (case hg => rfl); (case hr => first | (go_simp; done) | (go_simp; rfl)); intro gb262 hg w5 hbox hb; have BK262 := Aside0.mk hbox; have GW262 := ge_ HB hg; have GE262 := ge_ HB hg; replace HB := Aside0.mk (bt_ HB hb); clear hb hbox hg) | ((with_reducible refine gate_dst (N := 3) rfl ?_); refine box_event ?hg (N := 3) ?hd (cs := #[.slice A1_0 l1_0.length c1_0]) (t := 24) ?hr ?_; (case hd => rfl); (case hg => rfl); (case hr => first | (go_simp; done) | (go_simp; rfl)); intro gb263 hg w6 hbox hb; have BK263 := Aside0.mk hbox; have GW263 := ge_ HB hg; have GE263 := ge_ HB hg; have NB262_263 := nl_ BK262 hg; have NB263_262 := ng_ BK262 hg; replace HB := Aside0.mk (bt_ HB hb); replace BK262 := Aside0.mk (bb_ BK262 hb); clear hb hbox hg; have hnb7 := NB262_263.out; have hnc7 := NB263_262.out; have hcz8_0 := cz_ BK262 0 (.slice A0_0 l0_0.length c0_0); have hfz8_0 := blk_frozen BK262.out 0) | ((with_reducible refine gate_callee (f := 12) rfl ?_); refine gl_ (some 12) Try.func12 #[.agg #[.slice A0_0 l0_0.length c0_0], .int .i64 1048576] ?_; (with_reducible refine (laws_szTable.calls _ _ l0_0 1048576 t264 _ ?side1 ?side2 A3.out).mono ?_); (case side1 => exact cb_ HR0_0 HB); (case side2 => exact HC0_0.out); rintro e w9 ⟨rfl, hb⟩; refine ⟨_, rfl, ?_⟩; replace BK262 := Aside0.mk (bb_ BK262 hb); replace BK263 := Aside0.mk (bb_ BK263 hb); replace HB := Aside0.mk (bt_ HB hb); (try clear hb); (try clear hb2); (try clear hk); (try clear hi)))
  go_ret
  exact ⟨by first | rfl | (simp [errW_none, errW_some] <;> rfl) | (simp [*, errW_none, errW_some] <;> rfl), by repeat (first | (with_reducible first | exact HB.out | apply below_alloc | apply pw_below_drewN | apply below_drew1 | refine below_set ?_ GE262.out | refine below_set ?_ GE263.out) | exact HB.out)⟩
 ·rw [if_neg c4] at H
  have c4b0 : decide (t264 < 0) = false := decide_eq_false c4
  clear c4
  replace H := Option.bind_eq_some_iff.mp H
  obtain ⟨t265, A100, H⟩ := H
  have A10 := Aside0.mk A100
  clear A100
  by_cases c11 : t265 < 0
  ·rw [if_pos c11] at H
   have c11b0 : decide (t265 < 0) = true := decide_eq_true c11
   clear c11
   obtain rfl := Option.some.inj H
   go_enter Try.func7, Try.ntmps7
   go_wp2_with (first | ((with_reducible refine gate_dst (N := 2) rfl ?_); refine box_event ?hg (N := 2) ?hd (cs := #[.slice A0_0 l0_0.length c0_0]) (t := 24) ?hr ?_; (case hd => rfl); (case hg => rfl); (case hr => first | (go_simp; done) | (go_simp; rfl)); intro gb262 hg w12 hbox hb; have BK262 := Aside0.mk hbox; have GW262 := ge_ HB hg; have GE262 := ge_ HB hg; replace HB := Aside0.mk (bt_ HB hb); clear hb hbox hg) | ((with_reducible refine gate_dst (N := 3) rfl ?_); refine box_event ?hg (N := 3) ?hd (cs := #[.slice A1_0 l1_0.length c1_0]) (t := 24) ?hr ?_; (case hd => rfl); (case hg => rfl); (case hr => first | (go_simp; done) | (go_simp; rfl)); intro gb263 hg w13 hbox hb; have BK263 := Aside0.mk hbox; have GW263 := ge_ HB hg; have GE263 := ge_ HB hg; have NB262_263 := nl_ BK262 hg; have NB263_262 := ng_ BK262 hg; replace HB := Aside0.mk (bt_ HB hb); replace BK262 := Aside0.mk (bb_ BK262 hb); clear hb hbox hg; have hnb14 := NB262_263.out; have hnc14 := NB263_262.out; have hcz15_0 := cz_ BK262 0 (.slice A0_0 l0_0.length c0_0); have hfz15_0 := blk_frozen BK262.out 0) | ((with_reducible refine gate_callee (f := 12) rfl ?_); refine gl_ (some 12) Try.func12 #[.agg #[.slice A0_0 l0_0.length c0_0], .int .i64 1048576] ?_; (with_reducible refine (laws_szTable.calls _ _ l0_0 1048576 t264 _ ?side1 ?side2 A3.out).mono ?_); (case side1 => exact cb_ HR0_0 HB); (case side2 => exact HC0_0.out); rintro e w16 ⟨rfl, hb⟩; refine ⟨_, rfl, ?_⟩; replace BK262 := Aside0.mk (bb_ BK262 hb); replace BK263 := Aside0.mk (bb_ BK263 hb); replace HB := Aside0.mk (bt_ HB hb); (try clear hb); (try clear hb2); (try clear hk); (try clear hi); have hcz17_0 := cz_ BK263 0 (.slice A1_0 l1_0.length c1_0); have hfz17_0 := blk_frozen BK263.out 0) | ((with_reducible refine gate_callee (f := 12) rfl ?_); refine gl_ (some 17) Try.func12 #[.agg #[.slice A1_0 l1_0.length c1_0], .int .i64 t264] ?_; (with_reducible refine (laws_szTable.calls _ _ l1_0 t264 t265 _ ?side1 ?side2 A10.out).mono ?_); (case side1 => exact cb_ HR1_0 HB); (case side2 => exact HC1_0.out); rintro e w18 ⟨rfl, hb⟩; refine ⟨_, rfl, ?_⟩; replace BK262 := Aside0.mk (bb_ BK262 hb); replace BK263 := Aside0.mk (bb_ BK263 hb); replace HB := Aside0.mk (bt_ HB hb); (try clear hb); (try clear hb2); (try clear hk); (try clear hi)))
   go_ret
   exact ⟨by first | rfl | (simp [errW_none, errW_some] <;> rfl) | (simp [*, errW_none, errW_some] <;> rfl), by repeat (first | (with_reducible first | exact HB.out | apply below_alloc | apply pw_below_drewN | apply below_drew1 | refine below_set ?_ GE262.out | refine below_set ?_ GE263.out) | exact HB.out)⟩
  ·rw [if_neg c11] at H
   have c11b0 : decide (t265 < 0) = false := decide_eq_false c11
   clear c11
   replace H := Option.bind_eq_some_iff.mp H
   obtain ⟨t266, A190, H⟩ := H
   have A19 := Aside0.mk A190
   clear A190
   replace H := Option.bind_eq_some_iff.mp H
   obtain ⟨t269, A200, H⟩ := H
   have A20 := Aside0.mk A200
   clear A200
   replace H := Option.bind_eq_some_iff.mp H
   obtain ⟨t272, A210, H⟩ := H
   have A21 := Aside0.mk A210
   clear A210
   replace H := Option.bind_eq_some_iff.mp H
   obtain ⟨t273, A220, H⟩ := H
   have A22 := Aside0.mk A220
   clear A220
   replace H := Option.bind_eq_some_iff.mp H
   obtain ⟨t277, A230, H⟩ := H
   have A23 := Aside0.mk A230
   clear A230
   replace H := Option.bind_eq_some_iff.mp H
   obtain ⟨t281, A240, H⟩ := H
   have A24 := Aside0.mk A240
   clear A240
   by_cases c25 : (t281 != t272) = true
   ·rw [if_pos c25] at H
    have c25b0 : (t281 != t272) = true := c25
    (try (have c25b1 : decide (t281 = t272) = false := by simpa using c25))
    (try (have c25b2 : (t281 == t272) = false := by simpa using c25))
    (try (have c25b3 : ¬ (t281 = t272) := by simpa using c25))
    clear c25
    obtain rfl := Option.some.inj H
    go_enter Try.func7, Try.ntmps7
    try go_wp2_with (first | ((with_reducible refine gate_dst (N := 2) rfl ?_); refine box_event ?hg (N := 2) ?hd (cs := #[.slice A0_0 l0_0.length c0_0]) (t := 24) ?hr ?_; (case hd => rfl); (case hg => rfl); (case hr => first | (go_simp; done) | (go_simp; rfl)); intro gb262 hg w26 hbox hb; have BK262 := Aside0.mk hbox; have GW262 := ge_ HB hg; have GE262 := ge_ HB hg; replace HB := Aside0.mk (bt_ HB hb); clear hb hbox hg) | ((with_reducible refine gate_dst (N := 3) rfl ?_); refine box_event ?hg (N := 3) ?hd (cs := #[.slice A1_0 l1_0.length c1_0]) (t := 24) ?hr ?_; (case hd => rfl); (case hg => rfl); (case hr => first | (go_simp; done) | (go_simp; rfl)); intro gb263 hg w27 hbox hb; have BK263 := Aside0.mk hbox; have GW263 := ge_ HB hg; have GE263 := ge_ HB hg; have NB262_263 := nl_ BK262 hg; have NB263_262 := ng_ BK262 hg; replace HB := Aside0.mk (bt_ HB hb); replace BK262 := Aside0.mk (bb_ BK262 hb); clear hb hbox hg; have hnb28 := NB262_263.out; have hnc28 := NB263_262.out; have hcz29_0 := cz_ BK262 0 (.slice A0_0 l0_0.length c0_0); have hfz29_0 := blk_frozen BK262.out 0) | ((with_reducible refine gate_callee (f := 12) rfl ?_); refine gl_ (some 12) Try.func12 #[.agg #[.slice A0_0 l0_0.length c0_0], .int .i64 1048576] ?_; (with_reducible refine (laws_szTable.calls _ _ l0_0 1048576 t264 _ ?side1 ?side2 A3.out).mono ?_); (case side1 => exact cb_ HR0_0 HB); (case side2 => exact HC0_0.out); rintro e w30 ⟨rfl, hb⟩; refine ⟨_, rfl, ?_⟩; replace BK262 := Aside0.mk (bb_ BK262 hb); replace BK263 := Aside0.mk (bb_ BK263 hb); replace HB := Aside0.mk (bt_ HB hb); (try clear hb); (try clear hb2); (try clear hk); (try clear hi); have hcz31_0 := cz_ BK263 0 (.slice A1_0 l1_0.length c1_0); have hfz31_0 := blk_frozen BK263.out 0) | ((with_reducible refine gate_callee (f := 12) rfl ?_); refine gl_ (some 17) Try.func12 #[.agg #[.slice A1_0 l1_0.length c1_0], .int .i64 t264] ?_; (with_reducible refine (laws_szTable.calls _ _ l1_0 t264 t265 _ ?side1 ?side2 A10.out).mono ?_); (case side1 => exact cb_ HR1_0 HB); (case side2 => exact HC1_0.out); rintro e w32 ⟨rfl, hb⟩; refine ⟨_, rfl, ?_⟩; replace BK262 := Aside0.mk (bb_ BK262 hb); replace BK263 := Aside0.mk (bb_ BK263 hb); replace HB := Aside0.mk (bt_ HB hb); (try clear hb); (try clear hb2); (try clear hk); (try clear hi)))
    replace BK262 := Aside0.mk (blk_drew BK262.out)
    replace BK263 := Aside0.mk (blk_drew BK263.out)
    replace HB := Aside0.mk (below_drew1 HB.out)
    refine start_ (n := 6) (S := fun w' => w'.cell? ⟨gb262, 0, none⟩ = some (.slice A0_0 l0_0.length c0_0) ∧ w'.cell? ⟨gb263, 0, none⟩ = some (.slice A1_0 l1_0.length c1_0)) (ds := []) ba14_0 (by kernel_rfl) rfl rfl ⟨(blk_cell BK262.out 0).trans rfl, (blk_cell BK263.out 0).trans rfl⟩ (fun hHeld => ?_)
    generalize w32.drew = w33 at BK262 BK263 HB hHeld ⊢
    refine take_ (i := 0) (N := some 20) (v := ?_) (a' := ?_) ba14_1 rfl rfl (by kernel_rfl) (fun _ _ _ h => h) (Or.inl ⟨by rfl, ?_⟩) hHeld ?_ ?_
    rotate_left; · rintro w' ⟨s0, s1⟩; go_simp; with_reducible rfl
    rotate_left; · simp only [Act.put, List.setIfInBounds_toArray, List.set_cons_zero, List.set_cons_succ, i64_w, i32_w]; rfl
    refine take_ (i := 2) (N := some 22) (v := ?_) (a' := ?_) ba14_2 rfl rfl (by kernel_rfl) (fun _ _ _ h => h) (Or.inl ⟨by rfl, ?_⟩) hHeld ?_ ?_
    rotate_left; · rintro w' ⟨s0, s1⟩; go_simp; with_reducible rfl
    rotate_left; · simp only [Act.put, List.setIfInBounds_toArray, List.set_cons_zero, List.set_cons_succ, i64_w, i32_w]; rfl
    refine one_ (i := 1) (N := some 21) ba14_3 rfl rfl (by kernel_rfl) (by decide) (fun K hK => ?_)
    refine gz_ Try.func14 #[.agg #[.slice A0_0 l0_0.length c0_0]] ?_
    with_reducible refine (laws_toTable.calls k _ _ l0_0 t266 _ ?side1 ?side2 A19.out).mono ?_
    (case side1 => exact cb_ HR0_0 HB)
    (case side2 => exact HC0_0.out)
    rintro e w34 ⟨v267, rfl, ho0, hb⟩
    refine ⟨_, rfl, ?_⟩
    have HO268 := Aside0.mk (Kd.R_lower ho0 (bz_ HB))
    replace BK262 := Aside0.mk (bb_ BK262 hb)
    replace BK263 := Aside0.mk (bb_ BK263 hb)
    replace HB := Aside0.mk (bt_ HB hb)
    (try clear hb)
    (try clear hb2)
    (try clear hk)
    (try clear hi)
    (try clear ho0)
    refine hK.out _ _ ⟨(blk_cell BK262.out 0).trans rfl, (blk_cell BK263.out 0).trans rfl⟩ (fun hHeld => ?_)
    clear hK K
    refine nz_ 21 ?_
    refine one_ (i := 3) (N := some 23) ba14_4 rfl rfl (by kernel_rfl) (by decide) (fun K hK => ?_)
    refine gz_ Try.func14 #[.agg #[.slice A1_0 l1_0.length c1_0]] ?_
    with_reducible refine (laws_toTable.calls k _ _ l1_0 t269 _ ?side1 ?side2 A20.out).mono ?_
    (case side1 => exact cb_ HR1_0 HB)
    (case side2 => exact HC1_0.out)
    rintro e w35 ⟨v270, rfl, ho0, hb⟩
    refine ⟨_, rfl, ?_⟩
    have HO271 := Aside0.mk (Kd.R_lower (Kd.R_new' ho0 (Kd.R_lt (hd_ HO268))) (bz_ HB))
    replace HO268 := Aside0.mk (Kd.R_elder' (hd_ HO268) (Kd.R_base ho0) hb)
    replace BK262 := Aside0.mk (bb_ BK262 hb)
    replace BK263 := Aside0.mk (bb_ BK263 hb)
    replace HB := Aside0.mk (bt_ HB hb)
    (try clear hb)
    (try clear hb2)
    (try clear hk)
    (try clear hi)
    (try clear ho0)
    obtain ⟨Ao36, co36, eo36⟩ := Kd.R_slice HO268.out
    (first | subst eo36 | (injection eo36 with f1_ f2_ f3_; have f4_ := f1_.symm; have f5_ := f3_.symm; clear f1_ f2_ f3_; subst f4_; subst f5_))
    obtain ⟨Ao37, co37, eo37⟩ := Kd.R_slice HO271.out
    (first | subst eo37 | (injection eo37 with f1_ f2_ f3_; have f4_ := f1_.symm; have f5_ := f3_.symm; clear f1_ f2_ f3_; subst f4_; subst f5_))
    refine hK.out _ _ ⟨(blk_cell BK262.out 0).trans rfl, (blk_cell BK263.out 0).trans rfl⟩ (fun hHeld => ?_)
    clear hK K
    refine nz_ 23 ?_
    refine one_ (i := 4) (N := some 24) ba14_5 rfl rfl (by kernel_rfl) (by decide) (fun K hK => ?_)
    refine gz_ Try.func28 #[.agg #[.slice Ao36 t266.length co36], .agg #[.slice Ao37 t269.length co37]] ?_
    with_reducible refine (spec_SameTable.calls k _ _ t266 _ _ t269 t272 _ ?side1 ?side2 ?side3 ?side4 A21.out).mono ?_
    (case side1 => exact rc_ HO268)
    (case side2 => exact (Kd.R_reads' HO268.out).2.1)
    (case side3 => exact rc_ HO271)
    (case side4 => exact (Kd.R_reads' HO271.out).2.1)
    rintro e w38 ⟨rfl, hb⟩
    refine ⟨_, rfl, ?_⟩
    replace HO268 := rb_ HO268 hb
    replace HO271 := rb_ HO271 hb
    replace BK262 := Aside0.mk (bb_ BK262 hb)
    replace BK263 := Aside0.mk (bb_ BK263 hb)
    replace HB := Aside0.mk (bt_ HB hb)
    (try clear hb)
    (try clear hb2)
    (try clear hk)
    (try clear hi)
    refine hK.out _ _ ⟨(blk_cell BK262.out 0).trans rfl, (blk_cell BK263.out 0).trans rfl⟩ (fun hHeld => ?_)
    clear hK K
    refine nz_ 24 ?_
    refine pure_ (i := 5) (N := some 6) (v := ?_) (a' := ?_) ba14_6 rfl rfl (by kernel_rfl) (fun _ _ _ h => h) (Or.inl ⟨by rfl, ?_⟩) ?_ ?_
    rotate_left; · intro w'; go_simp; with_reducible rfl
    rotate_left; · simp only [Act.put, List.setIfInBounds_toArray, List.set_cons_zero, List.set_cons_succ, i64_w, i32_w]; rfl
    refine done_ (by kernel_rfl) ?_
    have hcz39_0 := cz_ BK262 0 (.slice A0_0 l0_0.length c0_0)
    have hfz39_0 := blk_frozen BK262.out 0
    try go_wp2_with (first | ((with_reducible refine gate_callee (f := 14) rfl ?_); refine gl_ (some 26) Try.func14 #[.agg #[.slice A0_0 l0_0.length c0_0]] ?_; (with_reducible refine (laws_toTable.calls k _ _ l0_0 t273 _ ?side1 ?side2 A22.out).mono ?_); (case side1 => exact cb_ HR0_0 HB); (case side2 => exact HC0_0.out); rintro e w40 ⟨v274, rfl, ho0, hb⟩; refine ⟨_, rfl, ?_⟩; have HO275 := Aside0.mk (Kd.R_lower (Kd.R_new' (Kd.R_new' ho0 (Kd.R_lt (hd_ HO268))) (Kd.R_lt (hd_ HO271))) (bz_ HB)); replace HO268 := Aside0.mk (Kd.R_elder' (hd_ HO268) (Kd.R_base ho0) hb); replace HO271 := Aside0.mk (Kd.R_elder' (hd_ HO271) (Kd.R_base ho0) hb); replace BK262 := Aside0.mk (bb_ BK262 hb); replace BK263 := Aside0.mk (bb_ BK263 hb); replace HB := Aside0.mk (bt_ HB hb); (try clear hb); (try clear hb2); (try clear hk); (try clear hi); (try clear ho0)) | ((with_reducible refine gate_dst (N := 7) rfl ?_); refine box_event ?hg (N := 7) ?hd (cs := #[.slice none 0 0]) (t := 34) ?hr ?_; (case hd => rfl); (case hg => rfl); (case hr => first | (go_simp; done) | (go_simp; rfl)); intro gb276 hg w41 hbox hb; have BK276 := Aside0.mk hbox; have GW276 := ge_ HB hg; have GE276 := ge_ HB hg; have NB262_276 := nl_ BK262 hg; have NB276_262 := ng_ BK262 hg; have NB263_276 := nl_ BK263 hg; have NB276_263 := ng_ BK263 hg; replace HO268 := rb_ HO268 hb; replace HO271 := rb_ HO271 hb; replace HO275 := rb_ HO275 hb; replace HB := Aside0.mk (bt_ HB hb); replace BK262 := Aside0.mk (bb_ BK262 hb); replace BK263 := Aside0.mk (bb_ BK263 hb); clear hb hbox hg; obtain ⟨Ao42, co42, eo42⟩ := Kd.R_slice HO275.out; subst eo42; have hnb43 := NB276_262.out; have hnc43 := NB262_276.out; have hnb44 := NB276_263.out; have hnc44 := NB263_276.out; have hcz45_0 := cz_ BK276 0 (.slice none 0 0); have hfz45_0 := blk_frozen BK276.out 0; have hcz46_0 := cz_ BK263 0 (.slice A1_0 l1_0.length c1_0); have hfz46_0 := blk_frozen BK263.out 0) | ((with_reducible refine gate_callee (f := 14) rfl ?_); refine gl_ (some 28) Try.func14 #[.agg #[.slice A1_0 l1_0.length c1_0]] ?_; (with_reducible refine (laws_toTable.calls k _ _ l1_0 t277 _ ?side1 ?side2 A23.out).mono ?_); (case side1 => exact Kd.C_below HR1_0.out (by repeat (first | (with_reducible first | exact HB.out | apply below_alloc | apply pw_below_drewN | apply below_drew1 | refine below_set ?_ GE262.out | refine below_set ?_ GE263.out | refine below_set ?_ GE276.out) | exact HB.out))); (case side2 => exact HC1_0.out); rintro e w47 ⟨v278, rfl, ho0, hb⟩; refine ⟨_, rfl, ?_⟩; have HO279 := Aside0.mk (Kd.R_lower (Kd.R_new' (Kd.R_new' (Kd.R_new' ho0 (Kd.R_lt (hs_ HO268 BK276))) (Kd.R_lt (hs_ HO271 BK276))) (Kd.R_lt (hs_ HO275 BK276))) (bz_ HB)); replace HO268 := Aside0.mk (Kd.R_elder' (hs_ HO268 BK276) (Kd.R_base ho0) hb); replace HO271 := Aside0.mk (Kd.R_elder' (hs_ HO271 BK276) (Kd.R_base ho0) hb); replace HO275 := Aside0.mk (Kd.R_elder' (hs_ HO275 BK276) (Kd.R_base ho0) hb); replace BK262 := bf_ BK262 NB262_276 hb; replace BK263 := bf_ BK263 NB263_276 hb; replace BK276 := Aside0.mk (blk_below (g := gb276) (o := .cells #[.slice Ao42 t273.length co42] 34 (0, 0)) (by (with_reducible repeat (first | refine blk_drewN ?_ _ | refine blk_drew ?_ | refine blk_alloc ?_ _)); refine blk_put (cs := #[.slice none 0 0]) ?_ 0 _ rfl; (with_reducible repeat (first | refine blk_drewN ?_ _ | refine blk_drew ?_ | refine blk_alloc ?_ _)); exact BK276.out) hb); replace HB := Aside0.mk (bt_ HB hb); (try clear hb); (try clear hb2); (try clear hk); (try clear hi); (try clear ho0)) | ((with_reducible refine gate_dst (N := 8) rfl ?_); refine box_event ?hg (N := 8) ?hd (cs := #[.slice none 0 0]) (t := 34) ?hr ?_; (case hd => rfl); (case hg => rfl); (case hr => first | (go_simp; done) | (go_simp; rfl)); intro gb280 hg w48 hbox hb; have BK280 := Aside0.mk hbox; have GW280 := ge_ HB hg; have GE280 := ge_ HB hg; have NB262_280 := nl_ BK262 hg; have NB280_262 := ng_ BK262 hg; have NB263_280 := nl_ BK263 hg; have NB280_263 := ng_ BK263 hg; have NB276_280 := nl_ BK276 hg; have NB280_276 := ng_ BK276 hg; replace HO268 := rb_ HO268 hb; replace HO271 := rb_ HO271 hb; replace HO275 := rb_ HO275 hb; replace HO279 := rb_ HO279 hb; replace HB := Aside0.mk (bt_ HB hb); replace BK262 := Aside0.mk (bb_ BK262 hb); replace BK263 := Aside0.mk (bb_ BK263 hb); replace BK276 := Aside0.mk (bb_ BK276 hb); clear hb hbox hg; obtain ⟨Ao49, co49, eo49⟩ := Kd.R_slice HO279.out; subst eo49; have hnb50 := NB280_262.out; have hnc50 := NB262_280.out; have hnb51 := NB280_263.out; have hnc51 := NB263_280.out; have hnb52 := NB280_276.out; have hnc52 := NB276_280.out; have hcz53_0 := cz_ BK280 0 (.slice none 0 0); have hfz53_0 := blk_frozen BK280.out 0; have hcz54_0 := cz_ BK276 0 (.slice Ao42 t273.length co42); have hfz54_0 := blk_frozen BK276.out 0) | ((with_reducible refine gate_callee (f := 29) rfl ?_); refine gl_ (some 31) Try.func29 #[.agg #[.slice Ao42 t273.length co42], .agg #[.slice Ao49 t277.length co49]] ?_; (with_reducible refine (impl_SameTable.calls k _ _ t273 _ _ t277 t281 _ ?side1 ?side2 ?side3 ?side4 A24.out).mono ?_); (case side1 => refine (Kd.R_reads' (e := 29) (base := w.heap.size) (ok := fun k_ => (((True ∧ some k_ ≠ (.slice Ao36 t266.length co36 : Value).ownBlock) ∧ some k_ ≠ (.slice Ao37 t269.length co37 : Value).ownBlock) ∧ some k_ ≠ (.slice Ao49 t277.length co49 : Value).ownBlock)) (n := t273.length) (c := co42) ?_).2.2; exact (hs_ HO275 BK280)); (case side2 => exact (Kd.R_reads' HO275.out).2.1); (case side3 => refine (Kd.R_reads' (e := 29) (base := w.heap.size) (ok := fun k_ => (((True ∧ some k_ ≠ (.slice Ao36 t266.length co36 : Value).ownBlock) ∧ some k_ ≠ (.slice Ao37 t269.length co37 : Value).ownBlock) ∧ some k_ ≠ (.slice Ao42 t273.length co42 : Value).ownBlock)) (n := t277.length) (c := co49) ?_).2.2; exact (hs_ HO279 BK280)); (case side4 => exact (Kd.R_reads' HO279.out).2.1); rintro e w55 ⟨rfl, hb⟩; refine ⟨_, rfl, ?_⟩; replace HO268 := rs_ HO268 BK280 hb; replace HO271 := rs_ HO271 BK280 hb; replace HO275 := rs_ HO275 BK280 hb; replace HO279 := rs_ HO279 BK280 hb; replace BK262 := bf_ BK262 NB262_280 hb; replace BK263 := bf_ BK263 NB263_280 hb; replace BK276 := bf_ BK276 NB276_280 hb; replace BK280 := Aside0.mk (blk_below (g := gb280) (o := .cells #[.slice Ao49 t277.length co49] 34 (0, 0)) (by (with_reducible repeat (first | refine blk_drewN ?_ _ | refine blk_drew ?_ | refine blk_alloc ?_ _)); refine blk_put (cs := #[.slice none 0 0]) ?_ 0 _ rfl; (with_reducible repeat (first | refine blk_drewN ?_ _ | refine blk_drew ?_ | refine blk_alloc ?_ _)); exact BK280.out) hb); replace HB := Aside0.mk (bt_ HB hb); (try clear hb); (try clear hb2); (try clear hk); (try clear hi)))
    go_ret
    exact ⟨by first | rfl | (simp [errW_none, errW_some] <;> rfl) | (simp [*, errW_none, errW_some] <;> rfl), by repeat (first | (with_reducible first | exact HB.out | apply below_alloc | apply pw_below_drewN | apply below_drew1 | refine below_set ?_ GE262.out | refine below_set ?_ GE263.out | refine below_set ?_ GE276.out | refine below_set ?_ GE280.out) | exact HB.out)⟩
   ·rw [if_neg c25] at H
    have c25b0 : (t281 != t272) = false := by simpa using c25
    (try (have c25b1 : decide (t281 = t272) = true := by simpa using c25))
    (try (have c25b2 : (t281 == t272) = true := by simpa using c25))
    clear c25
    replace H := Option.bind_eq_some_iff.mp H
    obtain ⟨t282, A560, H⟩ := H
    have A56 := Aside0.mk A560
    clear A560
    replace H := Option.bind_eq_some_iff.mp H
    obtain ⟨t285, A570, H⟩ := H
    have A57 := Aside0.mk A570
    clear A570
    by_cases c58 : t285 = true
    ·subst c58
     rw [if_pos rfl] at H
     replace H := Option.bind_eq_some_iff.mp H
     obtain ⟨t286, A590, H⟩ := H
     have A59 := Aside0.mk A590
     clear A590
     replace H := Option.bind_eq_some_iff.mp H
     obtain ⟨t289, A600, H⟩ := H
     have A60 := Aside0.mk A600
     clear A600
     by_cases c61 : t289 = true
     ·subst c61
      rw [if_pos rfl] at H
      obtain rfl := Option.some.inj H
      go_enter Try.func7, Try.ntmps7
      try go_wp2_with (first | ((with_reducible refine gate_dst (N := 2) rfl ?_); refine box_event ?hg (N := 2) ?hd (cs := #[.slice A0_0 l0_0.length c0_0]) (t := 24) ?hr ?_; (case hd => rfl); (case hg => rfl); (case hr => first | (go_simp; done) | (go_simp; rfl)); intro gb262 hg w62 hbox hb; have BK262 := Aside0.mk hbox; have GW262 := ge_ HB hg; have GE262 := ge_ HB hg; replace HB := Aside0.mk (bt_ HB hb); clear hb hbox hg) | ((with_reducible refine gate_dst (N := 3) rfl ?_); refine box_event ?hg (N := 3) ?hd (cs := #[.slice A1_0 l1_0.length c1_0]) (t := 24) ?hr ?_; (case hd => rfl); (case hg => rfl); (case hr => first | (go_simp; done) | (go_simp; rfl)); intro gb263 hg w63 hbox hb; have BK263 := Aside0.mk hbox; have GW263 := ge_ HB hg; have GE263 := ge_ HB hg; have NB262_263 := nl_ BK262 hg; have NB263_262 := ng_ BK262 hg; replace HB := Aside0.mk (bt_ HB hb); replace BK262 := Aside0.mk (bb_ BK262 hb); clear hb hbox hg; have hnb64 := NB262_263.out; have hnc64 := NB263_262.out; have hcz65_0 := cz_ BK262 0 (.slice A0_0 l0_0.length c0_0); have hfz65_0 := blk_frozen BK262.out 0) | ((with_reducible refine gate_callee (f := 12) rfl ?_); refine gl_ (some 12) Try.func12 #[.agg #[.slice A0_0 l0_0.length c0_0], .int .i64 1048576] ?_; (with_reducible refine (laws_szTable.calls _ _ l0_0 1048576 t264 _ ?side1 ?side2 A3.out).mono ?_); (case side1 => exact cb_ HR0_0 HB); (case side2 => exact HC0_0.out); rintro e w66 ⟨rfl, hb⟩; refine ⟨_, rfl, ?_⟩; replace BK262 := Aside0.mk (bb_ BK262 hb); replace BK263 := Aside0.mk (bb_ BK263 hb); replace HB := Aside0.mk (bt_ HB hb); (try clear hb); (try clear hb2); (try clear hk); (try clear hi); have hcz67_0 := cz_ BK263 0 (.slice A1_0 l1_0.length c1_0); have hfz67_0 := blk_frozen BK263.out 0) | ((with_reducible refine gate_callee (f := 12) rfl ?_); refine gl_ (some 17) Try.func12 #[.agg #[.slice A1_0 l1_0.length c1_0], .int .i64 t264] ?_; (with_reducible refine (laws_szTable.calls _ _ l1_0 t264 t265 _ ?side1 ?side2 A10.out).mono ?_); (case side1 => exact cb_ HR1_0 HB); (case side2 => exact HC1_0.out); rintro e w68 ⟨rfl, hb⟩; refine ⟨_, rfl, ?_⟩; replace BK262 := Aside0.mk (bb_ BK262 hb); replace BK263 := Aside0.mk (bb_ BK263 hb); replace HB := Aside0.mk (bt_ HB hb); (try clear hb); (try clear hb2); (try clear hk); (try clear hi)))
      replace BK262 := Aside0.mk (blk_drew BK262.out)
      replace BK263 := Aside0.mk (blk_drew BK263.out)
      replace HB := Aside0.mk (below_drew1 HB.out)
      refine start_ (n := 6) (S := fun w' => w'.cell? ⟨gb262, 0, none⟩ = some (.slice A0_0 l0_0.length c0_0) ∧ w'.cell? ⟨gb263, 0, none⟩ = some (.slice A1_0 l1_0.length c1_0)) (ds := []) ba14_0 (by kernel_rfl) rfl rfl ⟨(blk_cell BK262.out 0).trans rfl, (blk_cell BK263.out 0).trans rfl⟩ (fun hHeld => ?_)
      generalize w68.drew = w69 at BK262 BK263 HB hHeld ⊢
      refine take_ (i := 0) (N := some 20) (v := ?_) (a' := ?_) ba14_1 rfl rfl (by kernel_rfl) (fun _ _ _ h => h) (Or.inl ⟨by rfl, ?_⟩) hHeld ?_ ?_
      rotate_left; · rintro w' ⟨s0, s1⟩; go_simp; with_reducible rfl
      rotate_left; · simp only [Act.put, List.setIfInBounds_toArray, List.set_cons_zero, List.set_cons_succ, i64_w, i32_w]; rfl
      refine take_ (i := 2) (N := some 22) (v := ?_) (a' := ?_) ba14_2 rfl rfl (by kernel_rfl) (fun _ _ _ h => h) (Or.inl ⟨by rfl, ?_⟩) hHeld ?_ ?_
      rotate_left; · rintro w' ⟨s0, s1⟩; go_simp; with_reducible rfl
      rotate_left; · simp only [Act.put, List.setIfInBounds_toArray, List.set_cons_zero, List.set_cons_succ, i64_w, i32_w]; rfl
      refine one_ (i := 1) (N := some 21) ba14_3 rfl rfl (by kernel_rfl) (by decide) (fun K hK => ?_)
      refine gz_ Try.func14 #[.agg #[.slice A0_0 l0_0.length c0_0]] ?_
      with_reducible refine (laws_toTable.calls k _ _ l0_0 t266 _ ?side1 ?side2 A19.out).mono ?_
      (case side1 => exact cb_ HR0_0 HB)
      (case side2 => exact HC0_0.out)
      rintro e w70 ⟨v267, rfl, ho0, hb⟩
      refine ⟨_, rfl, ?_⟩
      have HO268 := Aside0.mk (Kd.R_lower ho0 (bz_ HB))
      replace BK262 := Aside0.mk (bb_ BK262 hb)
      replace BK263 := Aside0.mk (bb_ BK263 hb)
      replace HB := Aside0.mk (bt_ HB hb)
      (try clear hb)
      (try clear hb2)
      (try clear hk)
      (try clear hi)
      (try clear ho0)
      refine hK.out _ _ ⟨(blk_cell BK262.out 0).trans rfl, (blk_cell BK263.out 0).trans rfl⟩ (fun hHeld => ?_)
      clear hK K
      refine nz_ 21 ?_
      refine one_ (i := 3) (N := some 23) ba14_4 rfl rfl (by kernel_rfl) (by decide) (fun K hK => ?_)
      refine gz_ Try.func14 #[.agg #[.slice A1_0 l1_0.length c1_0]] ?_
      with_reducible refine (laws_toTable.calls k _ _ l1_0 t269 _ ?side1 ?side2 A20.out).mono ?_
      (case side1 => exact cb_ HR1_0 HB)
      (case side2 => exact HC1_0.out)
      rintro e w71 ⟨v270, rfl, ho0, hb⟩
      refine ⟨_, rfl, ?_⟩
      have HO271 := Aside0.mk (Kd.R_lower (Kd.R_new' ho0 (Kd.R_lt (hd_ HO268))) (bz_ HB))
      replace HO268 := Aside0.mk (Kd.R_elder' (hd_ HO268) (Kd.R_base ho0) hb)
      replace BK262 := Aside0.mk (bb_ BK262 hb)
      replace BK263 := Aside0.mk (bb_ BK263 hb)
      replace HB := Aside0.mk (bt_ HB hb)
      (try clear hb)
      (try clear hb2)
      (try clear hk)
      (try clear hi)
      (try clear ho0)
      obtain ⟨Ao72, co72, eo72⟩ := Kd.R_slice HO268.out
      (first | subst eo72 | (injection eo72 with f1_ f2_ f3_; have f4_ := f1_.symm; have f5_ := f3_.symm; clear f1_ f2_ f3_; subst f4_; subst f5_))
      obtain ⟨Ao73, co73, eo73⟩ := Kd.R_slice HO271.out
      (first | subst eo73 | (injection eo73 with f1_ f2_ f3_; have f4_ := f1_.symm; have f5_ := f3_.symm; clear f1_ f2_ f3_; subst f4_; subst f5_))
      refine hK.out _ _ ⟨(blk_cell BK262.out 0).trans rfl, (blk_cell BK263.out 0).trans rfl⟩ (fun hHeld => ?_)
      clear hK K
      refine nz_ 23 ?_
      refine one_ (i := 4) (N := some 24) ba14_5 rfl rfl (by kernel_rfl) (by decide) (fun K hK => ?_)
      refine gz_ Try.func28 #[.agg #[.slice Ao72 t266.length co72], .agg #[.slice Ao73 t269.length co73]] ?_
      with_reducible refine (spec_SameTable.calls k _ _ t266 _ _ t269 t272 _ ?side1 ?side2 ?side3 ?side4 A21.out).mono ?_
      (case side1 => exact rc_ HO268)
      (case side2 => exact (Kd.R_reads' HO268.out).2.1)
      (case side3 => exact rc_ HO271)
      (case side4 => exact (Kd.R_reads' HO271.out).2.1)
      rintro e w74 ⟨rfl, hb⟩
      refine ⟨_, rfl, ?_⟩
      replace HO268 := rb_ HO268 hb
      replace HO271 := rb_ HO271 hb
      replace BK262 := Aside0.mk (bb_ BK262 hb)
      replace BK263 := Aside0.mk (bb_ BK263 hb)
      replace HB := Aside0.mk (bt_ HB hb)
      (try clear hb)
      (try clear hb2)
      (try clear hk)
      (try clear hi)
      refine hK.out _ _ ⟨(blk_cell BK262.out 0).trans rfl, (blk_cell BK263.out 0).trans rfl⟩ (fun hHeld => ?_)
      clear hK K
      refine nz_ 24 ?_
      refine pure_ (i := 5) (N := some 6) (v := ?_) (a' := ?_) ba14_6 rfl rfl (by kernel_rfl) (fun _ _ _ h => h) (Or.inl ⟨by rfl, ?_⟩) ?_ ?_
      rotate_left; · intro w'; go_simp; with_reducible rfl
      rotate_left; · simp only [Act.put, List.setIfInBounds_toArray, List.set_cons_zero, List.set_cons_succ, i64_w, i32_w]; rfl
      refine done_ (by kernel_rfl) ?_
      have hcz75_0 := cz_ BK262 0 (.slice A0_0 l0_0.length c0_0)
      have hfz75_0 := blk_frozen BK262.out 0
      try go_wp2_with (first | ((with_reducible refine gate_callee (f := 14) rfl ?_); refine gl_ (some 26) Try.func14 #[.agg #[.slice A0_0 l0_0.length c0_0]] ?_; (with_reducible refine (laws_toTable.calls k _ _ l0_0 t273 _ ?side1 ?side2 A22.out).mono ?_); (case side1 => exact cb_ HR0_0 HB); (case side2 => exact HC0_0.out); rintro e w76 ⟨v274, rfl, ho0, hb⟩; refine ⟨_, rfl, ?_⟩; have HO275 := Aside0.mk (Kd.R_lower (Kd.R_new' (Kd.R_new' ho0 (Kd.R_lt (hd_ HO268))) (Kd.R_lt (hd_ HO271))) (bz_ HB)); replace HO268 := Aside0.mk (Kd.R_elder' (hd_ HO268) (Kd.R_base ho0) hb); replace HO271 := Aside0.mk (Kd.R_elder' (hd_ HO271) (Kd.R_base ho0) hb); replace BK262 := Aside0.mk (bb_ BK262 hb); replace BK263 := Aside0.mk (bb_ BK263 hb); replace HB := Aside0.mk (bt_ HB hb); (try clear hb); (try clear hb2); (try clear hk); (try clear hi); (try clear ho0)) | ((with_reducible refine gate_dst (N := 7) rfl ?_); refine box_event ?hg (N := 7) ?hd (cs := #[.slice none 0 0]) (t := 34) ?hr ?_; (case hd => rfl); (case hg => rfl); (case hr => first | (go_simp; done) | (go_simp; rfl)); intro gb276 hg w77 hbox hb; have BK276 := Aside0.mk hbox; have GW276 := ge_ HB hg; have GE276 := ge_ HB hg; have NB262_276 := nl_ BK262 hg; have NB276_262 := ng_ BK262 hg; have NB263_276 := nl_ BK263 hg; have NB276_263 := ng_ BK263 hg; replace HO268 := rb_ HO268 hb; replace HO271 := rb_ HO271 hb; replace HO275 := rb_ HO275 hb; replace HB := Aside0.mk (bt_ HB hb); replace BK262 := Aside0.mk (bb_ BK262 hb); replace BK263 := Aside0.mk (bb_ BK263 hb); clear hb hbox hg; obtain ⟨Ao78, co78, eo78⟩ := Kd.R_slice HO275.out; subst eo78; have hnb79 := NB276_262.out; have hnc79 := NB262_276.out; have hnb80 := NB276_263.out; have hnc80 := NB263_276.out; have hcz81_0 := cz_ BK276 0 (.slice none 0 0); have hfz81_0 := blk_frozen BK276.out 0; have hcz82_0 := cz_ BK263 0 (.slice A1_0 l1_0.length c1_0); have hfz82_0 := blk_frozen BK263.out 0) | ((with_reducible refine gate_callee (f := 14) rfl ?_); refine gl_ (some 28) Try.func14 #[.agg #[.slice A1_0 l1_0.length c1_0]] ?_; (with_reducible refine (laws_toTable.calls k _ _ l1_0 t277 _ ?side1 ?side2 A23.out).mono ?_); (case side1 => exact Kd.C_below HR1_0.out (by repeat (first | (with_reducible first | exact HB.out | apply below_alloc | apply pw_below_drewN | apply below_drew1 | refine below_set ?_ GE262.out | refine below_set ?_ GE263.out | refine below_set ?_ GE276.out) | exact HB.out))); (case side2 => exact HC1_0.out); rintro e w83 ⟨v278, rfl, ho0, hb⟩; refine ⟨_, rfl, ?_⟩; have HO279 := Aside0.mk (Kd.R_lower (Kd.R_new' (Kd.R_new' (Kd.R_new' ho0 (Kd.R_lt (hs_ HO268 BK276))) (Kd.R_lt (hs_ HO271 BK276))) (Kd.R_lt (hs_ HO275 BK276))) (bz_ HB)); replace HO268 := Aside0.mk (Kd.R_elder' (hs_ HO268 BK276) (Kd.R_base ho0) hb); replace HO271 := Aside0.mk (Kd.R_elder' (hs_ HO271 BK276) (Kd.R_base ho0) hb); replace HO275 := Aside0.mk (Kd.R_elder' (hs_ HO275 BK276) (Kd.R_base ho0) hb); replace BK262 := bf_ BK262 NB262_276 hb; replace BK263 := bf_ BK263 NB263_276 hb; replace BK276 := Aside0.mk (blk_below (g := gb276) (o := .cells #[.slice Ao78 t273.length co78] 34 (0, 0)) (by (with_reducible repeat (first | refine blk_drewN ?_ _ | refine blk_drew ?_ | refine blk_alloc ?_ _)); refine blk_put (cs := #[.slice none 0 0]) ?_ 0 _ rfl; (with_reducible repeat (first | refine blk_drewN ?_ _ | refine blk_drew ?_ | refine blk_alloc ?_ _)); exact BK276.out) hb); replace HB := Aside0.mk (bt_ HB hb); (try clear hb); (try clear hb2); (try clear hk); (try clear hi); (try clear ho0)) | ((with_reducible refine gate_dst (N := 8) rfl ?_); refine box_event ?hg (N := 8) ?hd (cs := #[.slice none 0 0]) (t := 34) ?hr ?_; (case hd => rfl); (case hg => rfl); (case hr => first | (go_simp; done) | (go_simp; rfl)); intro gb280 hg w84 hbox hb; have BK280 := Aside0.mk hbox; have GW280 := ge_ HB hg; have GE280 := ge_ HB hg; have NB262_280 := nl_ BK262 hg; have NB280_262 := ng_ BK262 hg; have NB263_280 := nl_ BK263 hg; have NB280_263 := ng_ BK263 hg; have NB276_280 := nl_ BK276 hg; have NB280_276 := ng_ BK276 hg; replace HO268 := rb_ HO268 hb; replace HO271 := rb_ HO271 hb; replace HO275 := rb_ HO275 hb; replace HO279 := rb_ HO279 hb; replace HB := Aside0.mk (bt_ HB hb); replace BK262 := Aside0.mk (bb_ BK262 hb); replace BK263 := Aside0.mk (bb_ BK263 hb); replace BK276 := Aside0.mk (bb_ BK276 hb); clear hb hbox hg; obtain ⟨Ao85, co85, eo85⟩ := Kd.R_slice HO279.out; subst eo85; have hnb86 := NB280_262.out; have hnc86 := NB262_280.out; have hnb87 := NB280_263.out; have hnc87 := NB263_280.out; have hnb88 := NB280_276.out; have hnc88 := NB276_280.out; have hcz89_0 := cz_ BK280 0 (.slice none 0 0); have hfz89_0 := blk_frozen BK280.out 0; have hcz90_0 := cz_ BK276 0 (.slice Ao78 t273.length co78); have hfz90_0 := blk_frozen BK276.out 0) | ((with_reducible refine gate_callee (f := 29) rfl ?_); refine gl_ (some 31) Try.func29 #[.agg #[.slice Ao78 t273.length co78], .agg #[.slice Ao85 t277.length co85]] ?_; (with_reducible refine (impl_SameTable.calls k _ _ t273 _ _ t277 t281 _ ?side1 ?side2 ?side3 ?side4 A24.out).mono ?_); (case side1 => refine (Kd.R_reads' (e := 29) (base := w.heap.size) (ok := fun k_ => (((True ∧ some k_ ≠ (.slice Ao72 t266.length co72 : Value).ownBlock) ∧ some k_ ≠ (.slice Ao73 t269.length co73 : Value).ownBlock) ∧ some k_ ≠ (.slice Ao85 t277.length co85 : Value).ownBlock)) (n := t273.length) (c := co78) ?_).2.2; exact (hs_ HO275 BK280)); (case side2 => exact (Kd.R_reads' HO275.out).2.1); (case side3 => refine (Kd.R_reads' (e := 29) (base := w.heap.size) (ok := fun k_ => (((True ∧ some k_ ≠ (.slice Ao72 t266.length co72 : Value).ownBlock) ∧ some k_ ≠ (.slice Ao73 t269.length co73 : Value).ownBlock) ∧ some k_ ≠ (.slice Ao78 t273.length co78 : Value).ownBlock)) (n := t277.length) (c := co85) ?_).2.2; exact (hs_ HO279 BK280)); (case side4 => exact (Kd.R_reads' HO279.out).2.1); rintro e w91 ⟨rfl, hb⟩; refine ⟨_, rfl, ?_⟩; replace HO268 := rs_ HO268 BK280 hb; replace HO271 := rs_ HO271 BK280 hb; replace HO275 := rs_ HO275 BK280 hb; replace HO279 := rs_ HO279 BK280 hb; replace BK262 := bf_ BK262 NB262_280 hb; replace BK263 := bf_ BK263 NB263_280 hb; replace BK276 := bf_ BK276 NB276_280 hb; replace BK280 := Aside0.mk (blk_below (g := gb280) (o := .cells #[.slice Ao85 t277.length co85] 34 (0, 0)) (by (with_reducible repeat (first | refine blk_drewN ?_ _ | refine blk_drew ?_ | refine blk_alloc ?_ _)); refine blk_put (cs := #[.slice none 0 0]) ?_ 0 _ rfl; (with_reducible repeat (first | refine blk_drewN ?_ _ | refine blk_drew ?_ | refine blk_alloc ?_ _)); exact BK280.out) hb); replace HB := Aside0.mk (bt_ HB hb); (try clear hb); (try clear hb2); (try clear hk); (try clear hi)))
      replace HO268 := Aside0.mk (Kd.R_drew HO268.out)
      replace HO271 := Aside0.mk (Kd.R_drew HO271.out)
      replace HO275 := Aside0.mk (Kd.R_drew HO275.out)
      replace HO279 := Aside0.mk (Kd.R_drew HO279.out)
      replace BK262 := Aside0.mk (blk_drew BK262.out)
      replace BK263 := Aside0.mk (blk_drew BK263.out)
      replace BK276 := Aside0.mk (blk_drew BK276.out)
      replace BK280 := Aside0.mk (blk_drew BK280.out)
      replace HB := Aside0.mk (below_drew1 HB.out)
      refine start_ (n := 5) (S := fun w' => w'.cell? ⟨gb276, 0, none⟩ = some (.slice Ao78 t273.length co78) ∧ w'.cell? ⟨gb262, 0, none⟩ = some (.slice A0_0 l0_0.length c0_0)) (ds := []) ba14_7 (by kernel_rfl) rfl rfl ⟨(blk_cell BK276.out 0).trans rfl, (blk_cell BK262.out 0).trans rfl⟩ (fun hHeld => ?_)
      generalize w91.drew = w92 at HO268 HO271 HO275 HO279 BK262 BK263 BK276 BK280 HB hHeld ⊢
      refine take_ (i := 0) (N := some 35) (v := ?_) (a' := ?_) ba14_8 rfl rfl (by kernel_rfl) (fun _ _ _ h => h) (Or.inl ⟨by rfl, ?_⟩) hHeld ?_ ?_
      rotate_left; · rintro w' ⟨s0, s1⟩; go_simp; with_reducible rfl
      rotate_left; · simp only [Act.put, List.setIfInBounds_toArray, List.set_cons_zero, List.set_cons_succ, i64_w, i32_w]; rfl
      refine take_ (i := 1) (N := some 36) (v := ?_) (a' := ?_) ba14_9 rfl rfl (by kernel_rfl) (fun _ _ _ h => h) (Or.inl ⟨by rfl, ?_⟩) hHeld ?_ ?_
      rotate_left; · rintro w' ⟨s0, s1⟩; go_simp; with_reducible rfl
      rotate_left; · simp only [Act.put, List.setIfInBounds_toArray, List.set_cons_zero, List.set_cons_succ, i64_w, i32_w]; rfl
      refine one_ (i := 2) (N := some 37) ba14_10 rfl rfl (by kernel_rfl) (by decide) (fun K hK => ?_)
      refine gz_ Try.func14 #[.agg #[.slice A0_0 l0_0.length c0_0]] ?_
      with_reducible refine (laws_toTable.calls k _ _ l0_0 t282 _ ?side1 ?side2 A56.out).mono ?_
      (case side1 => exact cb_ HR0_0 HB)
      (case side2 => exact HC0_0.out)
      rintro e w93 ⟨v283, rfl, ho0, hb⟩
      refine ⟨_, rfl, ?_⟩
      have HO284 := Aside0.mk (Kd.R_lower (Kd.R_new' (Kd.R_new' (Kd.R_new' (Kd.R_new' ho0 (Kd.R_lt (hd_ HO268))) (Kd.R_lt (hd_ HO271))) (Kd.R_lt (hd_ HO275))) (Kd.R_lt (hd_ HO279))) (bz_ HB))
      replace HO268 := Aside0.mk (Kd.R_elder' (hd_ HO268) (Kd.R_base ho0) hb)
      replace HO271 := Aside0.mk (Kd.R_elder' (hd_ HO271) (Kd.R_base ho0) hb)
      replace HO275 := Aside0.mk (Kd.R_elder' (hd_ HO275) (Kd.R_base ho0) hb)
      replace HO279 := Aside0.mk (Kd.R_elder' (hd_ HO279) (Kd.R_base ho0) hb)
      replace BK262 := Aside0.mk (bb_ BK262 hb)
      replace BK263 := Aside0.mk (bb_ BK263 hb)
      replace BK276 := Aside0.mk (bb_ BK276 hb)
      replace BK280 := Aside0.mk (bb_ BK280 hb)
      replace HB := Aside0.mk (bt_ HB hb)
      (try clear hb)
      (try clear hb2)
      (try clear hk)
      (try clear hi)
      (try clear ho0)
      obtain ⟨Ao94, co94, eo94⟩ := Kd.R_slice HO284.out
      (first | subst eo94 | (injection eo94 with f1_ f2_ f3_; have f4_ := f1_.symm; have f5_ := f3_.symm; clear f1_ f2_ f3_; subst f4_; subst f5_))
      refine hK.out _ _ ⟨(blk_cell BK276.out 0).trans rfl, (blk_cell BK262.out 0).trans rfl⟩ (fun hHeld => ?_)
      clear hK K
      refine nz_ 37 ?_
      refine one_ (i := 3) (N := some 38) ba14_11 rfl rfl (by kernel_rfl) (by decide) (fun K hK => ?_)
      refine gz_ Try.func17 #[.agg #[.slice Ao78 t273.length co78], .agg #[.slice Ao94 t282.length co94]] ?_
      with_reducible refine (laws_eqTable.calls k _ _ t273 _ _ t282 true _ ?side1 ?side2 ?side3 ?side4 A57.out).mono ?_
      (case side1 => exact rc_ HO275)
      (case side2 => exact (Kd.R_reads' HO275.out).2.1)
      (case side3 => exact rc_ HO284)
      (case side4 => exact (Kd.R_reads' HO284.out).2.1)
      rintro e w95 ⟨rfl, hb⟩
      refine ⟨_, rfl, ?_⟩
      replace HO268 := rb_ HO268 hb
      replace HO271 := rb_ HO271 hb
      replace HO275 := rb_ HO275 hb
      replace HO279 := rb_ HO279 hb
      replace HO284 := rb_ HO284 hb
      replace BK262 := Aside0.mk (bb_ BK262 hb)
      replace BK263 := Aside0.mk (bb_ BK263 hb)
      replace BK276 := Aside0.mk (bb_ BK276 hb)
      replace BK280 := Aside0.mk (bb_ BK280 hb)
      replace HB := Aside0.mk (bt_ HB hb)
      (try clear hb)
      (try clear hb2)
      (try clear hk)
      (try clear hi)
      refine hK.out _ _ ⟨(blk_cell BK276.out 0).trans rfl, (blk_cell BK262.out 0).trans rfl⟩ (fun hHeld => ?_)
      clear hK K
      refine nz_ 38 ?_
      refine pure_ (i := 4) (N := some 39) (v := ?_) (a' := ?_) ba14_12 rfl rfl (by kernel_rfl) (fun _ _ _ h => h) (Or.inl ⟨by rfl, ?_⟩) ?_ ?_
      rotate_left; · intro w'; go_simp; with_reducible rfl
      rotate_left; · simp only [Act.put, List.setIfInBounds_toArray, List.set_cons_zero, List.set_cons_succ, i64_w, i32_w]; rfl
      refine done_ (by kernel_rfl) ?_
      try go_wp2
      replace HO268 := Aside0.mk (Kd.R_drew HO268.out)
      replace HO271 := Aside0.mk (Kd.R_drew HO271.out)
      replace HO275 := Aside0.mk (Kd.R_drew HO275.out)
      replace HO279 := Aside0.mk (Kd.R_drew HO279.out)
      replace HO284 := Aside0.mk (Kd.R_drew HO284.out)
      replace BK262 := Aside0.mk (blk_drew BK262.out)
      replace BK263 := Aside0.mk (blk_drew BK263.out)
      replace BK276 := Aside0.mk (blk_drew BK276.out)
      replace BK280 := Aside0.mk (blk_drew BK280.out)
      replace HB := Aside0.mk (below_drew1 HB.out)
      refine start_ (n := 5) (S := fun w' => w'.cell? ⟨gb280, 0, none⟩ = some (.slice Ao85 t277.length co85) ∧ w'.cell? ⟨gb263, 0, none⟩ = some (.slice A1_0 l1_0.length c1_0)) (ds := []) ba14_7 (by kernel_rfl) rfl rfl ⟨(blk_cell BK280.out 0).trans rfl, (blk_cell BK263.out 0).trans rfl⟩ (fun hHeld => ?_)
      generalize w95.drew = w96 at HO268 HO271 HO275 HO279 HO284 BK262 BK263 BK276 BK280 HB hHeld ⊢
      refine take_ (i := 0) (N := some 40) (v := ?_) (a' := ?_) ba14_8 rfl rfl (by kernel_rfl) (fun _ _ _ h => h) (Or.inl ⟨by rfl, ?_⟩) hHeld ?_ ?_
      rotate_left; · rintro w' ⟨s0, s1⟩; go_simp; with_reducible rfl
      rotate_left; · simp only [Act.put, List.setIfInBounds_toArray, List.set_cons_zero, List.set_cons_succ, i64_w, i32_w]; rfl
      refine take_ (i := 1) (N := some 41) (v := ?_) (a' := ?_) ba14_9 rfl rfl (by kernel_rfl) (fun _ _ _ h => h) (Or.inl ⟨by rfl, ?_⟩) hHeld ?_ ?_
      rotate_left; · rintro w' ⟨s0, s1⟩; go_simp; with_reducible rfl
      rotate_left; · simp only [Act.put, List.setIfInBounds_toArray, List.set_cons_zero, List.set_cons_succ, i64_w, i32_w]; rfl
      refine one_ (i := 2) (N := some 42) ba14_10 rfl rfl (by kernel_rfl) (by decide) (fun K hK => ?_)
      refine gz_ Try.func14 #[.agg #[.slice A1_0 l1_0.length c1_0]] ?_
      with_reducible refine (laws_toTable.calls k _ _ l1_0 t286 _ ?side1 ?side2 A59.out).mono ?_
      (case side1 => exact cb_ HR1_0 HB)
      (case side2 => exact HC1_0.out)
      rintro e w97 ⟨v287, rfl, ho0, hb⟩
      refine ⟨_, rfl, ?_⟩
      have HO288 := Aside0.mk (Kd.R_lower (Kd.R_new' (Kd.R_new' (Kd.R_new' (Kd.R_new' (Kd.R_new' ho0 (Kd.R_lt (hd_ HO268))) (Kd.R_lt (hd_ HO271))) (Kd.R_lt (hd_ HO275))) (Kd.R_lt (hd_ HO279))) (Kd.R_lt (hd_ HO284))) (bz_ HB))
      replace HO268 := Aside0.mk (Kd.R_elder' (hd_ HO268) (Kd.R_base ho0) hb)
      replace HO271 := Aside0.mk (Kd.R_elder' (hd_ HO271) (Kd.R_base ho0) hb)
      replace HO275 := Aside0.mk (Kd.R_elder' (hd_ HO275) (Kd.R_base ho0) hb)
      replace HO279 := Aside0.mk (Kd.R_elder' (hd_ HO279) (Kd.R_base ho0) hb)
      replace HO284 := Aside0.mk (Kd.R_elder' (hd_ HO284) (Kd.R_base ho0) hb)
      replace BK262 := Aside0.mk (bb_ BK262 hb)
      replace BK263 := Aside0.mk (bb_ BK263 hb)
      replace BK276 := Aside0.mk (bb_ BK276 hb)
      replace BK280 := Aside0.mk (bb_ BK280 hb)
      replace HB := Aside0.mk (bt_ HB hb)
      (try clear hb)
      (try clear hb2)
      (try clear hk)
      (try clear hi)
      (try clear ho0)
      obtain ⟨Ao98, co98, eo98⟩ := Kd.R_slice HO288.out
      (first | subst eo98 | (injection eo98 with f1_ f2_ f3_; have f4_ := f1_.symm; have f5_ := f3_.symm; clear f1_ f2_ f3_; subst f4_; subst f5_))
      refine hK.out _ _ ⟨(blk_cell BK280.out 0).trans rfl, (blk_cell BK263.out 0).trans rfl⟩ (fun hHeld => ?_)
      clear hK K
      refine nz_ 42 ?_
      refine one_ (i := 3) (N := some 43) ba14_11 rfl rfl (by kernel_rfl) (by decide) (fun K hK => ?_)
      refine gz_ Try.func17 #[.agg #[.slice Ao85 t277.length co85], .agg #[.slice Ao98 t286.length co98]] ?_
      with_reducible refine (laws_eqTable.calls k _ _ t277 _ _ t286 true _ ?side1 ?side2 ?side3 ?side4 A60.out).mono ?_
      (case side1 => exact rc_ HO279)
      (case side2 => exact (Kd.R_reads' HO279.out).2.1)
      (case side3 => exact rc_ HO288)
      (case side4 => exact (Kd.R_reads' HO288.out).2.1)
      rintro e w99 ⟨rfl, hb⟩
      refine ⟨_, rfl, ?_⟩
      replace HO268 := rb_ HO268 hb
      replace HO271 := rb_ HO271 hb
      replace HO275 := rb_ HO275 hb
      replace HO279 := rb_ HO279 hb
      replace HO284 := rb_ HO284 hb
      replace HO288 := rb_ HO288 hb
      replace BK262 := Aside0.mk (bb_ BK262 hb)
      replace BK263 := Aside0.mk (bb_ BK263 hb)
      replace BK276 := Aside0.mk (bb_ BK276 hb)
      replace BK280 := Aside0.mk (bb_ BK280 hb)
      replace HB := Aside0.mk (bt_ HB hb)
      (try clear hb)
      (try clear hb2)
      (try clear hk)
      (try clear hi)
      refine hK.out _ _ ⟨(blk_cell BK280.out 0).trans rfl, (blk_cell BK263.out 0).trans rfl⟩ (fun hHeld => ?_)
      clear hK K
      refine nz_ 43 ?_
      refine pure_ (i := 4) (N := some 44) (v := ?_) (a' := ?_) ba14_12 rfl rfl (by kernel_rfl) (fun _ _ _ h => h) (Or.inl ⟨by rfl, ?_⟩) ?_ ?_
      rotate_left; · intro w'; go_simp; with_reducible rfl
      rotate_left; · simp only [Act.put, List.setIfInBounds_toArray, List.set_cons_zero, List.set_cons_succ, i64_w, i32_w]; rfl
      refine done_ (by kernel_rfl) ?_
      try go_wp2
      go_ret
      exact ⟨by first | rfl | (simp [errW_none, errW_some] <;> rfl) | (simp [*, errW_none, errW_some] <;> rfl), by repeat (first | (with_reducible first | exact HB.out | apply below_alloc | apply pw_below_drewN | apply below_drew1 | refine below_set ?_ GE262.out | refine below_set ?_ GE263.out | refine below_set ?_ GE276.out | refine below_set ?_ GE280.out) | exact HB.out)⟩
     ·replace c61 := Bool.eq_false_iff.mpr c61
      subst c61
      rw [if_neg (show ¬ (false = true) by decide)] at H
      obtain rfl := Option.some.inj H
      go_enter Try.func7, Try.ntmps7
      try go_wp2_with (first | ((with_reducible refine gate_dst (N := 2) rfl ?_); refine box_event ?hg (N := 2) ?hd (cs := #[.slice A0_0 l0_0.length c0_0]) (t := 24) ?hr ?_; (case hd => rfl); (case hg => rfl); (case hr => first | (go_simp; done) | (go_simp; rfl)); intro gb262 hg w100 hbox hb; have BK262 := Aside0.mk hbox; have GW262 := ge_ HB hg; have GE262 := ge_ HB hg; replace HB := Aside0.mk (bt_ HB hb); clear hb hbox hg) | ((with_reducible refine gate_dst (N := 3) rfl ?_); refine box_event ?hg (N := 3) ?hd (cs := #[.slice A1_0 l1_0.length c1_0]) (t := 24) ?hr ?_; (case hd => rfl); (case hg => rfl); (case hr => first | (go_simp; done) | (go_simp; rfl)); intro gb263 hg w101 hbox hb; have BK263 := Aside0.mk hbox; have GW263 := ge_ HB hg; have GE263 := ge_ HB hg; have NB262_263 := nl_ BK262 hg; have NB263_262 := ng_ BK262 hg; replace HB := Aside0.mk (bt_ HB hb); replace BK262 := Aside0.mk (bb_ BK262 hb); clear hb hbox hg; have hnb102 := NB262_263.out; have hnc102 := NB263_262.out; have hcz103_0 := cz_ BK262 0 (.slice A0_0 l0_0.length c0_0); have hfz103_0 := blk_frozen BK262.out 0) | ((with_reducible refine gate_callee (f := 12) rfl ?_); refine gl_ (some 12) Try.func12 #[.agg #[.slice A0_0 l0_0.length c0_0], .int .i64 1048576] ?_; (with_reducible refine (laws_szTable.calls _ _ l0_0 1048576 t264 _ ?side1 ?side2 A3.out).mono ?_); (case side1 => exact cb_ HR0_0 HB); (case side2 => exact HC0_0.out); rintro e w104 ⟨rfl, hb⟩; refine ⟨_, rfl, ?_⟩; replace BK262 := Aside0.mk (bb_ BK262 hb); replace BK263 := Aside0.mk (bb_ BK263 hb); replace HB := Aside0.mk (bt_ HB hb); (try clear hb); (try clear hb2); (try clear hk); (try clear hi); have hcz105_0 := cz_ BK263 0 (.slice A1_0 l1_0.length c1_0); have hfz105_0 := blk_frozen BK263.out 0) | ((with_reducible refine gate_callee (f := 12) rfl ?_); refine gl_ (some 17) Try.func12 #[.agg #[.slice A1_0 l1_0.length c1_0], .int .i64 t264] ?_; (with_reducible refine (laws_szTable.calls _ _ l1_0 t264 t265 _ ?side1 ?side2 A10.out).mono ?_); (case side1 => exact cb_ HR1_0 HB); (case side2 => exact HC1_0.out); rintro e w106 ⟨rfl, hb⟩; refine ⟨_, rfl, ?_⟩; replace BK262 := Aside0.mk (bb_ BK262 hb); replace BK263 := Aside0.mk (bb_ BK263 hb); replace HB := Aside0.mk (bt_ HB hb); (try clear hb); (try clear hb2); (try clear hk); (try clear hi)))
      replace BK262 := Aside0.mk (blk_drew BK262.out)
      replace BK263 := Aside0.mk (blk_drew BK263.out)
      replace HB := Aside0.mk (below_drew1 HB.out)
      refine start_ (n := 6) (S := fun w' => w'.cell? ⟨gb262, 0, none⟩ = some (.slice A0_0 l0_0.length c0_0) ∧ w'.cell? ⟨gb263, 0, none⟩ = some (.slice A1_0 l1_0.length c1_0)) (ds := []) ba14_0 (by kernel_rfl) rfl rfl ⟨(blk_cell BK262.out 0).trans rfl, (blk_cell BK263.out 0).trans rfl⟩ (fun hHeld => ?_)
      generalize w106.drew = w107 at BK262 BK263 HB hHeld ⊢
      refine take_ (i := 0) (N := some 20) (v := ?_) (a' := ?_) ba14_1 rfl rfl (by kernel_rfl) (fun _ _ _ h => h) (Or.inl ⟨by rfl, ?_⟩) hHeld ?_ ?_
      rotate_left; · rintro w' ⟨s0, s1⟩; go_simp; with_reducible rfl
      rotate_left; · simp only [Act.put, List.setIfInBounds_toArray, List.set_cons_zero, List.set_cons_succ, i64_w, i32_w]; rfl
      refine take_ (i := 2) (N := some 22) (v := ?_) (a' := ?_) ba14_2 rfl rfl (by kernel_rfl) (fun _ _ _ h => h) (Or.inl ⟨by rfl, ?_⟩) hHeld ?_ ?_
      rotate_left; · rintro w' ⟨s0, s1⟩; go_simp; with_reducible rfl
      rotate_left; · simp only [Act.put, List.setIfInBounds_toArray, List.set_cons_zero, List.set_cons_succ, i64_w, i32_w]; rfl
      refine one_ (i := 1) (N := some 21) ba14_3 rfl rfl (by kernel_rfl) (by decide) (fun K hK => ?_)
      refine gz_ Try.func14 #[.agg #[.slice A0_0 l0_0.length c0_0]] ?_
      with_reducible refine (laws_toTable.calls k _ _ l0_0 t266 _ ?side1 ?side2 A19.out).mono ?_
      (case side1 => exact cb_ HR0_0 HB)
      (case side2 => exact HC0_0.out)
      rintro e w108 ⟨v267, rfl, ho0, hb⟩
      refine ⟨_, rfl, ?_⟩
      have HO268 := Aside0.mk (Kd.R_lower ho0 (bz_ HB))
      replace BK262 := Aside0.mk (bb_ BK262 hb)
      replace BK263 := Aside0.mk (bb_ BK263 hb)
      replace HB := Aside0.mk (bt_ HB hb)
      (try clear hb)
      (try clear hb2)
      (try clear hk)
      (try clear hi)
      (try clear ho0)
      refine hK.out _ _ ⟨(blk_cell BK262.out 0).trans rfl, (blk_cell BK263.out 0).trans rfl⟩ (fun hHeld => ?_)
      clear hK K
      refine nz_ 21 ?_
      refine one_ (i := 3) (N := some 23) ba14_4 rfl rfl (by kernel_rfl) (by decide) (fun K hK => ?_)
      refine gz_ Try.func14 #[.agg #[.slice A1_0 l1_0.length c1_0]] ?_
      with_reducible refine (laws_toTable.calls k _ _ l1_0 t269 _ ?side1 ?side2 A20.out).mono ?_
      (case side1 => exact cb_ HR1_0 HB)
      (case side2 => exact HC1_0.out)
      rintro e w109 ⟨v270, rfl, ho0, hb⟩
      refine ⟨_, rfl, ?_⟩
      have HO271 := Aside0.mk (Kd.R_lower (Kd.R_new' ho0 (Kd.R_lt (hd_ HO268))) (bz_ HB))
      replace HO268 := Aside0.mk (Kd.R_elder' (hd_ HO268) (Kd.R_base ho0) hb)
      replace BK262 := Aside0.mk (bb_ BK262 hb)
      replace BK263 := Aside0.mk (bb_ BK263 hb)
      replace HB := Aside0.mk (bt_ HB hb)
      (try clear hb)
      (try clear hb2)
      (try clear hk)
      (try clear hi)
      (try clear ho0)
      obtain ⟨Ao110, co110, eo110⟩ := Kd.R_slice HO268.out
      (first | subst eo110 | (injection eo110 with f1_ f2_ f3_; have f4_ := f1_.symm; have f5_ := f3_.symm; clear f1_ f2_ f3_; subst f4_; subst f5_))
      obtain ⟨Ao111, co111, eo111⟩ := Kd.R_slice HO271.out
      (first | subst eo111 | (injection eo111 with f1_ f2_ f3_; have f4_ := f1_.symm; have f5_ := f3_.symm; clear f1_ f2_ f3_; subst f4_; subst f5_))
      refine hK.out _ _ ⟨(blk_cell BK262.out 0).trans rfl, (blk_cell BK263.out 0).trans rfl⟩ (fun hHeld => ?_)
      clear hK K
      refine nz_ 23 ?_
      refine one_ (i := 4) (N := some 24) ba14_5 rfl rfl (by kernel_rfl) (by decide) (fun K hK => ?_)
      refine gz_ Try.func28 #[.agg #[.slice Ao110 t266.length co110], .agg #[.slice Ao111 t269.length co111]] ?_
      with_reducible refine (spec_SameTable.calls k _ _ t266 _ _ t269 t272 _ ?side1 ?side2 ?side3 ?side4 A21.out).mono ?_
      (case side1 => exact rc_ HO268)
      (case side2 => exact (Kd.R_reads' HO268.out).2.1)
      (case side3 => exact rc_ HO271)
      (case side4 => exact (Kd.R_reads' HO271.out).2.1)
      rintro e w112 ⟨rfl, hb⟩
      refine ⟨_, rfl, ?_⟩
      replace HO268 := rb_ HO268 hb
      replace HO271 := rb_ HO271 hb
      replace BK262 := Aside0.mk (bb_ BK262 hb)
      replace BK263 := Aside0.mk (bb_ BK263 hb)
      replace HB := Aside0.mk (bt_ HB hb)
      (try clear hb)
      (try clear hb2)
      (try clear hk)
      (try clear hi)
      refine hK.out _ _ ⟨(blk_cell BK262.out 0).trans rfl, (blk_cell BK263.out 0).trans rfl⟩ (fun hHeld => ?_)
      clear hK K
      refine nz_ 24 ?_
      refine pure_ (i := 5) (N := some 6) (v := ?_) (a' := ?_) ba14_6 rfl rfl (by kernel_rfl) (fun _ _ _ h => h) (Or.inl ⟨by rfl, ?_⟩) ?_ ?_
      rotate_left; · intro w'; go_simp; with_reducible rfl
      rotate_left; · simp only [Act.put, List.setIfInBounds_toArray, List.set_cons_zero, List.set_cons_succ, i64_w, i32_w]; rfl
      refine done_ (by kernel_rfl) ?_
      have hcz113_0 := cz_ BK262 0 (.slice A0_0 l0_0.length c0_0)
      have hfz113_0 := blk_frozen BK262.out 0
      try go_wp2_with (first | ((with_reducible refine gate_callee (f := 14) rfl ?_); refine gl_ (some 26) Try.func14 #[.agg #[.slice A0_0 l0_0.length c0_0]] ?_; (with_reducible refine (laws_toTable.calls k _ _ l0_0 t273 _ ?side1 ?side2 A22.out).mono ?_); (case side1 => exact cb_ HR0_0 HB); (case side2 => exact HC0_0.out); rintro e w114 ⟨v274, rfl, ho0, hb⟩; refine ⟨_, rfl, ?_⟩; have HO275 := Aside0.mk (Kd.R_lower (Kd.R_new' (Kd.R_new' ho0 (Kd.R_lt (hd_ HO268))) (Kd.R_lt (hd_ HO271))) (bz_ HB)); replace HO268 := Aside0.mk (Kd.R_elder' (hd_ HO268) (Kd.R_base ho0) hb); replace HO271 := Aside0.mk (Kd.R_elder' (hd_ HO271) (Kd.R_base ho0) hb); replace BK262 := Aside0.mk (bb_ BK262 hb); replace BK263 := Aside0.mk (bb_ BK263 hb); replace HB := Aside0.mk (bt_ HB hb); (try clear hb); (try clear hb2); (try clear hk); (try clear hi); (try clear ho0)) | ((with_reducible refine gate_dst (N := 7) rfl ?_); refine box_event ?hg (N := 7) ?hd (cs := #[.slice none 0 0]) (t := 34) ?hr ?_; (case hd => rfl); (case hg => rfl); (case hr => first | (go_simp; done) | (go_simp; rfl)); intro gb276 hg w115 hbox hb; have BK276 := Aside0.mk hbox; have GW276 := ge_ HB hg; have GE276 := ge_ HB hg; have NB262_276 := nl_ BK262 hg; have NB276_262 := ng_ BK262 hg; have NB263_276 := nl_ BK263 hg; have NB276_263 := ng_ BK263 hg; replace HO268 := rb_ HO268 hb; replace HO271 := rb_ HO271 hb; replace HO275 := rb_ HO275 hb; replace HB := Aside0.mk (bt_ HB hb); replace BK262 := Aside0.mk (bb_ BK262 hb); replace BK263 := Aside0.mk (bb_ BK263 hb); clear hb hbox hg; obtain ⟨Ao116, co116, eo116⟩ := Kd.R_slice HO275.out; subst eo116; have hnb117 := NB276_262.out; have hnc117 := NB262_276.out; have hnb118 := NB276_263.out; have hnc118 := NB263_276.out; have hcz119_0 := cz_ BK276 0 (.slice none 0 0); have hfz119_0 := blk_frozen BK276.out 0; have hcz120_0 := cz_ BK263 0 (.slice A1_0 l1_0.length c1_0); have hfz120_0 := blk_frozen BK263.out 0) | ((with_reducible refine gate_callee (f := 14) rfl ?_); refine gl_ (some 28) Try.func14 #[.agg #[.slice A1_0 l1_0.length c1_0]] ?_; (with_reducible refine (laws_toTable.calls k _ _ l1_0 t277 _ ?side1 ?side2 A23.out).mono ?_); (case side1 => exact Kd.C_below HR1_0.out (by repeat (first | (with_reducible first | exact HB.out | apply below_alloc | apply pw_below_drewN | apply below_drew1 | refine below_set ?_ GE262.out | refine below_set ?_ GE263.out | refine below_set ?_ GE276.out) | exact HB.out))); (case side2 => exact HC1_0.out); rintro e w121 ⟨v278, rfl, ho0, hb⟩; refine ⟨_, rfl, ?_⟩; have HO279 := Aside0.mk (Kd.R_lower (Kd.R_new' (Kd.R_new' (Kd.R_new' ho0 (Kd.R_lt (hs_ HO268 BK276))) (Kd.R_lt (hs_ HO271 BK276))) (Kd.R_lt (hs_ HO275 BK276))) (bz_ HB)); replace HO268 := Aside0.mk (Kd.R_elder' (hs_ HO268 BK276) (Kd.R_base ho0) hb); replace HO271 := Aside0.mk (Kd.R_elder' (hs_ HO271 BK276) (Kd.R_base ho0) hb); replace HO275 := Aside0.mk (Kd.R_elder' (hs_ HO275 BK276) (Kd.R_base ho0) hb); replace BK262 := bf_ BK262 NB262_276 hb; replace BK263 := bf_ BK263 NB263_276 hb; replace BK276 := Aside0.mk (blk_below (g := gb276) (o := .cells #[.slice Ao116 t273.length co116] 34 (0, 0)) (by (with_reducible repeat (first | refine blk_drewN ?_ _ | refine blk_drew ?_ | refine blk_alloc ?_ _)); refine blk_put (cs := #[.slice none 0 0]) ?_ 0 _ rfl; (with_reducible repeat (first | refine blk_drewN ?_ _ | refine blk_drew ?_ | refine blk_alloc ?_ _)); exact BK276.out) hb); replace HB := Aside0.mk (bt_ HB hb); (try clear hb); (try clear hb2); (try clear hk); (try clear hi); (try clear ho0)) | ((with_reducible refine gate_dst (N := 8) rfl ?_); refine box_event ?hg (N := 8) ?hd (cs := #[.slice none 0 0]) (t := 34) ?hr ?_; (case hd => rfl); (case hg => rfl); (case hr => first | (go_simp; done) | (go_simp; rfl)); intro gb280 hg w122 hbox hb; have BK280 := Aside0.mk hbox; have GW280 := ge_ HB hg; have GE280 := ge_ HB hg; have NB262_280 := nl_ BK262 hg; have NB280_262 := ng_ BK262 hg; have NB263_280 := nl_ BK263 hg; have NB280_263 := ng_ BK263 hg; have NB276_280 := nl_ BK276 hg; have NB280_276 := ng_ BK276 hg; replace HO268 := rb_ HO268 hb; replace HO271 := rb_ HO271 hb; replace HO275 := rb_ HO275 hb; replace HO279 := rb_ HO279 hb; replace HB := Aside0.mk (bt_ HB hb); replace BK262 := Aside0.mk (bb_ BK262 hb); replace BK263 := Aside0.mk (bb_ BK263 hb); replace BK276 := Aside0.mk (bb_ BK276 hb); clear hb hbox hg; obtain ⟨Ao123, co123, eo123⟩ := Kd.R_slice HO279.out; subst eo123; have hnb124 := NB280_262.out; have hnc124 := NB262_280.out; have hnb125 := NB280_263.out; have hnc125 := NB263_280.out; have hnb126 := NB280_276.out; have hnc126 := NB276_280.out; have hcz127_0 := cz_ BK280 0 (.slice none 0 0); have hfz127_0 := blk_frozen BK280.out 0; have hcz128_0 := cz_ BK276 0 (.slice Ao116 t273.length co116); have hfz128_0 := blk_frozen BK276.out 0) | ((with_reducible refine gate_callee (f := 29) rfl ?_); refine gl_ (some 31) Try.func29 #[.agg #[.slice Ao116 t273.length co116], .agg #[.slice Ao123 t277.length co123]] ?_; (with_reducible refine (impl_SameTable.calls k _ _ t273 _ _ t277 t281 _ ?side1 ?side2 ?side3 ?side4 A24.out).mono ?_); (case side1 => refine (Kd.R_reads' (e := 29) (base := w.heap.size) (ok := fun k_ => (((True ∧ some k_ ≠ (.slice Ao110 t266.length co110 : Value).ownBlock) ∧ some k_ ≠ (.slice Ao111 t269.length co111 : Value).ownBlock) ∧ some k_ ≠ (.slice Ao123 t277.length co123 : Value).ownBlock)) (n := t273.length) (c := co116) ?_).2.2; exact (hs_ HO275 BK280)); (case side2 => exact (Kd.R_reads' HO275.out).2.1); (case side3 => refine (Kd.R_reads' (e := 29) (base := w.heap.size) (ok := fun k_ => (((True ∧ some k_ ≠ (.slice Ao110 t266.length co110 : Value).ownBlock) ∧ some k_ ≠ (.slice Ao111 t269.length co111 : Value).ownBlock) ∧ some k_ ≠ (.slice Ao116 t273.length co116 : Value).ownBlock)) (n := t277.length) (c := co123) ?_).2.2; exact (hs_ HO279 BK280)); (case side4 => exact (Kd.R_reads' HO279.out).2.1); rintro e w129 ⟨rfl, hb⟩; refine ⟨_, rfl, ?_⟩; replace HO268 := rs_ HO268 BK280 hb; replace HO271 := rs_ HO271 BK280 hb; replace HO275 := rs_ HO275 BK280 hb; replace HO279 := rs_ HO279 BK280 hb; replace BK262 := bf_ BK262 NB262_280 hb; replace BK263 := bf_ BK263 NB263_280 hb; replace BK276 := bf_ BK276 NB276_280 hb; replace BK280 := Aside0.mk (blk_below (g := gb280) (o := .cells #[.slice Ao123 t277.length co123] 34 (0, 0)) (by (with_reducible repeat (first | refine blk_drewN ?_ _ | refine blk_drew ?_ | refine blk_alloc ?_ _)); refine blk_put (cs := #[.slice none 0 0]) ?_ 0 _ rfl; (with_reducible repeat (first | refine blk_drewN ?_ _ | refine blk_drew ?_ | refine blk_alloc ?_ _)); exact BK280.out) hb); replace HB := Aside0.mk (bt_ HB hb); (try clear hb); (try clear hb2); (try clear hk); (try clear hi)))
      replace HO268 := Aside0.mk (Kd.R_drew HO268.out)
      replace HO271 := Aside0.mk (Kd.R_drew HO271.out)
      replace HO275 := Aside0.mk (Kd.R_drew HO275.out)
      replace HO279 := Aside0.mk (Kd.R_drew HO279.out)
      replace BK262 := Aside0.mk (blk_drew BK262.out)
      replace BK263 := Aside0.mk (blk_drew BK263.out)
      replace BK276 := Aside0.mk (blk_drew BK276.out)
      replace BK280 := Aside0.mk (blk_drew BK280.out)
      replace HB := Aside0.mk (below_drew1 HB.out)
      refine start_ (n := 5) (S := fun w' => w'.cell? ⟨gb276, 0, none⟩ = some (.slice Ao116 t273.length co116) ∧ w'.cell? ⟨gb262, 0, none⟩ = some (.slice A0_0 l0_0.length c0_0)) (ds := []) ba14_7 (by kernel_rfl) rfl rfl ⟨(blk_cell BK276.out 0).trans rfl, (blk_cell BK262.out 0).trans rfl⟩ (fun hHeld => ?_)
      generalize w129.drew = w130 at HO268 HO271 HO275 HO279 BK262 BK263 BK276 BK280 HB hHeld ⊢
      refine take_ (i := 0) (N := some 35) (v := ?_) (a' := ?_) ba14_8 rfl rfl (by kernel_rfl) (fun _ _ _ h => h) (Or.inl ⟨by rfl, ?_⟩) hHeld ?_ ?_
      rotate_left; · rintro w' ⟨s0, s1⟩; go_simp; with_reducible rfl
      rotate_left; · simp only [Act.put, List.setIfInBounds_toArray, List.set_cons_zero, List.set_cons_succ, i64_w, i32_w]; rfl
      refine take_ (i := 1) (N := some 36) (v := ?_) (a' := ?_) ba14_9 rfl rfl (by kernel_rfl) (fun _ _ _ h => h) (Or.inl ⟨by rfl, ?_⟩) hHeld ?_ ?_
      rotate_left; · rintro w' ⟨s0, s1⟩; go_simp; with_reducible rfl
      rotate_left; · simp only [Act.put, List.setIfInBounds_toArray, List.set_cons_zero, List.set_cons_succ, i64_w, i32_w]; rfl
      refine one_ (i := 2) (N := some 37) ba14_10 rfl rfl (by kernel_rfl) (by decide) (fun K hK => ?_)
      refine gz_ Try.func14 #[.agg #[.slice A0_0 l0_0.length c0_0]] ?_
      with_reducible refine (laws_toTable.calls k _ _ l0_0 t282 _ ?side1 ?side2 A56.out).mono ?_
      (case side1 => exact cb_ HR0_0 HB)
      (case side2 => exact HC0_0.out)
      rintro e w131 ⟨v283, rfl, ho0, hb⟩
      refine ⟨_, rfl, ?_⟩
      have HO284 := Aside0.mk (Kd.R_lower (Kd.R_new' (Kd.R_new' (Kd.R_new' (Kd.R_new' ho0 (Kd.R_lt (hd_ HO268))) (Kd.R_lt (hd_ HO271))) (Kd.R_lt (hd_ HO275))) (Kd.R_lt (hd_ HO279))) (bz_ HB))
      replace HO268 := Aside0.mk (Kd.R_elder' (hd_ HO268) (Kd.R_base ho0) hb)
      replace HO271 := Aside0.mk (Kd.R_elder' (hd_ HO271) (Kd.R_base ho0) hb)
      replace HO275 := Aside0.mk (Kd.R_elder' (hd_ HO275) (Kd.R_base ho0) hb)
      replace HO279 := Aside0.mk (Kd.R_elder' (hd_ HO279) (Kd.R_base ho0) hb)
      replace BK262 := Aside0.mk (bb_ BK262 hb)
      replace BK263 := Aside0.mk (bb_ BK263 hb)
      replace BK276 := Aside0.mk (bb_ BK276 hb)
      replace BK280 := Aside0.mk (bb_ BK280 hb)
      replace HB := Aside0.mk (bt_ HB hb)
      (try clear hb)
      (try clear hb2)
      (try clear hk)
      (try clear hi)
      (try clear ho0)
      obtain ⟨Ao132, co132, eo132⟩ := Kd.R_slice HO284.out
      (first | subst eo132 | (injection eo132 with f1_ f2_ f3_; have f4_ := f1_.symm; have f5_ := f3_.symm; clear f1_ f2_ f3_; subst f4_; subst f5_))
      refine hK.out _ _ ⟨(blk_cell BK276.out 0).trans rfl, (blk_cell BK262.out 0).trans rfl⟩ (fun hHeld => ?_)
      clear hK K
      refine nz_ 37 ?_
      refine one_ (i := 3) (N := some 38) ba14_11 rfl rfl (by kernel_rfl) (by decide) (fun K hK => ?_)
      refine gz_ Try.func17 #[.agg #[.slice Ao116 t273.length co116], .agg #[.slice Ao132 t282.length co132]] ?_
      with_reducible refine (laws_eqTable.calls k _ _ t273 _ _ t282 true _ ?side1 ?side2 ?side3 ?side4 A57.out).mono ?_
      (case side1 => exact rc_ HO275)
      (case side2 => exact (Kd.R_reads' HO275.out).2.1)
      (case side3 => exact rc_ HO284)
      (case side4 => exact (Kd.R_reads' HO284.out).2.1)
      rintro e w133 ⟨rfl, hb⟩
      refine ⟨_, rfl, ?_⟩
      replace HO268 := rb_ HO268 hb
      replace HO271 := rb_ HO271 hb
      replace HO275 := rb_ HO275 hb
      replace HO279 := rb_ HO279 hb
      replace HO284 := rb_ HO284 hb
      replace BK262 := Aside0.mk (bb_ BK262 hb)
      replace BK263 := Aside0.mk (bb_ BK263 hb)
      replace BK276 := Aside0.mk (bb_ BK276 hb)
      replace BK280 := Aside0.mk (bb_ BK280 hb)
      replace HB := Aside0.mk (bt_ HB hb)
      (try clear hb)
      (try clear hb2)
      (try clear hk)
      (try clear hi)
      refine hK.out _ _ ⟨(blk_cell BK276.out 0).trans rfl, (blk_cell BK262.out 0).trans rfl⟩ (fun hHeld => ?_)
      clear hK K
      refine nz_ 38 ?_
      refine pure_ (i := 4) (N := some 39) (v := ?_) (a' := ?_) ba14_12 rfl rfl (by kernel_rfl) (fun _ _ _ h => h) (Or.inl ⟨by rfl, ?_⟩) ?_ ?_
      rotate_left; · intro w'; go_simp; with_reducible rfl
      rotate_left; · simp only [Act.put, List.setIfInBounds_toArray, List.set_cons_zero, List.set_cons_succ, i64_w, i32_w]; rfl
      refine done_ (by kernel_rfl) ?_
      try go_wp2
      replace HO268 := Aside0.mk (Kd.R_drew HO268.out)
      replace HO271 := Aside0.mk (Kd.R_drew HO271.out)
      replace HO275 := Aside0.mk (Kd.R_drew HO275.out)
      replace HO279 := Aside0.mk (Kd.R_drew HO279.out)
      replace HO284 := Aside0.mk (Kd.R_drew HO284.out)
      replace BK262 := Aside0.mk (blk_drew BK262.out)
      replace BK263 := Aside0.mk (blk_drew BK263.out)
      replace BK276 := Aside0.mk (blk_drew BK276.out)
      replace BK280 := Aside0.mk (blk_drew BK280.out)
      replace HB := Aside0.mk (below_drew1 HB.out)
      refine start_ (n := 5) (S := fun w' => w'.cell? ⟨gb280, 0, none⟩ = some (.slice Ao123 t277.length co123) ∧ w'.cell? ⟨gb263, 0, none⟩ = some (.slice A1_0 l1_0.length c1_0)) (ds := []) ba14_7 (by kernel_rfl) rfl rfl ⟨(blk_cell BK280.out 0).trans rfl, (blk_cell BK263.out 0).trans rfl⟩ (fun hHeld => ?_)
      generalize w133.drew = w134 at HO268 HO271 HO275 HO279 HO284 BK262 BK263 BK276 BK280 HB hHeld ⊢
      refine take_ (i := 0) (N := some 40) (v := ?_) (a' := ?_) ba14_8 rfl rfl (by kernel_rfl) (fun _ _ _ h => h) (Or.inl ⟨by rfl, ?_⟩) hHeld ?_ ?_
      rotate_left; · rintro w' ⟨s0, s1⟩; go_simp; with_reducible rfl
      rotate_left; · simp only [Act.put, List.setIfInBounds_toArray, List.set_cons_zero, List.set_cons_succ, i64_w, i32_w]; rfl
      refine take_ (i := 1) (N := some 41) (v := ?_) (a' := ?_) ba14_9 rfl rfl (by kernel_rfl) (fun _ _ _ h => h) (Or.inl ⟨by rfl, ?_⟩) hHeld ?_ ?_
      rotate_left; · rintro w' ⟨s0, s1⟩; go_simp; with_reducible rfl
      rotate_left; · simp only [Act.put, List.setIfInBounds_toArray, List.set_cons_zero, List.set_cons_succ, i64_w, i32_w]; rfl
      refine one_ (i := 2) (N := some 42) ba14_10 rfl rfl (by kernel_rfl) (by decide) (fun K hK => ?_)
      refine gz_ Try.func14 #[.agg #[.slice A1_0 l1_0.length c1_0]] ?_
      with_reducible refine (laws_toTable.calls k _ _ l1_0 t286 _ ?side1 ?side2 A59.out).mono ?_
      (case side1 => exact cb_ HR1_0 HB)
      (case side2 => exact HC1_0.out)
      rintro e w135 ⟨v287, rfl, ho0, hb⟩
      refine ⟨_, rfl, ?_⟩
      have HO288 := Aside0.mk (Kd.R_lower (Kd.R_new' (Kd.R_new' (Kd.R_new' (Kd.R_new' (Kd.R_new' ho0 (Kd.R_lt (hd_ HO268))) (Kd.R_lt (hd_ HO271))) (Kd.R_lt (hd_ HO275))) (Kd.R_lt (hd_ HO279))) (Kd.R_lt (hd_ HO284))) (bz_ HB))
      replace HO268 := Aside0.mk (Kd.R_elder' (hd_ HO268) (Kd.R_base ho0) hb)
      replace HO271 := Aside0.mk (Kd.R_elder' (hd_ HO271) (Kd.R_base ho0) hb)
      replace HO275 := Aside0.mk (Kd.R_elder' (hd_ HO275) (Kd.R_base ho0) hb)
      replace HO279 := Aside0.mk (Kd.R_elder' (hd_ HO279) (Kd.R_base ho0) hb)
      replace HO284 := Aside0.mk (Kd.R_elder' (hd_ HO284) (Kd.R_base ho0) hb)
      replace BK262 := Aside0.mk (bb_ BK262 hb)
      replace BK263 := Aside0.mk (bb_ BK263 hb)
      replace BK276 := Aside0.mk (bb_ BK276 hb)
      replace BK280 := Aside0.mk (bb_ BK280 hb)
      replace HB := Aside0.mk (bt_ HB hb)
      (try clear hb)
      (try clear hb2)
      (try clear hk)
      (try clear hi)
      (try clear ho0)
      obtain ⟨Ao136, co136, eo136⟩ := Kd.R_slice HO288.out
      (first | subst eo136 | (injection eo136 with f1_ f2_ f3_; have f4_ := f1_.symm; have f5_ := f3_.symm; clear f1_ f2_ f3_; subst f4_; subst f5_))
      refine hK.out _ _ ⟨(blk_cell BK280.out 0).trans rfl, (blk_cell BK263.out 0).trans rfl⟩ (fun hHeld => ?_)
      clear hK K
      refine nz_ 42 ?_
      refine one_ (i := 3) (N := some 43) ba14_11 rfl rfl (by kernel_rfl) (by decide) (fun K hK => ?_)
      refine gz_ Try.func17 #[.agg #[.slice Ao123 t277.length co123], .agg #[.slice Ao136 t286.length co136]] ?_
      with_reducible refine (laws_eqTable.calls k _ _ t277 _ _ t286 false _ ?side1 ?side2 ?side3 ?side4 A60.out).mono ?_
      (case side1 => exact rc_ HO279)
      (case side2 => exact (Kd.R_reads' HO279.out).2.1)
      (case side3 => exact rc_ HO288)
      (case side4 => exact (Kd.R_reads' HO288.out).2.1)
      rintro e w137 ⟨rfl, hb⟩
      refine ⟨_, rfl, ?_⟩
      replace HO268 := rb_ HO268 hb
      replace HO271 := rb_ HO271 hb
      replace HO275 := rb_ HO275 hb
      replace HO279 := rb_ HO279 hb
      replace HO284 := rb_ HO284 hb
      replace HO288 := rb_ HO288 hb
      replace BK262 := Aside0.mk (bb_ BK262 hb)
      replace BK263 := Aside0.mk (bb_ BK263 hb)
      replace BK276 := Aside0.mk (bb_ BK276 hb)
      replace BK280 := Aside0.mk (bb_ BK280 hb)
      replace HB := Aside0.mk (bt_ HB hb)
      (try clear hb)
      (try clear hb2)
      (try clear hk)
      (try clear hi)
      refine hK.out _ _ ⟨(blk_cell BK280.out 0).trans rfl, (blk_cell BK263.out 0).trans rfl⟩ (fun hHeld => ?_)
      clear hK K
      refine nz_ 43 ?_
      refine pure_ (i := 4) (N := some 44) (v := ?_) (a' := ?_) ba14_12 rfl rfl (by kernel_rfl) (fun _ _ _ h => h) (Or.inl ⟨by rfl, ?_⟩) ?_ ?_
      rotate_left; · intro w'; go_simp; with_reducible rfl
      rotate_left; · simp only [Act.put, List.setIfInBounds_toArray, List.set_cons_zero, List.set_cons_succ, i64_w, i32_w]; rfl
      refine done_ (by kernel_rfl) ?_
      try go_wp2
      go_ret
      exact ⟨by first | rfl | (simp [errW_none, errW_some] <;> rfl) | (simp [*, errW_none, errW_some] <;> rfl), by repeat (first | (with_reducible first | exact HB.out | apply below_alloc | apply pw_below_drewN | apply below_drew1 | refine below_set ?_ GE262.out | refine below_set ?_ GE263.out | refine below_set ?_ GE276.out | refine below_set ?_ GE280.out) | exact HB.out)⟩
    ·replace c58 := Bool.eq_false_iff.mpr c58
     subst c58
     rw [if_neg (show ¬ (false = true) by decide)] at H
     obtain rfl := Option.some.inj H
     go_enter Try.func7, Try.ntmps7
     try go_wp2_with (first | ((with_reducible refine gate_dst (N := 2) rfl ?_); refine box_event ?hg (N := 2) ?hd (cs := #[.slice A0_0 l0_0.length c0_0]) (t := 24) ?hr ?_; (case hd => rfl); (case hg => rfl); (case hr => first | (go_simp; done) | (go_simp; rfl)); intro gb262 hg w138 hbox hb; have BK262 := Aside0.mk hbox; have GW262 := ge_ HB hg; have GE262 := ge_ HB hg; replace HB := Aside0.mk (bt_ HB hb); clear hb hbox hg) | ((with_reducible refine gate_dst (N := 3) rfl ?_); refine box_event ?hg (N := 3) ?hd (cs := #[.slice A1_0 l1_0.length c1_0]) (t := 24) ?hr ?_; (case hd => rfl); (case hg => rfl); (case hr => first | (go_simp; done) | (go_simp; rfl)); intro gb263 hg w139 hbox hb; have BK263 := Aside0.mk hbox; have GW263 := ge_ HB hg; have GE263 := ge_ HB hg; have NB262_263 := nl_ BK262 hg; have NB263_262 := ng_ BK262 hg; replace HB := Aside0.mk (bt_ HB hb); replace BK262 := Aside0.mk (bb_ BK262 hb); clear hb hbox hg; have hnb140 := NB262_263.out; have hnc140 := NB263_262.out; have hcz141_0 := cz_ BK262 0 (.slice A0_0 l0_0.length c0_0); have hfz141_0 := blk_frozen BK262.out 0) | ((with_reducible refine gate_callee (f := 12) rfl ?_); refine gl_ (some 12) Try.func12 #[.agg #[.slice A0_0 l0_0.length c0_0], .int .i64 1048576] ?_; (with_reducible refine (laws_szTable.calls _ _ l0_0 1048576 t264 _ ?side1 ?side2 A3.out).mono ?_); (case side1 => exact cb_ HR0_0 HB); (case side2 => exact HC0_0.out); rintro e w142 ⟨rfl, hb⟩; refine ⟨_, rfl, ?_⟩; replace BK262 := Aside0.mk (bb_ BK262 hb); replace BK263 := Aside0.mk (bb_ BK263 hb); replace HB := Aside0.mk (bt_ HB hb); (try clear hb); (try clear hb2); (try clear hk); (try clear hi); have hcz143_0 := cz_ BK263 0 (.slice A1_0 l1_0.length c1_0); have hfz143_0 := blk_frozen BK263.out 0) | ((with_reducible refine gate_callee (f := 12) rfl ?_); refine gl_ (some 17) Try.func12 #[.agg #[.slice A1_0 l1_0.length c1_0], .int .i64 t264] ?_; (with_reducible refine (laws_szTable.calls _ _ l1_0 t264 t265 _ ?side1 ?side2 A10.out).mono ?_); (case side1 => exact cb_ HR1_0 HB); (case side2 => exact HC1_0.out); rintro e w144 ⟨rfl, hb⟩; refine ⟨_, rfl, ?_⟩; replace BK262 := Aside0.mk (bb_ BK262 hb); replace BK263 := Aside0.mk (bb_ BK263 hb); replace HB := Aside0.mk (bt_ HB hb); (try clear hb); (try clear hb2); (try clear hk); (try clear hi)))
     replace BK262 := Aside0.mk (blk_drew BK262.out)
     replace BK263 := Aside0.mk (blk_drew BK263.out)
     replace HB := Aside0.mk (below_drew1 HB.out)
     refine start_ (n := 6) (S := fun w' => w'.cell? ⟨gb262, 0, none⟩ = some (.slice A0_0 l0_0.length c0_0) ∧ w'.cell? ⟨gb263, 0, none⟩ = some (.slice A1_0 l1_0.length c1_0)) (ds := []) ba14_0 (by kernel_rfl) rfl rfl ⟨(blk_cell BK262.out 0).trans rfl, (blk_cell BK263.out 0).trans rfl⟩ (fun hHeld => ?_)
     generalize w144.drew = w145 at BK262 BK263 HB hHeld ⊢
     refine take_ (i := 0) (N := some 20) (v := ?_) (a' := ?_) ba14_1 rfl rfl (by kernel_rfl) (fun _ _ _ h => h) (Or.inl ⟨by rfl, ?_⟩) hHeld ?_ ?_
     rotate_left; · rintro w' ⟨s0, s1⟩; go_simp; with_reducible rfl
     rotate_left; · simp only [Act.put, List.setIfInBounds_toArray, List.set_cons_zero, List.set_cons_succ, i64_w, i32_w]; rfl
     refine take_ (i := 2) (N := some 22) (v := ?_) (a' := ?_) ba14_2 rfl rfl (by kernel_rfl) (fun _ _ _ h => h) (Or.inl ⟨by rfl, ?_⟩) hHeld ?_ ?_
     rotate_left; · rintro w' ⟨s0, s1⟩; go_simp; with_reducible rfl
     rotate_left; · simp only [Act.put, List.setIfInBounds_toArray, List.set_cons_zero, List.set_cons_succ, i64_w, i32_w]; rfl
     refine one_ (i := 1) (N := some 21) ba14_3 rfl rfl (by kernel_rfl) (by decide) (fun K hK => ?_)
     refine gz_ Try.func14 #[.agg #[.slice A0_0 l0_0.length c0_0]] ?_
     with_reducible refine (laws_toTable.calls k _ _ l0_0 t266 _ ?side1 ?side2 A19.out).mono ?_
     (case side1 => exact cb_ HR0_0 HB)
     (case side2 => exact HC0_0.out)
     rintro e w146 ⟨v267, rfl, ho0, hb⟩
     refine ⟨_, rfl, ?_⟩
     have HO268 := Aside0.mk (Kd.R_lower ho0 (bz_ HB))
     replace BK262 := Aside0.mk (bb_ BK262 hb)
     replace BK263 := Aside0.mk (bb_ BK263 hb)
     replace HB := Aside0.mk (bt_ HB hb)
     (try clear hb)
     (try clear hb2)
     (try clear hk)
     (try clear hi)
     (try clear ho0)
     refine hK.out _ _ ⟨(blk_cell BK262.out 0).trans rfl, (blk_cell BK263.out 0).trans rfl⟩ (fun hHeld => ?_)
     clear hK K
     refine nz_ 21 ?_
     refine one_ (i := 3) (N := some 23) ba14_4 rfl rfl (by kernel_rfl) (by decide) (fun K hK => ?_)
     refine gz_ Try.func14 #[.agg #[.slice A1_0 l1_0.length c1_0]] ?_
     with_reducible refine (laws_toTable.calls k _ _ l1_0 t269 _ ?side1 ?side2 A20.out).mono ?_
     (case side1 => exact cb_ HR1_0 HB)
     (case side2 => exact HC1_0.out)
     rintro e w147 ⟨v270, rfl, ho0, hb⟩
     refine ⟨_, rfl, ?_⟩
     have HO271 := Aside0.mk (Kd.R_lower (Kd.R_new' ho0 (Kd.R_lt (hd_ HO268))) (bz_ HB))
     replace HO268 := Aside0.mk (Kd.R_elder' (hd_ HO268) (Kd.R_base ho0) hb)
     replace BK262 := Aside0.mk (bb_ BK262 hb)
     replace BK263 := Aside0.mk (bb_ BK263 hb)
     replace HB := Aside0.mk (bt_ HB hb)
     (try clear hb)
     (try clear hb2)
     (try clear hk)
     (try clear hi)
     (try clear ho0)
     obtain ⟨Ao148, co148, eo148⟩ := Kd.R_slice HO268.out
     (first | subst eo148 | (injection eo148 with f1_ f2_ f3_; have f4_ := f1_.symm; have f5_ := f3_.symm; clear f1_ f2_ f3_; subst f4_; subst f5_))
     obtain ⟨Ao149, co149, eo149⟩ := Kd.R_slice HO271.out
     (first | subst eo149 | (injection eo149 with f1_ f2_ f3_; have f4_ := f1_.symm; have f5_ := f3_.symm; clear f1_ f2_ f3_; subst f4_; subst f5_))
     refine hK.out _ _ ⟨(blk_cell BK262.out 0).trans rfl, (blk_cell BK263.out 0).trans rfl⟩ (fun hHeld => ?_)
     clear hK K
     refine nz_ 23 ?_
     refine one_ (i := 4) (N := some 24) ba14_5 rfl rfl (by kernel_rfl) (by decide) (fun K hK => ?_)
     refine gz_ Try.func28 #[.agg #[.slice Ao148 t266.length co148], .agg #[.slice Ao149 t269.length co149]] ?_
     with_reducible refine (spec_SameTable.calls k _ _ t266 _ _ t269 t272 _ ?side1 ?side2 ?side3 ?side4 A21.out).mono ?_
     (case side1 => exact rc_ HO268)
     (case side2 => exact (Kd.R_reads' HO268.out).2.1)
     (case side3 => exact rc_ HO271)
     (case side4 => exact (Kd.R_reads' HO271.out).2.1)
     rintro e w150 ⟨rfl, hb⟩
     refine ⟨_, rfl, ?_⟩
     replace HO268 := rb_ HO268 hb
     replace HO271 := rb_ HO271 hb
     replace BK262 := Aside0.mk (bb_ BK262 hb)
     replace BK263 := Aside0.mk (bb_ BK263 hb)
     replace HB := Aside0.mk (bt_ HB hb)
     (try clear hb)
     (try clear hb2)
     (try clear hk)
     (try clear hi)
     refine hK.out _ _ ⟨(blk_cell BK262.out 0).trans rfl, (blk_cell BK263.out 0).trans rfl⟩ (fun hHeld => ?_)
     clear hK K
     refine nz_ 24 ?_
     refine pure_ (i := 5) (N := some 6) (v := ?_) (a' := ?_) ba14_6 rfl rfl (by kernel_rfl) (fun _ _ _ h => h) (Or.inl ⟨by rfl, ?_⟩) ?_ ?_
     rotate_left; · intro w'; go_simp; with_reducible rfl
     rotate_left; · simp only [Act.put, List.setIfInBounds_toArray, List.set_cons_zero, List.set_cons_succ, i64_w, i32_w]; rfl
     refine done_ (by kernel_rfl) ?_
     have hcz151_0 := cz_ BK262 0 (.slice A0_0 l0_0.length c0_0)
     have hfz151_0 := blk_frozen BK262.out 0
     try go_wp2_with (first | ((with_reducible refine gate_callee (f := 14) rfl ?_); refine gl_ (some 26) Try.func14 #[.agg #[.slice A0_0 l0_0.length c0_0]] ?_; (with_reducible refine (laws_toTable.calls k _ _ l0_0 t273 _ ?side1 ?side2 A22.out).mono ?_); (case side1 => exact cb_ HR0_0 HB); (case side2 => exact HC0_0.out); rintro e w152 ⟨v274, rfl, ho0, hb⟩; refine ⟨_, rfl, ?_⟩; have HO275 := Aside0.mk (Kd.R_lower (Kd.R_new' (Kd.R_new' ho0 (Kd.R_lt (hd_ HO268))) (Kd.R_lt (hd_ HO271))) (bz_ HB)); replace HO268 := Aside0.mk (Kd.R_elder' (hd_ HO268) (Kd.R_base ho0) hb); replace HO271 := Aside0.mk (Kd.R_elder' (hd_ HO271) (Kd.R_base ho0) hb); replace BK262 := Aside0.mk (bb_ BK262 hb); replace BK263 := Aside0.mk (bb_ BK263 hb); replace HB := Aside0.mk (bt_ HB hb); (try clear hb); (try clear hb2); (try clear hk); (try clear hi); (try clear ho0)) | ((with_reducible refine gate_dst (N := 7) rfl ?_); refine box_event ?hg (N := 7) ?hd (cs := #[.slice none 0 0]) (t := 34) ?hr ?_; (case hd => rfl); (case hg => rfl); (case hr => first | (go_simp; done) | (go_simp; rfl)); intro gb276 hg w153 hbox hb; have BK276 := Aside0.mk hbox; have GW276 := ge_ HB hg; have GE276 := ge_ HB hg; have NB262_276 := nl_ BK262 hg; have NB276_262 := ng_ BK262 hg; have NB263_276 := nl_ BK263 hg; have NB276_263 := ng_ BK263 hg; replace HO268 := rb_ HO268 hb; replace HO271 := rb_ HO271 hb; replace HO275 := rb_ HO275 hb; replace HB := Aside0.mk (bt_ HB hb); replace BK262 := Aside0.mk (bb_ BK262 hb); replace BK263 := Aside0.mk (bb_ BK263 hb); clear hb hbox hg; obtain ⟨Ao154, co154, eo154⟩ := Kd.R_slice HO275.out; subst eo154; have hnb155 := NB276_262.out; have hnc155 := NB262_276.out; have hnb156 := NB276_263.out; have hnc156 := NB263_276.out; have hcz157_0 := cz_ BK276 0 (.slice none 0 0); have hfz157_0 := blk_frozen BK276.out 0; have hcz158_0 := cz_ BK263 0 (.slice A1_0 l1_0.length c1_0); have hfz158_0 := blk_frozen BK263.out 0) | ((with_reducible refine gate_callee (f := 14) rfl ?_); refine gl_ (some 28) Try.func14 #[.agg #[.slice A1_0 l1_0.length c1_0]] ?_; (with_reducible refine (laws_toTable.calls k _ _ l1_0 t277 _ ?side1 ?side2 A23.out).mono ?_); (case side1 => exact Kd.C_below HR1_0.out (by repeat (first | (with_reducible first | exact HB.out | apply below_alloc | apply pw_below_drewN | apply below_drew1 | refine below_set ?_ GE262.out | refine below_set ?_ GE263.out | refine below_set ?_ GE276.out) | exact HB.out))); (case side2 => exact HC1_0.out); rintro e w159 ⟨v278, rfl, ho0, hb⟩; refine ⟨_, rfl, ?_⟩; have HO279 := Aside0.mk (Kd.R_lower (Kd.R_new' (Kd.R_new' (Kd.R_new' ho0 (Kd.R_lt (hs_ HO268 BK276))) (Kd.R_lt (hs_ HO271 BK276))) (Kd.R_lt (hs_ HO275 BK276))) (bz_ HB)); replace HO268 := Aside0.mk (Kd.R_elder' (hs_ HO268 BK276) (Kd.R_base ho0) hb); replace HO271 := Aside0.mk (Kd.R_elder' (hs_ HO271 BK276) (Kd.R_base ho0) hb); replace HO275 := Aside0.mk (Kd.R_elder' (hs_ HO275 BK276) (Kd.R_base ho0) hb); replace BK262 := bf_ BK262 NB262_276 hb; replace BK263 := bf_ BK263 NB263_276 hb; replace BK276 := Aside0.mk (blk_below (g := gb276) (o := .cells #[.slice Ao154 t273.length co154] 34 (0, 0)) (by (with_reducible repeat (first | refine blk_drewN ?_ _ | refine blk_drew ?_ | refine blk_alloc ?_ _)); refine blk_put (cs := #[.slice none 0 0]) ?_ 0 _ rfl; (with_reducible repeat (first | refine blk_drewN ?_ _ | refine blk_drew ?_ | refine blk_alloc ?_ _)); exact BK276.out) hb); replace HB := Aside0.mk (bt_ HB hb); (try clear hb); (try clear hb2); (try clear hk); (try clear hi); (try clear ho0)) | ((with_reducible refine gate_dst (N := 8) rfl ?_); refine box_event ?hg (N := 8) ?hd (cs := #[.slice none 0 0]) (t := 34) ?hr ?_; (case hd => rfl); (case hg => rfl); (case hr => first | (go_simp; done) | (go_simp; rfl)); intro gb280 hg w160 hbox hb; have BK280 := Aside0.mk hbox; have GW280 := ge_ HB hg; have GE280 := ge_ HB hg; have NB262_280 := nl_ BK262 hg; have NB280_262 := ng_ BK262 hg; have NB263_280 := nl_ BK263 hg; have NB280_263 := ng_ BK263 hg; have NB276_280 := nl_ BK276 hg; have NB280_276 := ng_ BK276 hg; replace HO268 := rb_ HO268 hb; replace HO271 := rb_ HO271 hb; replace HO275 := rb_ HO275 hb; replace HO279 := rb_ HO279 hb; replace HB := Aside0.mk (bt_ HB hb); replace BK262 := Aside0.mk (bb_ BK262 hb); replace BK263 := Aside0.mk (bb_ BK263 hb); replace BK276 := Aside0.mk (bb_ BK276 hb); clear hb hbox hg; obtain ⟨Ao161, co161, eo161⟩ := Kd.R_slice HO279.out; subst eo161; have hnb162 := NB280_262.out; have hnc162 := NB262_280.out; have hnb163 := NB280_263.out; have hnc163 := NB263_280.out; have hnb164 := NB280_276.out; have hnc164 := NB276_280.out; have hcz165_0 := cz_ BK280 0 (.slice none 0 0); have hfz165_0 := blk_frozen BK280.out 0; have hcz166_0 := cz_ BK276 0 (.slice Ao154 t273.length co154); have hfz166_0 := blk_frozen BK276.out 0) | ((with_reducible refine gate_callee (f := 29) rfl ?_); refine gl_ (some 31) Try.func29 #[.agg #[.slice Ao154 t273.length co154], .agg #[.slice Ao161 t277.length co161]] ?_; (with_reducible refine (impl_SameTable.calls k _ _ t273 _ _ t277 t281 _ ?side1 ?side2 ?side3 ?side4 A24.out).mono ?_); (case side1 => refine (Kd.R_reads' (e := 29) (base := w.heap.size) (ok := fun k_ => (((True ∧ some k_ ≠ (.slice Ao148 t266.length co148 : Value).ownBlock) ∧ some k_ ≠ (.slice Ao149 t269.length co149 : Value).ownBlock) ∧ some k_ ≠ (.slice Ao161 t277.length co161 : Value).ownBlock)) (n := t273.length) (c := co154) ?_).2.2; exact (hs_ HO275 BK280)); (case side2 => exact (Kd.R_reads' HO275.out).2.1); (case side3 => refine (Kd.R_reads' (e := 29) (base := w.heap.size) (ok := fun k_ => (((True ∧ some k_ ≠ (.slice Ao148 t266.length co148 : Value).ownBlock) ∧ some k_ ≠ (.slice Ao149 t269.length co149 : Value).ownBlock) ∧ some k_ ≠ (.slice Ao154 t273.length co154 : Value).ownBlock)) (n := t277.length) (c := co161) ?_).2.2; exact (hs_ HO279 BK280)); (case side4 => exact (Kd.R_reads' HO279.out).2.1); rintro e w167 ⟨rfl, hb⟩; refine ⟨_, rfl, ?_⟩; replace HO268 := rs_ HO268 BK280 hb; replace HO271 := rs_ HO271 BK280 hb; replace HO275 := rs_ HO275 BK280 hb; replace HO279 := rs_ HO279 BK280 hb; replace BK262 := bf_ BK262 NB262_280 hb; replace BK263 := bf_ BK263 NB263_280 hb; replace BK276 := bf_ BK276 NB276_280 hb; replace BK280 := Aside0.mk (blk_below (g := gb280) (o := .cells #[.slice Ao161 t277.length co161] 34 (0, 0)) (by (with_reducible repeat (first | refine blk_drewN ?_ _ | refine blk_drew ?_ | refine blk_alloc ?_ _)); refine blk_put (cs := #[.slice none 0 0]) ?_ 0 _ rfl; (with_reducible repeat (first | refine blk_drewN ?_ _ | refine blk_drew ?_ | refine blk_alloc ?_ _)); exact BK280.out) hb); replace HB := Aside0.mk (bt_ HB hb); (try clear hb); (try clear hb2); (try clear hk); (try clear hi)))
     replace HO268 := Aside0.mk (Kd.R_drew HO268.out)
     replace HO271 := Aside0.mk (Kd.R_drew HO271.out)
     replace HO275 := Aside0.mk (Kd.R_drew HO275.out)
     replace HO279 := Aside0.mk (Kd.R_drew HO279.out)
     replace BK262 := Aside0.mk (blk_drew BK262.out)
     replace BK263 := Aside0.mk (blk_drew BK263.out)
     replace BK276 := Aside0.mk (blk_drew BK276.out)
     replace BK280 := Aside0.mk (blk_drew BK280.out)
     replace HB := Aside0.mk (below_drew1 HB.out)
     refine start_ (n := 5) (S := fun w' => w'.cell? ⟨gb276, 0, none⟩ = some (.slice Ao154 t273.length co154) ∧ w'.cell? ⟨gb262, 0, none⟩ = some (.slice A0_0 l0_0.length c0_0)) (ds := []) ba14_7 (by kernel_rfl) rfl rfl ⟨(blk_cell BK276.out 0).trans rfl, (blk_cell BK262.out 0).trans rfl⟩ (fun hHeld => ?_)
     generalize w167.drew = w168 at HO268 HO271 HO275 HO279 BK262 BK263 BK276 BK280 HB hHeld ⊢
     refine take_ (i := 0) (N := some 35) (v := ?_) (a' := ?_) ba14_8 rfl rfl (by kernel_rfl) (fun _ _ _ h => h) (Or.inl ⟨by rfl, ?_⟩) hHeld ?_ ?_
     rotate_left; · rintro w' ⟨s0, s1⟩; go_simp; with_reducible rfl
     rotate_left; · simp only [Act.put, List.setIfInBounds_toArray, List.set_cons_zero, List.set_cons_succ, i64_w, i32_w]; rfl
     refine take_ (i := 1) (N := some 36) (v := ?_) (a' := ?_) ba14_9 rfl rfl (by kernel_rfl) (fun _ _ _ h => h) (Or.inl ⟨by rfl, ?_⟩) hHeld ?_ ?_
     rotate_left; · rintro w' ⟨s0, s1⟩; go_simp; with_reducible rfl
     rotate_left; · simp only [Act.put, List.setIfInBounds_toArray, List.set_cons_zero, List.set_cons_succ, i64_w, i32_w]; rfl
     refine one_ (i := 2) (N := some 37) ba14_10 rfl rfl (by kernel_rfl) (by decide) (fun K hK => ?_)
     refine gz_ Try.func14 #[.agg #[.slice A0_0 l0_0.length c0_0]] ?_
     with_reducible refine (laws_toTable.calls k _ _ l0_0 t282 _ ?side1 ?side2 A56.out).mono ?_
     (case side1 => exact cb_ HR0_0 HB)
     (case side2 => exact HC0_0.out)
     rintro e w169 ⟨v283, rfl, ho0, hb⟩
     refine ⟨_, rfl, ?_⟩
     have HO284 := Aside0.mk (Kd.R_lower (Kd.R_new' (Kd.R_new' (Kd.R_new' (Kd.R_new' ho0 (Kd.R_lt (hd_ HO268))) (Kd.R_lt (hd_ HO271))) (Kd.R_lt (hd_ HO275))) (Kd.R_lt (hd_ HO279))) (bz_ HB))
     replace HO268 := Aside0.mk (Kd.R_elder' (hd_ HO268) (Kd.R_base ho0) hb)
     replace HO271 := Aside0.mk (Kd.R_elder' (hd_ HO271) (Kd.R_base ho0) hb)
     replace HO275 := Aside0.mk (Kd.R_elder' (hd_ HO275) (Kd.R_base ho0) hb)
     replace HO279 := Aside0.mk (Kd.R_elder' (hd_ HO279) (Kd.R_base ho0) hb)
     replace BK262 := Aside0.mk (bb_ BK262 hb)
     replace BK263 := Aside0.mk (bb_ BK263 hb)
     replace BK276 := Aside0.mk (bb_ BK276 hb)
     replace BK280 := Aside0.mk (bb_ BK280 hb)
     replace HB := Aside0.mk (bt_ HB hb)
     (try clear hb)
     (try clear hb2)
     (try clear hk)
     (try clear hi)
     (try clear ho0)
     obtain ⟨Ao170, co170, eo170⟩ := Kd.R_slice HO284.out
     (first | subst eo170 | (injection eo170 with f1_ f2_ f3_; have f4_ := f1_.symm; have f5_ := f3_.symm; clear f1_ f2_ f3_; subst f4_; subst f5_))
     refine hK.out _ _ ⟨(blk_cell BK276.out 0).trans rfl, (blk_cell BK262.out 0).trans rfl⟩ (fun hHeld => ?_)
     clear hK K
     refine nz_ 37 ?_
     refine one_ (i := 3) (N := some 38) ba14_11 rfl rfl (by kernel_rfl) (by decide) (fun K hK => ?_)
     refine gz_ Try.func17 #[.agg #[.slice Ao154 t273.length co154], .agg #[.slice Ao170 t282.length co170]] ?_
     with_reducible refine (laws_eqTable.calls k _ _ t273 _ _ t282 false _ ?side1 ?side2 ?side3 ?side4 A57.out).mono ?_
     (case side1 => exact rc_ HO275)
     (case side2 => exact (Kd.R_reads' HO275.out).2.1)
     (case side3 => exact rc_ HO284)
     (case side4 => exact (Kd.R_reads' HO284.out).2.1)
     rintro e w171 ⟨rfl, hb⟩
     refine ⟨_, rfl, ?_⟩
     replace HO268 := rb_ HO268 hb
     replace HO271 := rb_ HO271 hb
     replace HO275 := rb_ HO275 hb
     replace HO279 := rb_ HO279 hb
     replace HO284 := rb_ HO284 hb
     replace BK262 := Aside0.mk (bb_ BK262 hb)
     replace BK263 := Aside0.mk (bb_ BK263 hb)
     replace BK276 := Aside0.mk (bb_ BK276 hb)
     replace BK280 := Aside0.mk (bb_ BK280 hb)
     replace HB := Aside0.mk (bt_ HB hb)
     (try clear hb)
     (try clear hb2)
     (try clear hk)
     (try clear hi)
     refine hK.out _ _ ⟨(blk_cell BK276.out 0).trans rfl, (blk_cell BK262.out 0).trans rfl⟩ (fun hHeld => ?_)
     clear hK K
     refine nz_ 38 ?_
     refine pure_ (i := 4) (N := some 39) (v := ?_) (a' := ?_) ba14_12 rfl rfl (by kernel_rfl) (fun _ _ _ h => h) (Or.inl ⟨by rfl, ?_⟩) ?_ ?_
     rotate_left; · intro w'; go_simp; with_reducible rfl
     rotate_left; · simp only [Act.put, List.setIfInBounds_toArray, List.set_cons_zero, List.set_cons_succ, i64_w, i32_w]; rfl
     refine done_ (by kernel_rfl) ?_
     try go_wp2
     go_ret
     exact ⟨by first | rfl | (simp [errW_none, errW_some] <;> rfl) | (simp [*, errW_none, errW_some] <;> rfl), by repeat (first | (with_reducible first | exact HB.out | apply below_alloc | apply pw_below_drewN | apply below_drew1 | refine below_set ?_ GE262.out | refine below_set ?_ GE263.out | refine below_set ?_ GE276.out | refine below_set ?_ GE280.out) | exact HB.out)⟩

end Go.Proofs.Ytjepabdgmholjaa.QFnExactSameTable
