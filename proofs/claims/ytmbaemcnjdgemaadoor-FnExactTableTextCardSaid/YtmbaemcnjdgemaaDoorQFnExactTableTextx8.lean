/- Contracts of functions that the law reaches: what each call returns and what it leaves in memory. Made by this session over the print of the kit. -/
import Derived.Test.YtmbaemcnjdgemaaDoorQFnExactTableTextx0
import Derived.Test.YtmbaemcnjdgemaaDoorQFnExactTableTextx1
import Derived.Test.YtmbaemcnjdgemaaDoorQFnExactTableTextx3
import Derived.Test.YtmbaemcnjdgemaaDoorQFnExactTableTextx7
namespace Go.Proofs.YtmbaemcnjdgemaaDoor.QFnExactTableText
open Go.RowKit Go.Proofs.YtmbaemcnjdgemaaDoorC.PrintWords Go.Proofs.YtmbaemcnjdgemaaDoorC.PrintLast Go.Proofs.YtmbaemcnjdgemaaDoorC.PrintMore
attribute [local go_sem] max2_int min2_int max_two min_two max_three min_three max_four min_four   -- for this text's walks alone
set_option linter.unusedVariables false
set_option linter.unusedSimpArgs false
def ba8_0 : Array Bool := #[false, false, false, false, false]
def ba8_1 : Array Bool := #[true, false, false, false, false]
def ba8_2 : Array Bool := #[true, true, false, false, false]
def ba8_3 : Array Bool := #[true, true, true, false, false]
def ba8_4 : Array Bool := #[true, true, true, true, false]
def ba8_5 : Array Bool := #[true, true, true, true, true]

/-! ### laws_FnExactTableText: function 6 -/
def laws_FnExactTableText.f (k : Nat) (l0_0 : List (S86)) : Option (Bool) := (laws_szTable.f l0_0 1048576).bind fun t209 => (if t209 < 0 then (some true) else ((laws_toTable.f k l0_0).bind fun t210 => ((spec_TableText.f k t210).bind fun t213 => ((laws_toTable.f k l0_0).bind fun t214 => ((impl_TableText.f k t214).bind fun t218 => (if t218.toList = t213.toList then ((laws_toTable.f k l0_0).bind fun t219 => ((laws_eqTable.f k t214 t219).bind fun t222 => (if t222 = true then (some true) else (some false)))) else (some false)))))))
theorem laws_FnExactTableText.mono : ∀ a0 k, LeO (laws_FnExactTableText.f k a0) (laws_FnExactTableText.f (k + 1) a0) := by
 intro a0 k
 unfold laws_FnExactTableText.f
 repeat' first
   | (with_reducible exact impl_TableText.mono _ _)
   | (with_reducible exact laws_eqTable.mono _ _ _)
   | (with_reducible exact laws_toTable.mono _ _)
   | (with_reducible exact spec_TableText.mono _ _)
   | (with_reducible exact LeO.refl _)
   | (with_reducible exact LeO.none _)
   | (with_reducible refine LeO.ite ?_ ?_)
   | (with_reducible refine LeO.bind ?_ (fun _ => ?_))
   | exact impl_TableText.mono _ _
   | exact laws_eqTable.mono _ _ _
   | exact laws_toTable.mono _ _
   | exact spec_TableText.mono _ _
   | exact LeO.none _
   | refine LeO.ite ?_ ?_
   | refine LeO.bind ?_ (fun _ => ?_)
set_option maxHeartbeats 8000000 in
set_option maxRecDepth 100000 in
theorem laws_FnExactTableText.calls (k : Nat) (A0_0 : Option Addr) (c0_0 : Nat) (l0_0 : List (S86)) (r : Bool) (w : World) (hT : TabOk w) (hr0_0 : Kd.C k86 w A0_0 l0_0.length l0_0) (hc0_0 : l0_0.length ≤ c0_0) (h : laws_FnExactTableText.f k l0_0 = some r) :
  Calls Tryd.prog 6 #[.agg #[.slice A0_0 l0_0.length c0_0]] w fun e w' => e = .returned (.bool r) ∧ Below w.heap.size w w' := by
 have hu43 := Tryd.underlying43
 have hu48 := Tryd.underlying48
 have HR0_0 := Aside0.mk hr0_0
 have HC0_0 := Aside0.mk hc0_0
 clear hr0_0 hc0_0
 have HB := Aside0.mk (Below.refl w.heap.size w)
 have H : ((laws_szTable.f l0_0 1048576).bind fun t209 => (if t209 < 0 then (some true) else ((laws_toTable.f k l0_0).bind fun t210 => ((spec_TableText.f k t210).bind fun t213 => ((laws_toTable.f k l0_0).bind fun t214 => ((impl_TableText.f k t214).bind fun t218 => (if t218.toList = t213.toList then ((laws_toTable.f k l0_0).bind fun t219 => ((laws_eqTable.f k t214 t219).bind fun t222 => (if t222 = true then (some true) else (some false)))) else (some false)))))))) = some r := h
 clear h
 replace H := Option.bind_eq_some_iff.mp H
 obtain ⟨t209, A20, H⟩ := H
 have A2 := Aside0.mk A20
 clear A20
 by_cases c3 : t209 < 0
 ·rw [if_pos c3] at H
  have c3b0 : decide (t209 < 0) = true := decide_eq_true c3
  clear c3
  obtain rfl := Option.some.inj H
  go_enter Tryd.func6, Tryd.ntmps6
  go_wp2_with (first | ((with_reducible refine gate_dst (N := 1) rfl ?_); refine box_event ?hg (N := 1) ?hd (cs := #[.slice A0_0 l0_0.length c0_0]) (t := 43) ?hr ?_; (case hd => rfl); (case hg => rfl); (case hr => first | (go_simp; done) | (go_simp; rfl)); intro gb208 hg w4 hbox hb; have BK208 := Aside0.mk hbox; have GW208 := ge_ HB hg; have GE208 := ge_ HB hg; replace HB := Aside0.mk (bt_ HB hb); clear hb hbox hg; have hcz5_0 := cz_ BK208 0 (.slice A0_0 l0_0.length c0_0); have hfz5_0 := blk_frozen BK208.out 0) | ((with_reducible refine gate_callee (f := 21) rfl ?_); refine gl_ (some 9) Tryd.func21 #[.agg #[.slice A0_0 l0_0.length c0_0], .int .i64 1048576] ?_; (with_reducible refine (laws_szTable.calls _ _ l0_0 1048576 t209 _ ?side1 ?side2 A2.out).mono ?_); (case side1 => exact cb_ HR0_0 HB); (case side2 => exact HC0_0.out); rintro e w6 ⟨rfl, hb⟩; refine ⟨_, rfl, ?_⟩; replace BK208 := Aside0.mk (bb_ BK208 hb); replace HB := Aside0.mk (bt_ HB hb); (try clear hb); (try clear hb2); (try clear hk); (try clear hi)))
  go_ret
  exact ⟨by first | rfl | (simp [errW_none, errW_some] <;> rfl) | (simp [*, errW_none, errW_some] <;> rfl), by repeat (first | (with_reducible first | exact HB.out | apply below_alloc | apply pw_below_drewN | apply below_drew1 | refine below_set ?_ GE208.out) | exact HB.out)⟩
 ·rw [if_neg c3] at H
  have c3b0 : decide (t209 < 0) = false := decide_eq_false c3
  clear c3
  replace H := Option.bind_eq_some_iff.mp H
  obtain ⟨t210, A70, H⟩ := H
  have A7 := Aside0.mk A70
  clear A70
  replace H := Option.bind_eq_some_iff.mp H
  obtain ⟨t213, A80, H⟩ := H
  have A8 := Aside0.mk A80
  clear A80
  replace H := Option.bind_eq_some_iff.mp H
  obtain ⟨t214, A90, H⟩ := H
  have A9 := Aside0.mk A90
  clear A90
  replace H := Option.bind_eq_some_iff.mp H
  obtain ⟨t218, A100, H⟩ := H
  have A10 := Aside0.mk A100
  clear A100
  by_cases c11 : t218.toList = t213.toList
  ·rw [if_pos c11] at H
   have c11b0 : (t218.toList == t213.toList) = true := beq_iff_eq.mpr c11
   have c11b1 : (t218.toList != t213.toList) = false := bne_eq_false_iff_eq.mpr c11
   clear c11
   replace H := Option.bind_eq_some_iff.mp H
   obtain ⟨t219, A120, H⟩ := H
   have A12 := Aside0.mk A120
   clear A120
   replace H := Option.bind_eq_some_iff.mp H
   obtain ⟨t222, A130, H⟩ := H
   have A13 := Aside0.mk A130
   clear A130
   by_cases c14 : t222 = true
   ·subst c14
    rw [if_pos rfl] at H
    obtain rfl := Option.some.inj H
    go_enter Tryd.func6, Tryd.ntmps6
    try go_wp2_with (first | ((with_reducible refine gate_dst (N := 1) rfl ?_); refine box_event ?hg (N := 1) ?hd (cs := #[.slice A0_0 l0_0.length c0_0]) (t := 43) ?hr ?_; (case hd => rfl); (case hg => rfl); (case hr => first | (go_simp; done) | (go_simp; rfl)); intro gb208 hg w15 hbox hb; have BK208 := Aside0.mk hbox; have GW208 := ge_ HB hg; have GE208 := ge_ HB hg; replace HB := Aside0.mk (bt_ HB hb); clear hb hbox hg; have hcz16_0 := cz_ BK208 0 (.slice A0_0 l0_0.length c0_0); have hfz16_0 := blk_frozen BK208.out 0) | ((with_reducible refine gate_callee (f := 21) rfl ?_); refine gl_ (some 9) Tryd.func21 #[.agg #[.slice A0_0 l0_0.length c0_0], .int .i64 1048576] ?_; (with_reducible refine (laws_szTable.calls _ _ l0_0 1048576 t209 _ ?side1 ?side2 A2.out).mono ?_); (case side1 => exact cb_ HR0_0 HB); (case side2 => exact HC0_0.out); rintro e w17 ⟨rfl, hb⟩; refine ⟨_, rfl, ?_⟩; replace BK208 := Aside0.mk (bb_ BK208 hb); replace HB := Aside0.mk (bt_ HB hb); (try clear hb); (try clear hb2); (try clear hk); (try clear hi); have hcz18_0 := cz_ BK208 0 (.slice A0_0 l0_0.length c0_0); have hfz18_0 := blk_frozen BK208.out 0) | ((with_reducible refine gate_callee (f := 23) rfl ?_); refine gl_ (some 13) Tryd.func23 #[.agg #[.slice A0_0 l0_0.length c0_0]] ?_; (with_reducible refine (laws_toTable.calls k _ _ l0_0 t210 _ ?side1 ?side2 A7.out).mono ?_); (case side1 => exact cb_ HR0_0 HB); (case side2 => exact HC0_0.out); rintro e w19 ⟨v211, rfl, ho0, hb⟩; refine ⟨_, rfl, ?_⟩; have HO212 := Aside0.mk (Kd.R_lower ho0 (bz_ HB)); replace BK208 := Aside0.mk (bb_ BK208 hb); replace HB := Aside0.mk (bt_ HB hb); (try clear hb); (try clear hb2); (try clear hk); (try clear hi); (try clear ho0); obtain ⟨Ao20, co20, eo20⟩ := Kd.R_slice HO212.out; subst eo20) | ((with_reducible refine gate_callee (f := 22) rfl ?_); refine gl_ (some 14) Tryd.func22 #[.agg #[.slice Ao20 t210.length co20]] ?_; (with_reducible refine (spec_TableText.calls k _ _ t210 t213 _ ?side1 ?side2 A8.out).mono ?_); (case side1 => exact rc_ HO212); (case side2 => exact (Kd.R_reads' HO212.out).2.1); rintro e w21 ⟨rfl, hb⟩; refine ⟨_, rfl, ?_⟩; replace HO212 := rb_ HO212 hb; replace BK208 := Aside0.mk (bb_ BK208 hb); replace HB := Aside0.mk (bt_ HB hb); (try clear hb); (try clear hb2); (try clear hk); (try clear hi); have hcz22_0 := cz_ BK208 0 (.slice A0_0 l0_0.length c0_0); have hfz22_0 := blk_frozen BK208.out 0) | ((with_reducible refine gate_callee (f := 23) rfl ?_); refine gl_ (some 16) Tryd.func23 #[.agg #[.slice A0_0 l0_0.length c0_0]] ?_; (with_reducible refine (laws_toTable.calls k _ _ l0_0 t214 _ ?side1 ?side2 A9.out).mono ?_); (case side1 => exact cb_ HR0_0 HB); (case side2 => exact HC0_0.out); rintro e w23 ⟨v215, rfl, ho0, hb⟩; refine ⟨_, rfl, ?_⟩; have HO216 := Aside0.mk (Kd.R_lower (Kd.R_new' ho0 (Kd.R_lt (hd_ HO212))) (bz_ HB)); replace HO212 := Aside0.mk (Kd.R_elder' (hd_ HO212) (Kd.R_base ho0) hb); replace BK208 := Aside0.mk (bb_ BK208 hb); replace HB := Aside0.mk (bt_ HB hb); (try clear hb); (try clear hb2); (try clear hk); (try clear hi); (try clear ho0)) | ((with_reducible refine gate_dst (N := 5) rfl ?_); refine box_event ?hg (N := 5) ?hd (cs := #[.slice none 0 0]) (t := 48) ?hr ?_; (case hd => rfl); (case hg => rfl); (case hr => first | (go_simp; done) | (go_simp; rfl)); intro gb217 hg w24 hbox hb; have BK217 := Aside0.mk hbox; have GW217 := ge_ HB hg; have GE217 := ge_ HB hg; have NB208_217 := nl_ BK208 hg; have NB217_208 := ng_ BK208 hg; replace HO212 := rb_ HO212 hb; replace HO216 := rb_ HO216 hb; replace HB := Aside0.mk (bt_ HB hb); replace BK208 := Aside0.mk (bb_ BK208 hb); clear hb hbox hg; obtain ⟨Ao25, co25, eo25⟩ := Kd.R_slice HO216.out; subst eo25; have hnb26 := NB217_208.out; have hnc26 := NB208_217.out; have hcz27_0 := cz_ BK217 0 (.slice none 0 0); have hfz27_0 := blk_frozen BK217.out 0) | ((with_reducible refine gate_callee (f := 24) rfl ?_); refine gl_ (some 18) Tryd.func24 #[.agg #[.slice Ao25 t214.length co25]] ?_; (with_reducible refine (impl_TableText.calls k _ _ t214 t218 _ (tb_ hT HB) ?side1 ?side2 A10.out).mono ?_); (case side1 => refine (Kd.R_reads' (e := 73) (base := w.heap.size) (ok := fun k_ => (True ∧ some k_ ≠ (.slice Ao20 t210.length co20 : Value).ownBlock)) (n := t214.length) (c := co25) ?_).2.2; exact (hs_ HO216 BK217)); (case side2 => exact (Kd.R_reads' HO216.out).2.1); rintro e w28 ⟨rfl, hb⟩; refine ⟨_, rfl, ?_⟩; replace HO212 := rs_ HO212 BK217 hb; replace HO216 := rs_ HO216 BK217 hb; replace BK208 := bf_ BK208 NB208_217 hb; replace BK217 := Aside0.mk (blk_below (g := gb217) (o := .cells #[.slice Ao25 t214.length co25] 48 (0, 0)) (by (with_reducible repeat (first | refine blk_drewN ?_ _ | refine blk_drew ?_ | refine blk_alloc ?_ _)); refine blk_put (cs := #[.slice none 0 0]) ?_ 0 _ rfl; (with_reducible repeat (first | refine blk_drewN ?_ _ | refine blk_drew ?_ | refine blk_alloc ?_ _)); exact BK217.out) hb); replace HB := Aside0.mk (bt_ HB hb); (try clear hb); (try clear hb2); (try clear hk); (try clear hi)))
    replace HO212 := Aside0.mk (Kd.R_drew HO212.out)
    replace HO216 := Aside0.mk (Kd.R_drew HO216.out)
    replace BK208 := Aside0.mk (blk_drew BK208.out)
    replace BK217 := Aside0.mk (blk_drew BK217.out)
    replace HB := Aside0.mk (below_drew1 HB.out)
    refine start_ (n := 5) (S := fun w' => w'.cell? ⟨gb217, 0, none⟩ = some (.slice Ao25 t214.length co25) ∧ w'.cell? ⟨gb208, 0, none⟩ = some (.slice A0_0 l0_0.length c0_0)) (ds := []) ba8_0 (by kernel_rfl) rfl rfl ⟨(blk_cell BK217.out 0).trans rfl, (blk_cell BK208.out 0).trans rfl⟩ (fun hHeld => ?_)
    generalize w28.drew = w29 at HO212 HO216 BK208 BK217 HB hHeld ⊢
    refine take_ (i := 0) (N := some 22) (v := ?_) (a' := ?_) ba8_1 rfl rfl (by kernel_rfl) (fun _ _ _ h => h) (Or.inl ⟨by rfl, ?_⟩) hHeld ?_ ?_
    rotate_left; · rintro w' ⟨s0, s1⟩; go_simp; with_reducible rfl
    rotate_left; · simp only [Act.put, List.setIfInBounds_toArray, List.set_cons_zero, List.set_cons_succ, i64_w, i32_w]; rfl
    refine take_ (i := 1) (N := some 23) (v := ?_) (a' := ?_) ba8_2 rfl rfl (by kernel_rfl) (fun _ _ _ h => h) (Or.inl ⟨by rfl, ?_⟩) hHeld ?_ ?_
    rotate_left; · rintro w' ⟨s0, s1⟩; go_simp; with_reducible rfl
    rotate_left; · simp only [Act.put, List.setIfInBounds_toArray, List.set_cons_zero, List.set_cons_succ, i64_w, i32_w]; rfl
    refine one_ (i := 2) (N := some 24) ba8_3 rfl rfl (by kernel_rfl) (by decide) (fun K hK => ?_)
    refine gz_ Tryd.func23 #[.agg #[.slice A0_0 l0_0.length c0_0]] ?_
    with_reducible refine (laws_toTable.calls k _ _ l0_0 t219 _ ?side1 ?side2 A12.out).mono ?_
    (case side1 => exact cb_ HR0_0 HB)
    (case side2 => exact HC0_0.out)
    rintro e w30 ⟨v220, rfl, ho0, hb⟩
    refine ⟨_, rfl, ?_⟩
    have HO221 := Aside0.mk (Kd.R_lower (Kd.R_new' (Kd.R_new' ho0 (Kd.R_lt (hd_ HO212))) (Kd.R_lt (hd_ HO216))) (bz_ HB))
    replace HO212 := Aside0.mk (Kd.R_elder' (hd_ HO212) (Kd.R_base ho0) hb)
    replace HO216 := Aside0.mk (Kd.R_elder' (hd_ HO216) (Kd.R_base ho0) hb)
    replace BK208 := Aside0.mk (bb_ BK208 hb)
    replace BK217 := Aside0.mk (bb_ BK217 hb)
    replace HB := Aside0.mk (bt_ HB hb)
    (try clear hb)
    (try clear hb2)
    (try clear hk)
    (try clear hi)
    (try clear ho0)
    obtain ⟨Ao31, co31, eo31⟩ := Kd.R_slice HO221.out
    (first | subst eo31 | (injection eo31 with f1_ f2_ f3_; have f4_ := f1_.symm; have f5_ := f3_.symm; clear f1_ f2_ f3_; subst f4_; subst f5_))
    refine hK.out _ _ ⟨(blk_cell BK217.out 0).trans rfl, (blk_cell BK208.out 0).trans rfl⟩ (fun hHeld => ?_)
    clear hK K
    refine nz_ 24 ?_
    refine one_ (i := 3) (N := some 25) ba8_4 rfl rfl (by kernel_rfl) (by decide) (fun K hK => ?_)
    refine gz_ Tryd.func25 #[.agg #[.slice Ao25 t214.length co25], .agg #[.slice Ao31 t219.length co31]] ?_
    with_reducible refine (laws_eqTable.calls k _ _ t214 _ _ t219 true _ ?side1 ?side2 ?side3 ?side4 A13.out).mono ?_
    (case side1 => exact rc_ HO216)
    (case side2 => exact (Kd.R_reads' HO216.out).2.1)
    (case side3 => exact rc_ HO221)
    (case side4 => exact (Kd.R_reads' HO221.out).2.1)
    rintro e w32 ⟨rfl, hb⟩
    refine ⟨_, rfl, ?_⟩
    replace HO212 := rb_ HO212 hb
    replace HO216 := rb_ HO216 hb
    replace HO221 := rb_ HO221 hb
    replace BK208 := Aside0.mk (bb_ BK208 hb)
    replace BK217 := Aside0.mk (bb_ BK217 hb)
    replace HB := Aside0.mk (bt_ HB hb)
    (try clear hb)
    (try clear hb2)
    (try clear hk)
    (try clear hi)
    refine hK.out _ _ ⟨(blk_cell BK217.out 0).trans rfl, (blk_cell BK208.out 0).trans rfl⟩ (fun hHeld => ?_)
    clear hK K
    refine nz_ 25 ?_
    refine pure_ (i := 4) (N := some 26) (v := ?_) (a' := ?_) ba8_5 rfl rfl (by kernel_rfl) (fun _ _ _ h => h) (Or.inl ⟨by rfl, ?_⟩) ?_ ?_
    rotate_left; · intro w'; go_simp; with_reducible rfl
    rotate_left; · simp only [Act.put, List.setIfInBounds_toArray, List.set_cons_zero, List.set_cons_succ, i64_w, i32_w]; rfl
    refine done_ (by kernel_rfl) ?_
    try go_wp2
    go_ret
    exact ⟨by first | rfl | (simp [errW_none, errW_some] <;> rfl) | (simp [*, errW_none, errW_some] <;> rfl), by repeat (first | (with_reducible first | exact HB.out | apply below_alloc | apply pw_below_drewN | apply below_drew1 | refine below_set ?_ GE208.out | refine below_set ?_ GE217.out) | exact HB.out)⟩
   ·replace c14 := Bool.eq_false_iff.mpr c14
    subst c14
    rw [if_neg (show ¬ (false = true) by decide)] at H
    obtain rfl := Option.some.inj H
    go_enter Tryd.func6, Tryd.ntmps6
    try go_wp2_with (first | ((with_reducible refine gate_dst (N := 1) rfl ?_); refine box_event ?hg (N := 1) ?hd (cs := #[.slice A0_0 l0_0.length c0_0]) (t := 43) ?hr ?_; (case hd => rfl); (case hg => rfl); (case hr => first | (go_simp; done) | (go_simp; rfl)); intro gb208 hg w33 hbox hb; have BK208 := Aside0.mk hbox; have GW208 := ge_ HB hg; have GE208 := ge_ HB hg; replace HB := Aside0.mk (bt_ HB hb); clear hb hbox hg; have hcz34_0 := cz_ BK208 0 (.slice A0_0 l0_0.length c0_0); have hfz34_0 := blk_frozen BK208.out 0) | ((with_reducible refine gate_callee (f := 21) rfl ?_); refine gl_ (some 9) Tryd.func21 #[.agg #[.slice A0_0 l0_0.length c0_0], .int .i64 1048576] ?_; (with_reducible refine (laws_szTable.calls _ _ l0_0 1048576 t209 _ ?side1 ?side2 A2.out).mono ?_); (case side1 => exact cb_ HR0_0 HB); (case side2 => exact HC0_0.out); rintro e w35 ⟨rfl, hb⟩; refine ⟨_, rfl, ?_⟩; replace BK208 := Aside0.mk (bb_ BK208 hb); replace HB := Aside0.mk (bt_ HB hb); (try clear hb); (try clear hb2); (try clear hk); (try clear hi); have hcz36_0 := cz_ BK208 0 (.slice A0_0 l0_0.length c0_0); have hfz36_0 := blk_frozen BK208.out 0) | ((with_reducible refine gate_callee (f := 23) rfl ?_); refine gl_ (some 13) Tryd.func23 #[.agg #[.slice A0_0 l0_0.length c0_0]] ?_; (with_reducible refine (laws_toTable.calls k _ _ l0_0 t210 _ ?side1 ?side2 A7.out).mono ?_); (case side1 => exact cb_ HR0_0 HB); (case side2 => exact HC0_0.out); rintro e w37 ⟨v211, rfl, ho0, hb⟩; refine ⟨_, rfl, ?_⟩; have HO212 := Aside0.mk (Kd.R_lower ho0 (bz_ HB)); replace BK208 := Aside0.mk (bb_ BK208 hb); replace HB := Aside0.mk (bt_ HB hb); (try clear hb); (try clear hb2); (try clear hk); (try clear hi); (try clear ho0); obtain ⟨Ao38, co38, eo38⟩ := Kd.R_slice HO212.out; subst eo38) | ((with_reducible refine gate_callee (f := 22) rfl ?_); refine gl_ (some 14) Tryd.func22 #[.agg #[.slice Ao38 t210.length co38]] ?_; (with_reducible refine (spec_TableText.calls k _ _ t210 t213 _ ?side1 ?side2 A8.out).mono ?_); (case side1 => exact rc_ HO212); (case side2 => exact (Kd.R_reads' HO212.out).2.1); rintro e w39 ⟨rfl, hb⟩; refine ⟨_, rfl, ?_⟩; replace HO212 := rb_ HO212 hb; replace BK208 := Aside0.mk (bb_ BK208 hb); replace HB := Aside0.mk (bt_ HB hb); (try clear hb); (try clear hb2); (try clear hk); (try clear hi); have hcz40_0 := cz_ BK208 0 (.slice A0_0 l0_0.length c0_0); have hfz40_0 := blk_frozen BK208.out 0) | ((with_reducible refine gate_callee (f := 23) rfl ?_); refine gl_ (some 16) Tryd.func23 #[.agg #[.slice A0_0 l0_0.length c0_0]] ?_; (with_reducible refine (laws_toTable.calls k _ _ l0_0 t214 _ ?side1 ?side2 A9.out).mono ?_); (case side1 => exact cb_ HR0_0 HB); (case side2 => exact HC0_0.out); rintro e w41 ⟨v215, rfl, ho0, hb⟩; refine ⟨_, rfl, ?_⟩; have HO216 := Aside0.mk (Kd.R_lower (Kd.R_new' ho0 (Kd.R_lt (hd_ HO212))) (bz_ HB)); replace HO212 := Aside0.mk (Kd.R_elder' (hd_ HO212) (Kd.R_base ho0) hb); replace BK208 := Aside0.mk (bb_ BK208 hb); replace HB := Aside0.mk (bt_ HB hb); (try clear hb); (try clear hb2); (try clear hk); (try clear hi); (try clear ho0)) | ((with_reducible refine gate_dst (N := 5) rfl ?_); refine box_event ?hg (N := 5) ?hd (cs := #[.slice none 0 0]) (t := 48) ?hr ?_; (case hd => rfl); (case hg => rfl); (case hr => first | (go_simp; done) | (go_simp; rfl)); intro gb217 hg w42 hbox hb; have BK217 := Aside0.mk hbox; have GW217 := ge_ HB hg; have GE217 := ge_ HB hg; have NB208_217 := nl_ BK208 hg; have NB217_208 := ng_ BK208 hg; replace HO212 := rb_ HO212 hb; replace HO216 := rb_ HO216 hb; replace HB := Aside0.mk (bt_ HB hb); replace BK208 := Aside0.mk (bb_ BK208 hb); clear hb hbox hg; obtain ⟨Ao43, co43, eo43⟩ := Kd.R_slice HO216.out; subst eo43; have hnb44 := NB217_208.out; have hnc44 := NB208_217.out; have hcz45_0 := cz_ BK217 0 (.slice none 0 0); have hfz45_0 := blk_frozen BK217.out 0) | ((with_reducible refine gate_callee (f := 24) rfl ?_); refine gl_ (some 18) Tryd.func24 #[.agg #[.slice Ao43 t214.length co43]] ?_; (with_reducible refine (impl_TableText.calls k _ _ t214 t218 _ (tb_ hT HB) ?side1 ?side2 A10.out).mono ?_); (case side1 => refine (Kd.R_reads' (e := 73) (base := w.heap.size) (ok := fun k_ => (True ∧ some k_ ≠ (.slice Ao38 t210.length co38 : Value).ownBlock)) (n := t214.length) (c := co43) ?_).2.2; exact (hs_ HO216 BK217)); (case side2 => exact (Kd.R_reads' HO216.out).2.1); rintro e w46 ⟨rfl, hb⟩; refine ⟨_, rfl, ?_⟩; replace HO212 := rs_ HO212 BK217 hb; replace HO216 := rs_ HO216 BK217 hb; replace BK208 := bf_ BK208 NB208_217 hb; replace BK217 := Aside0.mk (blk_below (g := gb217) (o := .cells #[.slice Ao43 t214.length co43] 48 (0, 0)) (by (with_reducible repeat (first | refine blk_drewN ?_ _ | refine blk_drew ?_ | refine blk_alloc ?_ _)); refine blk_put (cs := #[.slice none 0 0]) ?_ 0 _ rfl; (with_reducible repeat (first | refine blk_drewN ?_ _ | refine blk_drew ?_ | refine blk_alloc ?_ _)); exact BK217.out) hb); replace HB := Aside0.mk (bt_ HB hb); (try clear hb); (try clear hb2); (try clear hk); (try clear hi)))
    replace HO212 := Aside0.mk (Kd.R_drew HO212.out)
    replace HO216 := Aside0.mk (Kd.R_drew HO216.out)
    replace BK208 := Aside0.mk (blk_drew BK208.out)
    replace BK217 := Aside0.mk (blk_drew BK217.out)
    replace HB := Aside0.mk (below_drew1 HB.out)
    refine start_ (n := 5) (S := fun w' => w'.cell? ⟨gb217, 0, none⟩ = some (.slice Ao43 t214.length co43) ∧ w'.cell? ⟨gb208, 0, none⟩ = some (.slice A0_0 l0_0.length c0_0)) (ds := []) ba8_0 (by kernel_rfl) rfl rfl ⟨(blk_cell BK217.out 0).trans rfl, (blk_cell BK208.out 0).trans rfl⟩ (fun hHeld => ?_)
    generalize w46.drew = w47 at HO212 HO216 BK208 BK217 HB hHeld ⊢
    refine take_ (i := 0) (N := some 22) (v := ?_) (a' := ?_) ba8_1 rfl rfl (by kernel_rfl) (fun _ _ _ h => h) (Or.inl ⟨by rfl, ?_⟩) hHeld ?_ ?_
    rotate_left; · rintro w' ⟨s0, s1⟩; go_simp; with_reducible rfl
    rotate_left; · simp only [Act.put, List.setIfInBounds_toArray, List.set_cons_zero, List.set_cons_succ, i64_w, i32_w]; rfl
    refine take_ (i := 1) (N := some 23) (v := ?_) (a' := ?_) ba8_2 rfl rfl (by kernel_rfl) (fun _ _ _ h => h) (Or.inl ⟨by rfl, ?_⟩) hHeld ?_ ?_
    rotate_left; · rintro w' ⟨s0, s1⟩; go_simp; with_reducible rfl
    rotate_left; · simp only [Act.put, List.setIfInBounds_toArray, List.set_cons_zero, List.set_cons_succ, i64_w, i32_w]; rfl
    refine one_ (i := 2) (N := some 24) ba8_3 rfl rfl (by kernel_rfl) (by decide) (fun K hK => ?_)
    refine gz_ Tryd.func23 #[.agg #[.slice A0_0 l0_0.length c0_0]] ?_
    with_reducible refine (laws_toTable.calls k _ _ l0_0 t219 _ ?side1 ?side2 A12.out).mono ?_
    (case side1 => exact cb_ HR0_0 HB)
    (case side2 => exact HC0_0.out)
    rintro e w48 ⟨v220, rfl, ho0, hb⟩
    refine ⟨_, rfl, ?_⟩
    have HO221 := Aside0.mk (Kd.R_lower (Kd.R_new' (Kd.R_new' ho0 (Kd.R_lt (hd_ HO212))) (Kd.R_lt (hd_ HO216))) (bz_ HB))
    replace HO212 := Aside0.mk (Kd.R_elder' (hd_ HO212) (Kd.R_base ho0) hb)
    replace HO216 := Aside0.mk (Kd.R_elder' (hd_ HO216) (Kd.R_base ho0) hb)
    replace BK208 := Aside0.mk (bb_ BK208 hb)
    replace BK217 := Aside0.mk (bb_ BK217 hb)
    replace HB := Aside0.mk (bt_ HB hb)
    (try clear hb)
    (try clear hb2)
    (try clear hk)
    (try clear hi)
    (try clear ho0)
    obtain ⟨Ao49, co49, eo49⟩ := Kd.R_slice HO221.out
    (first | subst eo49 | (injection eo49 with f1_ f2_ f3_; have f4_ := f1_.symm; have f5_ := f3_.symm; clear f1_ f2_ f3_; subst f4_; subst f5_))
    refine hK.out _ _ ⟨(blk_cell BK217.out 0).trans rfl, (blk_cell BK208.out 0).trans rfl⟩ (fun hHeld => ?_)
    clear hK K
    refine nz_ 24 ?_
    refine one_ (i := 3) (N := some 25) ba8_4 rfl rfl (by kernel_rfl) (by decide) (fun K hK => ?_)
    refine gz_ Tryd.func25 #[.agg #[.slice Ao43 t214.length co43], .agg #[.slice Ao49 t219.length co49]] ?_
    with_reducible refine (laws_eqTable.calls k _ _ t214 _ _ t219 false _ ?side1 ?side2 ?side3 ?side4 A13.out).mono ?_
    (case side1 => exact rc_ HO216)
    (case side2 => exact (Kd.R_reads' HO216.out).2.1)
    (case side3 => exact rc_ HO221)
    (case side4 => exact (Kd.R_reads' HO221.out).2.1)
    rintro e w50 ⟨rfl, hb⟩
    refine ⟨_, rfl, ?_⟩
    replace HO212 := rb_ HO212 hb
    replace HO216 := rb_ HO216 hb
    replace HO221 := rb_ HO221 hb
    replace BK208 := Aside0.mk (bb_ BK208 hb)
    replace BK217 := Aside0.mk (bb_ BK217 hb)
    replace HB := Aside0.mk (bt_ HB hb)
    (try clear hb)
    (try clear hb2)
    (try clear hk)
    (try clear hi)
    refine hK.out _ _ ⟨(blk_cell BK217.out 0).trans rfl, (blk_cell BK208.out 0).trans rfl⟩ (fun hHeld => ?_)
    clear hK K
    refine nz_ 25 ?_
    refine pure_ (i := 4) (N := some 26) (v := ?_) (a' := ?_) ba8_5 rfl rfl (by kernel_rfl) (fun _ _ _ h => h) (Or.inl ⟨by rfl, ?_⟩) ?_ ?_
    rotate_left; · intro w'; go_simp; with_reducible rfl
    rotate_left; · simp only [Act.put, List.setIfInBounds_toArray, List.set_cons_zero, List.set_cons_succ, i64_w, i32_w]; rfl
    refine done_ (by kernel_rfl) ?_
    try go_wp2
    go_ret
    exact ⟨by first | rfl | (simp [errW_none, errW_some] <;> rfl) | (simp [*, errW_none, errW_some] <;> rfl), by repeat (first | (with_reducible first | exact HB.out | apply below_alloc | apply pw_below_drewN | apply below_drew1 | refine below_set ?_ GE208.out | refine below_set ?_ GE217.out) | exact HB.out)⟩
  ·rw [if_neg c11] at H
   have c11b0 : (t218.toList == t213.toList) = false := beq_eq_false_iff_ne.mpr c11
   have c11b1 : (t218.toList != t213.toList) = true := bne_iff_ne.mpr c11
   obtain rfl := Option.some.inj H
   go_enter Tryd.func6, Tryd.ntmps6
   go_wp2_with (first | ((with_reducible refine gate_dst (N := 1) rfl ?_); refine box_event ?hg (N := 1) ?hd (cs := #[.slice A0_0 l0_0.length c0_0]) (t := 43) ?hr ?_; (case hd => rfl); (case hg => rfl); (case hr => first | (go_simp; done) | (go_simp; rfl)); intro gb208 hg w51 hbox hb; have BK208 := Aside0.mk hbox; have GW208 := ge_ HB hg; have GE208 := ge_ HB hg; replace HB := Aside0.mk (bt_ HB hb); clear hb hbox hg; have hcz52_0 := cz_ BK208 0 (.slice A0_0 l0_0.length c0_0); have hfz52_0 := blk_frozen BK208.out 0) | ((with_reducible refine gate_callee (f := 21) rfl ?_); refine gl_ (some 9) Tryd.func21 #[.agg #[.slice A0_0 l0_0.length c0_0], .int .i64 1048576] ?_; (with_reducible refine (laws_szTable.calls _ _ l0_0 1048576 t209 _ ?side1 ?side2 A2.out).mono ?_); (case side1 => exact cb_ HR0_0 HB); (case side2 => exact HC0_0.out); rintro e w53 ⟨rfl, hb⟩; refine ⟨_, rfl, ?_⟩; replace BK208 := Aside0.mk (bb_ BK208 hb); replace HB := Aside0.mk (bt_ HB hb); (try clear hb); (try clear hb2); (try clear hk); (try clear hi); have hcz54_0 := cz_ BK208 0 (.slice A0_0 l0_0.length c0_0); have hfz54_0 := blk_frozen BK208.out 0) | ((with_reducible refine gate_callee (f := 23) rfl ?_); refine gl_ (some 13) Tryd.func23 #[.agg #[.slice A0_0 l0_0.length c0_0]] ?_; (with_reducible refine (laws_toTable.calls k _ _ l0_0 t210 _ ?side1 ?side2 A7.out).mono ?_); (case side1 => exact cb_ HR0_0 HB); (case side2 => exact HC0_0.out); rintro e w55 ⟨v211, rfl, ho0, hb⟩; refine ⟨_, rfl, ?_⟩; have HO212 := Aside0.mk (Kd.R_lower ho0 (bz_ HB)); replace BK208 := Aside0.mk (bb_ BK208 hb); replace HB := Aside0.mk (bt_ HB hb); (try clear hb); (try clear hb2); (try clear hk); (try clear hi); (try clear ho0); obtain ⟨Ao56, co56, eo56⟩ := Kd.R_slice HO212.out; subst eo56) | ((with_reducible refine gate_callee (f := 22) rfl ?_); refine gl_ (some 14) Tryd.func22 #[.agg #[.slice Ao56 t210.length co56]] ?_; (with_reducible refine (spec_TableText.calls k _ _ t210 t213 _ ?side1 ?side2 A8.out).mono ?_); (case side1 => exact rc_ HO212); (case side2 => exact (Kd.R_reads' HO212.out).2.1); rintro e w57 ⟨rfl, hb⟩; refine ⟨_, rfl, ?_⟩; replace HO212 := rb_ HO212 hb; replace BK208 := Aside0.mk (bb_ BK208 hb); replace HB := Aside0.mk (bt_ HB hb); (try clear hb); (try clear hb2); (try clear hk); (try clear hi); have hcz58_0 := cz_ BK208 0 (.slice A0_0 l0_0.length c0_0); have hfz58_0 := blk_frozen BK208.out 0) | ((with_reducible refine gate_callee (f := 23) rfl ?_); refine gl_ (some 16) Tryd.func23 #[.agg #[.slice A0_0 l0_0.length c0_0]] ?_; (with_reducible refine (laws_toTable.calls k _ _ l0_0 t214 _ ?side1 ?side2 A9.out).mono ?_); (case side1 => exact cb_ HR0_0 HB); (case side2 => exact HC0_0.out); rintro e w59 ⟨v215, rfl, ho0, hb⟩; refine ⟨_, rfl, ?_⟩; have HO216 := Aside0.mk (Kd.R_lower (Kd.R_new' ho0 (Kd.R_lt (hd_ HO212))) (bz_ HB)); replace HO212 := Aside0.mk (Kd.R_elder' (hd_ HO212) (Kd.R_base ho0) hb); replace BK208 := Aside0.mk (bb_ BK208 hb); replace HB := Aside0.mk (bt_ HB hb); (try clear hb); (try clear hb2); (try clear hk); (try clear hi); (try clear ho0)) | ((with_reducible refine gate_dst (N := 5) rfl ?_); refine box_event ?hg (N := 5) ?hd (cs := #[.slice none 0 0]) (t := 48) ?hr ?_; (case hd => rfl); (case hg => rfl); (case hr => first | (go_simp; done) | (go_simp; rfl)); intro gb217 hg w60 hbox hb; have BK217 := Aside0.mk hbox; have GW217 := ge_ HB hg; have GE217 := ge_ HB hg; have NB208_217 := nl_ BK208 hg; have NB217_208 := ng_ BK208 hg; replace HO212 := rb_ HO212 hb; replace HO216 := rb_ HO216 hb; replace HB := Aside0.mk (bt_ HB hb); replace BK208 := Aside0.mk (bb_ BK208 hb); clear hb hbox hg; obtain ⟨Ao61, co61, eo61⟩ := Kd.R_slice HO216.out; subst eo61; have hnb62 := NB217_208.out; have hnc62 := NB208_217.out; have hcz63_0 := cz_ BK217 0 (.slice none 0 0); have hfz63_0 := blk_frozen BK217.out 0) | ((with_reducible refine gate_callee (f := 24) rfl ?_); refine gl_ (some 18) Tryd.func24 #[.agg #[.slice Ao61 t214.length co61]] ?_; (with_reducible refine (impl_TableText.calls k _ _ t214 t218 _ (tb_ hT HB) ?side1 ?side2 A10.out).mono ?_); (case side1 => refine (Kd.R_reads' (e := 73) (base := w.heap.size) (ok := fun k_ => (True ∧ some k_ ≠ (.slice Ao56 t210.length co56 : Value).ownBlock)) (n := t214.length) (c := co61) ?_).2.2; exact (hs_ HO216 BK217)); (case side2 => exact (Kd.R_reads' HO216.out).2.1); rintro e w64 ⟨rfl, hb⟩; refine ⟨_, rfl, ?_⟩; replace HO212 := rs_ HO212 BK217 hb; replace HO216 := rs_ HO216 BK217 hb; replace BK208 := bf_ BK208 NB208_217 hb; replace BK217 := Aside0.mk (blk_below (g := gb217) (o := .cells #[.slice Ao61 t214.length co61] 48 (0, 0)) (by (with_reducible repeat (first | refine blk_drewN ?_ _ | refine blk_drew ?_ | refine blk_alloc ?_ _)); refine blk_put (cs := #[.slice none 0 0]) ?_ 0 _ rfl; (with_reducible repeat (first | refine blk_drewN ?_ _ | refine blk_drew ?_ | refine blk_alloc ?_ _)); exact BK217.out) hb); replace HB := Aside0.mk (bt_ HB hb); (try clear hb); (try clear hb2); (try clear hk); (try clear hi)))
   go_ret
   exact ⟨by first | rfl | (simp [errW_none, errW_some] <;> rfl) | (simp [*, errW_none, errW_some] <;> rfl), by repeat (first | (with_reducible first | exact HB.out | apply below_alloc | apply pw_below_drewN | apply below_drew1 | refine below_set ?_ GE208.out | refine below_set ?_ GE217.out) | exact HB.out)⟩

end Go.Proofs.YtmbaemcnjdgemaaDoor.QFnExactTableText
