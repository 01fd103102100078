/- Contracts of functions that the law reaches: what each call returns and what it leaves in memory. Made by this session over the print of the kit. -/
import Derived.Test.YtjepabdgmholjaaQFnExactSameTablex0
import Derived.Test.YtjepabdgmholjaaQFnExactSameTablex3
import Derived.Test.YtjepabdgmholjaaQFnExactSameTablex4
namespace Go.Proofs.Ytjepabdgmholjaa.QFnExactSameTable
open Go.RowKit Go.Proofs.YtjepabdgmholjaaU.PrintWords Go.Proofs.YtjepabdgmholjaaU.PrintLast Go.Proofs.YtjepabdgmholjaaU.PrintMore
attribute [local go_sem] max2_int min2_int max_two min_two max_three min_three max_four min_four   -- for this text's walks alone
set_option linter.unusedVariables false
set_option linter.unusedSimpArgs false
def ba5_0 : Array Bool := #[false, false, false, false, false, false, false, false, false, false, false, false, false, false]
def ba5_1 : Array Bool := #[true, false, false, false, false, false, false, false, false, false, false, false, false, false]
def ba5_2 : Array Bool := #[true, true, false, false, false, false, false, false, false, false, false, false, false, false]
def ba5_3 : Array Bool := #[true, true, true, false, false, false, false, false, false, false, false, false, false, false]
def ba5_4 : Array Bool := #[true, true, true, true, false, false, false, false, false, false, false, false, false, false]
def ba5_5 : Array Bool := #[true, true, true, true, true, false, false, false, false, false, false, false, false, false]
def ba5_6 : Array Bool := #[true, true, true, true, true, true, false, false, false, false, false, false, false, false]
def ba5_7 : Array Bool := #[true, true, true, true, true, true, true, false, false, false, false, false, false, false]
def ba5_8 : Array Bool := #[true, true, true, true, true, true, true, true, false, false, false, false, false, false]
def ba5_9 : Array Bool := #[true, true, true, true, true, true, true, true, false, true, false, false, false, false]
def ba5_10 : Array Bool := #[true, true, true, true, true, true, true, true, true, true, false, false, false, false]
def ba5_11 : Array Bool := #[true, true, true, true, true, true, true, true, true, true, true, false, false, false]
def ba5_12 : Array Bool := #[true, true, true, true, true, true, true, true, true, true, true, true, false, false]
def ba5_13 : Array Bool := #[true, true, true, true, true, true, true, true, true, true, true, true, true, false]
def ba5_14 : Array Bool := #[true, true, true, true, true, true, true, true, true, true, true, true, true, true]
def ba5_15 : Array Bool := #[true, true, true, true, true, true, true, true, true, false, false, false, false, false]

/-! ### spec_SameTable: function 28 -/
def spec_SameTable.f (k : Nat) (l0_0 : List (S29)) (l1_0 : List (S29)) : Option (Bool) := (spec_TableOk.f k l0_0).bind fun t165 => (if t165 = true then ((spec_TableOk.f k l1_0).bind fun t166 => (if t166 = true then ((spec_l02Paint.f k l0_0).bind fun t167 => ((spec_l02Paint.f k l1_0).bind fun t170 => ((spec_l02SamePaint.f k t167 t170).bind fun t173 => (some t173)))) else (some false))) else (some false))
theorem spec_SameTable.mono : ∀ a0 a1 k, LeO (spec_SameTable.f k a0 a1) (spec_SameTable.f (k + 1) a0 a1) := by
 intro a0 a1 k
 unfold spec_SameTable.f
 repeat' first
   | (with_reducible exact spec_TableOk.mono _ _)
   | (with_reducible exact spec_l02Paint.mono _ _)
   | (with_reducible exact spec_l02SamePaint.mono _ _ _)
   | (with_reducible exact LeO.refl _)
   | (with_reducible exact LeO.none _)
   | (with_reducible refine LeO.ite ?_ ?_)
   | (with_reducible refine LeO.bind ?_ (fun _ => ?_))
   | exact spec_TableOk.mono _ _
   | exact spec_l02Paint.mono _ _
   | exact spec_l02SamePaint.mono _ _ _
   | exact LeO.none _
   | refine LeO.ite ?_ ?_
   | refine LeO.bind ?_ (fun _ => ?_)
def spec_SameTable.T1 : Bool × List (List Nat × List Nat) := (true, [([], []), ([0], [0]), ([1, 1], [1]), ([2], [2]), ([3, 2, 2], [2, 3]), ([2, 4], [2, 4]), ([5, 4], [5]), ([6], [6]), ([7, 6, 6], [6, 7]), ([6], [6]), ([9, 8, 6], [6, 9]), ([8, 10, 10, 6], [6, 8, 10]), ([6, 11], [6, 11]), ([12, 11, 0, 1, 2, 3, 4, 5, 6, 7, 8, 9, 10, 11, 12], [12])])
def spec_SameTable.B1 : List Nat := [0, 1, 3, 7, 15, 31, 63, 127, 255, 127, 1023, 2047, 4095, 8191]
theorem spec_SameTable.tab1 : rtab .any (opsOf Try.f28 1) = spec_SameTable.T1 := by kernel_rfl
theorem spec_SameTable.bits1 : waitsOk spec_SameTable.T1.2 spec_SameTable.B1 = true := by kernel_rfl
set_option maxHeartbeats 8000000 in
set_option maxRecDepth 100000 in
theorem spec_SameTable.calls (k : Nat) (A0_0 : Option Addr) (c0_0 : Nat) (l0_0 : List (S29)) (A1_0 : Option Addr) (c1_0 : Nat) (l1_0 : List (S29)) (r : Bool) (w : World) (hr0_0 : Kd.C k29 w A0_0 l0_0.length l0_0) (hc0_0 : l0_0.length ≤ c0_0) (hr1_0 : Kd.C k29 w A1_0 l1_0.length l1_0) (hc1_0 : l1_0.length ≤ c1_0) (h : spec_SameTable.f k l0_0 l1_0 = some r) :
  Calls Try.prog 28 #[.agg #[.slice A0_0 l0_0.length c0_0], .agg #[.slice A1_0 l1_0.length c1_0]] w fun e w' => e = .returned (.bool r) ∧ Below w.heap.size w w' := by
 have hu34 := Try.underlying34
 have HR0_0 := Aside0.mk hr0_0
 have HC0_0 := Aside0.mk hc0_0
 clear hr0_0 hc0_0
 have HR1_0 := Aside0.mk hr1_0
 have HC1_0 := Aside0.mk hc1_0
 clear hr1_0 hc1_0
 have HB := Aside0.mk (Below.refl w.heap.size w)
 have H : ((spec_TableOk.f k l0_0).bind fun t165 => (if t165 = true then ((spec_TableOk.f k l1_0).bind fun t166 => (if t166 = true then ((spec_l02Paint.f k l0_0).bind fun t167 => ((spec_l02Paint.f k l1_0).bind fun t170 => ((spec_l02SamePaint.f k t167 t170).bind fun t173 => (some t173)))) else (some false))) else (some false))) = some r := h
 clear h
 replace H := Option.bind_eq_some_iff.mp H
 obtain ⟨t165, A30, H⟩ := H
 have A3 := Aside0.mk A30
 clear A30
 by_cases c4 : t165 = true
 ·subst c4
  rw [if_pos rfl] at H
  replace H := Option.bind_eq_some_iff.mp H
  obtain ⟨t166, A50, H⟩ := H
  have A5 := Aside0.mk A50
  clear A50
  by_cases c6 : t166 = true
  ·subst c6
   rw [if_pos rfl] at H
   replace H := Option.bind_eq_some_iff.mp H
   obtain ⟨t167, A70, H⟩ := H
   have A7 := Aside0.mk A70
   clear A70
   replace H := Option.bind_eq_some_iff.mp H
   obtain ⟨t170, A80, H⟩ := H
   have A8 := Aside0.mk A80
   clear A80
   replace H := Option.bind_eq_some_iff.mp H
   obtain ⟨t173, A90, H⟩ := H
   have A9 := Aside0.mk A90
   clear A90
   obtain rfl := Option.some.inj H
   go_enter Try.func28, Try.ntmps28
   try go_wp2_with (first | ((with_reducible refine gate_dst (N := 2) rfl ?_); refine box_event ?hg (N := 2) ?hd (cs := #[.slice A0_0 l0_0.length c0_0]) (t := 34) ?hr ?_; (case hd => rfl); (case hg => rfl); (case hr => first | (go_simp; done) | (go_simp; rfl)); intro gb163 hg w10 hbox hb; have BK163 := Aside0.mk hbox; have GW163 := ge_ HB hg; have GE163 := ge_ HB hg; replace HB := Aside0.mk (bt_ HB hb); clear hb hbox hg) | ((with_reducible refine gate_dst (N := 3) rfl ?_); refine box_event ?hg (N := 3) ?hd (cs := #[.slice A1_0 l1_0.length c1_0]) (t := 34) ?hr ?_; (case hd => rfl); (case hg => rfl); (case hr => first | (go_simp; done) | (go_simp; rfl)); intro gb164 hg w11 hbox hb; have BK164 := Aside0.mk hbox; have GW164 := ge_ HB hg; have GE164 := ge_ HB hg; have NB163_164 := nl_ BK163 hg; have NB164_163 := ng_ BK163 hg; replace HB := Aside0.mk (bt_ HB hb); replace BK163 := Aside0.mk (bb_ BK163 hb); clear hb hbox hg))
   replace BK163 := Aside0.mk (blk_drew BK163.out)
   replace BK164 := Aside0.mk (blk_drew BK164.out)
   replace HB := Aside0.mk (below_drew1 HB.out)
   refine start_ (n := 14) (S := fun w' => w'.cell? ⟨gb163, 0, none⟩ = some (.slice A0_0 l0_0.length c0_0) ∧ w'.cell? ⟨gb164, 0, none⟩ = some (.slice A1_0 l1_0.length c1_0)) (ds := []) ba5_0 (by kernel_rfl) rfl rfl ⟨(blk_cell BK163.out 0).trans rfl, (blk_cell BK164.out 0).trans rfl⟩ (fun hHeld => ?_); refine with_tabW spec_SameTable.tab1 spec_SameTable.bits1 (fun HT_ HW_ => ?_)
   generalize w11.drew = w12 at BK163 BK164 HB hHeld ⊢
   refine pt_ 0 5 ba5_1 HT_ HW_ hHeld ?_
   refine one_ (i := 1) (N := some 6) ba5_2 rfl rfl (one_of HT_.out (by kernel_rfl)) (by decide) (fun K hK => ?_)
   refine gz_ Try.func42 #[.agg #[.slice A0_0 l0_0.length c0_0]] ?_
   with_reducible refine (spec_TableOk.calls k _ _ l0_0 true _ ?side1 ?side2 A3.out).mono ?_
   (case side1 => exact cb_ HR0_0 HB)
   (case side2 => exact HC0_0.out)
   rintro e w13 ⟨rfl, hb⟩
   refine ⟨_, rfl, ?_⟩
   replace BK163 := Aside0.mk (bb_ BK163 hb)
   replace BK164 := Aside0.mk (bb_ BK164 hb)
   replace HB := Aside0.mk (bt_ HB hb)
   (try clear hb)
   (try clear hb2)
   (try clear hk)
   (try clear hi)
   refine hK.out _ _ ⟨(blk_cell BK163.out 0).trans rfl, (blk_cell BK164.out 0).trans rfl⟩ (fun hHeld => ?_)
   clear hK K
   refine nz_ 6 ?_
   refine pz_ 2 7 ba5_3 HT_ ?_
   refine pt_ 3 8 ba5_4 HT_ HW_ hHeld ?_
   refine one_ (i := 4) (N := some 9) ba5_5 rfl rfl (one_of HT_.out (by kernel_rfl)) (by decide) (fun K hK => ?_)
   refine gz_ Try.func42 #[.agg #[.slice A1_0 l1_0.length c1_0]] ?_
   with_reducible refine (spec_TableOk.calls k _ _ l1_0 true _ ?side1 ?side2 A5.out).mono ?_
   (case side1 => exact cb_ HR1_0 HB)
   (case side2 => exact HC1_0.out)
   rintro e w14 ⟨rfl, hb⟩
   refine ⟨_, rfl, ?_⟩
   replace BK163 := Aside0.mk (bb_ BK163 hb)
   replace BK164 := Aside0.mk (bb_ BK164 hb)
   replace HB := Aside0.mk (bt_ HB hb)
   (try clear hb)
   (try clear hb2)
   (try clear hk)
   (try clear hi)
   refine hK.out _ _ ⟨(blk_cell BK163.out 0).trans rfl, (blk_cell BK164.out 0).trans rfl⟩ (fun hHeld => ?_)
   clear hK K
   refine nz_ 9 ?_
   refine pz_ 5 10 ba5_6 HT_ ?_
   refine pz_ 6 11 ba5_7 HT_ ?_
   refine pt_ 7 12 ba5_8 HT_ HW_ hHeld ?_
   refine pt_ 9 14 ba5_9 HT_ HW_ hHeld ?_
   refine one_ (i := 8) (N := some 13) ba5_10 rfl rfl (one_of HT_.out (by kernel_rfl)) (by decide) (fun K hK => ?_)
   refine gz_ Try.func63 #[.agg #[.slice A0_0 l0_0.length c0_0]] ?_
   with_reducible refine (spec_l02Paint.calls k _ _ l0_0 t167 _ ?side1 ?side2 A7.out).mono ?_
   (case side1 => exact cb_ HR0_0 HB)
   (case side2 => exact HC0_0.out)
   rintro e w15 ⟨v168, rfl, ho0, hb⟩
   refine ⟨_, rfl, ?_⟩
   have HO169 := Aside0.mk (Kd.R_lower ho0 (bz_ HB))
   replace BK163 := Aside0.mk (bb_ BK163 hb)
   replace BK164 := Aside0.mk (bb_ BK164 hb)
   replace HB := Aside0.mk (bt_ HB hb)
   (try clear hb)
   (try clear hb2)
   (try clear hk)
   (try clear hi)
   (try clear ho0)
   refine hK.out _ _ ⟨(blk_cell BK163.out 0).trans rfl, (blk_cell BK164.out 0).trans rfl⟩ (fun hHeld => ?_)
   clear hK K
   refine nz_ 13 ?_
   refine one_ (i := 10) (N := some 15) ba5_11 rfl rfl (one_of HT_.out (by kernel_rfl)) (by decide) (fun K hK => ?_)
   refine gz_ Try.func63 #[.agg #[.slice A1_0 l1_0.length c1_0]] ?_
   with_reducible refine (spec_l02Paint.calls k _ _ l1_0 t170 _ ?side1 ?side2 A8.out).mono ?_
   (case side1 => exact cb_ HR1_0 HB)
   (case side2 => exact HC1_0.out)
   rintro e w16 ⟨v171, rfl, ho0, hb⟩
   refine ⟨_, rfl, ?_⟩
   have HO172 := Aside0.mk (Kd.R_lower (Kd.R_new' ho0 (Kd.R_lt (hd_ HO169))) (bz_ HB))
   replace HO169 := Aside0.mk (Kd.R_elder' (hd_ HO169) (Kd.R_base ho0) hb)
   replace BK163 := Aside0.mk (bb_ BK163 hb)
   replace BK164 := Aside0.mk (bb_ BK164 hb)
   replace HB := Aside0.mk (bt_ HB hb)
   (try clear hb)
   (try clear hb2)
   (try clear hk)
   (try clear hi)
   (try clear ho0)
   obtain ⟨Ao17, co17, eo17⟩ := Kd.R_slice HO169.out
   (first | subst eo17 | (injection eo17 with f1_ f2_ f3_; have f4_ := f1_.symm; have f5_ := f3_.symm; clear f1_ f2_ f3_; subst f4_; subst f5_))
   obtain ⟨Ao18, co18, eo18⟩ := Kd.R_slice HO172.out
   (first | subst eo18 | (injection eo18 with f1_ f2_ f3_; have f4_ := f1_.symm; have f5_ := f3_.symm; clear f1_ f2_ f3_; subst f4_; subst f5_))
   refine hK.out _ _ ⟨(blk_cell BK163.out 0).trans rfl, (blk_cell BK164.out 0).trans rfl⟩ (fun hHeld => ?_)
   clear hK K
   refine nz_ 15 ?_
   refine one_ (i := 11) (N := some 16) ba5_12 rfl rfl (one_of HT_.out (by kernel_rfl)) (by decide) (fun K hK => ?_)
   refine gz_ Try.func62 #[.slice Ao17 t167.length co17, .slice Ao18 t170.length co18] ?_
   with_reducible refine (spec_l02SamePaint.calls k _ _ t167 _ _ t170 t173 _ ?side1 ?side2 ?side3 ?side4 A9.out).mono ?_
   (case side1 => exact rc_ HO169)
   (case side2 => exact (Kd.R_reads' HO169.out).2.1)
   (case side3 => exact rc_ HO172)
   (case side4 => exact (Kd.R_reads' HO172.out).2.1)
   rintro e w' ⟨rfl, ⟨nd, rfl⟩⟩
   refine ⟨_, rfl, ?_⟩
   refine hK.out _ _ ⟨(blk_cell BK163.out 0).trans rfl, (blk_cell BK164.out 0).trans rfl⟩ (fun hHeld => ?_)
   clear hK K
   refine nz_ 16 ?_
   refine pz_ 12 17 ba5_13 HT_ ?_
   refine pz_ 13 4 ba5_14 HT_ ?_
   refine done_ (done_of HT_.out (by kernel_rfl)) ?_
   try go_wp2
   go_ret
   exact ⟨by first | rfl | (simp [errW_none, errW_some] <;> rfl) | (simp [*, errW_none, errW_some] <;> rfl), by repeat (first | (with_reducible first | exact HB.out | apply below_alloc | apply pw_below_drewN | apply below_drew1 | refine below_set ?_ GE163.out | refine below_set ?_ GE164.out) | exact HB.out)⟩
  ·replace c6 := Bool.eq_false_iff.mpr c6
   subst c6
   rw [if_neg (show ¬ (false = true) by decide)] at H
   obtain rfl := Option.some.inj H
   go_enter Try.func28, Try.ntmps28
   try go_wp2_with (first | ((with_reducible refine gate_dst (N := 2) rfl ?_); refine box_event ?hg (N := 2) ?hd (cs := #[.slice A0_0 l0_0.length c0_0]) (t := 34) ?hr ?_; (case hd => rfl); (case hg => rfl); (case hr => first | (go_simp; done) | (go_simp; rfl)); intro gb163 hg w19 hbox hb; have BK163 := Aside0.mk hbox; have GW163 := ge_ HB hg; have GE163 := ge_ HB hg; replace HB := Aside0.mk (bt_ HB hb); clear hb hbox hg) | ((with_reducible refine gate_dst (N := 3) rfl ?_); refine box_event ?hg (N := 3) ?hd (cs := #[.slice A1_0 l1_0.length c1_0]) (t := 34) ?hr ?_; (case hd => rfl); (case hg => rfl); (case hr => first | (go_simp; done) | (go_simp; rfl)); intro gb164 hg w20 hbox hb; have BK164 := Aside0.mk hbox; have GW164 := ge_ HB hg; have GE164 := ge_ HB hg; have NB163_164 := nl_ BK163 hg; have NB164_163 := ng_ BK163 hg; replace HB := Aside0.mk (bt_ HB hb); replace BK163 := Aside0.mk (bb_ BK163 hb); clear hb hbox hg))
   replace BK163 := Aside0.mk (blk_drew BK163.out)
   replace BK164 := Aside0.mk (blk_drew BK164.out)
   replace HB := Aside0.mk (below_drew1 HB.out)
   refine start_ (n := 14) (S := fun w' => w'.cell? ⟨gb163, 0, none⟩ = some (.slice A0_0 l0_0.length c0_0) ∧ w'.cell? ⟨gb164, 0, none⟩ = some (.slice A1_0 l1_0.length c1_0)) (ds := []) ba5_0 (by kernel_rfl) rfl rfl ⟨(blk_cell BK163.out 0).trans rfl, (blk_cell BK164.out 0).trans rfl⟩ (fun hHeld => ?_); refine with_tabW spec_SameTable.tab1 spec_SameTable.bits1 (fun HT_ HW_ => ?_)
   generalize w20.drew = w21 at BK163 BK164 HB hHeld ⊢
   refine pt_ 0 5 ba5_1 HT_ HW_ hHeld ?_
   refine one_ (i := 1) (N := some 6) ba5_2 rfl rfl (one_of HT_.out (by kernel_rfl)) (by decide) (fun K hK => ?_)
   refine gz_ Try.func42 #[.agg #[.slice A0_0 l0_0.length c0_0]] ?_
   with_reducible refine (spec_TableOk.calls k _ _ l0_0 true _ ?side1 ?side2 A3.out).mono ?_
   (case side1 => exact cb_ HR0_0 HB)
   (case side2 => exact HC0_0.out)
   rintro e w22 ⟨rfl, hb⟩
   refine ⟨_, rfl, ?_⟩
   replace BK163 := Aside0.mk (bb_ BK163 hb)
   replace BK164 := Aside0.mk (bb_ BK164 hb)
   replace HB := Aside0.mk (bt_ HB hb)
   (try clear hb)
   (try clear hb2)
   (try clear hk)
   (try clear hi)
   refine hK.out _ _ ⟨(blk_cell BK163.out 0).trans rfl, (blk_cell BK164.out 0).trans rfl⟩ (fun hHeld => ?_)
   clear hK K
   refine nz_ 6 ?_
   refine pz_ 2 7 ba5_3 HT_ ?_
   refine pt_ 3 8 ba5_4 HT_ HW_ hHeld ?_
   refine one_ (i := 4) (N := some 9) ba5_5 rfl rfl (one_of HT_.out (by kernel_rfl)) (by decide) (fun K hK => ?_)
   refine gz_ Try.func42 #[.agg #[.slice A1_0 l1_0.length c1_0]] ?_
   with_reducible refine (spec_TableOk.calls k _ _ l1_0 false _ ?side1 ?side2 A5.out).mono ?_
   (case side1 => exact cb_ HR1_0 HB)
   (case side2 => exact HC1_0.out)
   rintro e w23 ⟨rfl, hb⟩
   refine ⟨_, rfl, ?_⟩
   replace BK163 := Aside0.mk (bb_ BK163 hb)
   replace BK164 := Aside0.mk (bb_ BK164 hb)
   replace HB := Aside0.mk (bt_ HB hb)
   (try clear hb)
   (try clear hb2)
   (try clear hk)
   (try clear hi)
   refine hK.out _ _ ⟨(blk_cell BK163.out 0).trans rfl, (blk_cell BK164.out 0).trans rfl⟩ (fun hHeld => ?_)
   clear hK K
   refine nz_ 9 ?_
   refine pz_ 5 10 ba5_6 HT_ ?_
   refine pz_ 6 11 ba5_7 HT_ ?_
   refine pu_ 7 12 ba5_8 HT_ ?_
   refine pu_ 8 13 ba5_15 HT_ ?_
   refine pu_ 9 14 ba5_10 HT_ ?_
   refine pu_ 10 15 ba5_11 HT_ ?_
   refine pu_ 11 16 ba5_12 HT_ ?_
   refine pz_ 12 17 ba5_13 HT_ ?_
   refine pz_ 13 4 ba5_14 HT_ ?_
   refine done_ (done_of HT_.out (by kernel_rfl)) ?_
   try go_wp2
   go_ret
   exact ⟨by first | rfl | (simp [errW_none, errW_some] <;> rfl) | (simp [*, errW_none, errW_some] <;> rfl), by repeat (first | (with_reducible first | exact HB.out | apply below_alloc | apply pw_below_drewN | apply below_drew1 | refine below_set ?_ GE163.out | refine below_set ?_ GE164.out) | exact HB.out)⟩
 ·replace c4 := Bool.eq_false_iff.mpr c4
  subst c4
  rw [if_neg (show ¬ (false = true) by decide)] at H
  obtain rfl := Option.some.inj H
  go_enter Try.func28, Try.ntmps28
  try go_wp2_with (first | ((with_reducible refine gate_dst (N := 2) rfl ?_); refine box_event ?hg (N := 2) ?hd (cs := #[.slice A0_0 l0_0.length c0_0]) (t := 34) ?hr ?_; (case hd => rfl); (case hg => rfl); (case hr => first | (go_simp; done) | (go_simp; rfl)); intro gb163 hg w24 hbox hb; have BK163 := Aside0.mk hbox; have GW163 := ge_ HB hg; have GE163 := ge_ HB hg; replace HB := Aside0.mk (bt_ HB hb); clear hb hbox hg) | ((with_reducible refine gate_dst (N := 3) rfl ?_); refine box_event ?hg (N := 3) ?hd (cs := #[.slice A1_0 l1_0.length c1_0]) (t := 34) ?hr ?_; (case hd => rfl); (case hg => rfl); (case hr => first | (go_simp; done) | (go_simp; rfl)); intro gb164 hg w25 hbox hb; have BK164 := Aside0.mk hbox; have GW164 := ge_ HB hg; have GE164 := ge_ HB hg; have NB163_164 := nl_ BK163 hg; have NB164_163 := ng_ BK163 hg; replace HB := Aside0.mk (bt_ HB hb); replace BK163 := Aside0.mk (bb_ BK163 hb); clear hb hbox hg))
  replace BK163 := Aside0.mk (blk_drew BK163.out)
  replace BK164 := Aside0.mk (blk_drew BK164.out)
  replace HB := Aside0.mk (below_drew1 HB.out)
  refine start_ (n := 14) (S := fun w' => w'.cell? ⟨gb163, 0, none⟩ = some (.slice A0_0 l0_0.length c0_0)) (ds := []) ba5_0 (by kernel_rfl) rfl rfl ((blk_cell BK163.out 0).trans rfl) (fun hHeld => ?_); refine with_tabW spec_SameTable.tab1 spec_SameTable.bits1 (fun HT_ HW_ => ?_)
  generalize w25.drew = w26 at BK163 BK164 HB hHeld ⊢
  refine take_ (i := 0) (N := some 5) (v := ?_) (a' := ?_) ba5_1 rfl rfl (take_ofW HT_.out HW_.out (by kernel_rfl)) (fun _ _ _ h => h) (Or.inl ⟨by rfl, ?_⟩) hHeld ?_ ?_
  rotate_left; · intro w' s0; go_simp; with_reducible rfl
  rotate_left; · simp only [Act.put, List.setIfInBounds_toArray, List.set_cons_zero, List.set_cons_succ, i64_w, i32_w]; rfl
  refine one_ (i := 1) (N := some 6) ba5_2 rfl rfl (one_of HT_.out (by kernel_rfl)) (by decide) (fun K hK => ?_)
  refine gz_ Try.func42 #[.agg #[.slice A0_0 l0_0.length c0_0]] ?_
  with_reducible refine (spec_TableOk.calls k _ _ l0_0 false _ ?side1 ?side2 A3.out).mono ?_
  (case side1 => exact cb_ HR0_0 HB)
  (case side2 => exact HC0_0.out)
  rintro e w27 ⟨rfl, hb⟩
  refine ⟨_, rfl, ?_⟩
  replace BK163 := Aside0.mk (bb_ BK163 hb)
  replace BK164 := Aside0.mk (bb_ BK164 hb)
  replace HB := Aside0.mk (bt_ HB hb)
  (try clear hb)
  (try clear hb2)
  (try clear hk)
  (try clear hi)
  refine hK.out _ _ ((blk_cell BK163.out 0).trans rfl) (fun hHeld => ?_)
  clear hK K
  refine nz_ 6 ?_
  refine pz_ 2 7 ba5_3 HT_ ?_
  refine pu_ 3 8 ba5_4 HT_ ?_
  refine pu_ 4 9 ba5_5 HT_ ?_
  refine pz_ 5 10 ba5_6 HT_ ?_
  refine pz_ 6 11 ba5_7 HT_ ?_
  refine pu_ 7 12 ba5_8 HT_ ?_
  refine pu_ 8 13 ba5_15 HT_ ?_
  refine pu_ 9 14 ba5_10 HT_ ?_
  refine pu_ 10 15 ba5_11 HT_ ?_
  refine pu_ 11 16 ba5_12 HT_ ?_
  refine pz_ 12 17 ba5_13 HT_ ?_
  refine pz_ 13 4 ba5_14 HT_ ?_
  refine done_ (done_of HT_.out (by kernel_rfl)) ?_
  try go_wp2
  go_ret
  exact ⟨by first | rfl | (simp [errW_none, errW_some] <;> rfl) | (simp [*, errW_none, errW_some] <;> rfl), by repeat (first | (with_reducible first | exact HB.out | apply below_alloc | apply pw_below_drewN | apply below_drew1 | refine below_set ?_ GE163.out | refine below_set ?_ GE164.out) | exact HB.out)⟩

/-! ### impl_within: function 79 -/
def impl_within.f (a0 : Int) (a1 : Int) (a2 : Int) : Option (Bool) := if a0 ≥ a1 then (some (decide (a0 ≤ a2))) else (some false)
set_option maxHeartbeats 8000000 in
set_option maxRecDepth 100000 in
theorem impl_within.calls (a0 : Int) (a1 : Int) (a2 : Int) (r : Bool) (w : World) (h : impl_within.f a0 a1 a2 = some r) :
  Calls Try.prog 79 #[.int .i64 a0, .int .i64 a1, .int .i64 a2] w fun e w' => e = .returned (.bool r) ∧ Drawn0 w w' := by
 have H : (if a0 ≥ a1 then (some (decide (a0 ≤ a2))) else (some false)) = some r := h
 clear h
 by_cases c4 : a0 ≥ a1
 ·rw [if_pos c4] at H
  have c4b0 : decide (a1 ≤ a0) = true := decide_eq_true c4
  clear c4
  obtain rfl := Option.some.inj H
  go_enter Try.func79, Try.ntmps79
  go_wp2
  go_ret
  exact ⟨by first | rfl | (simp; done) | (simp [*]; done), by repeat (first | exact Drawn0.refl _ | apply Drawn0.step)⟩
 ·rw [if_neg c4] at H
  have c4b0 : decide (a1 ≤ a0) = false := decide_eq_false c4
  clear c4
  obtain rfl := Option.some.inj H
  go_enter Try.func79, Try.ntmps79
  go_wp2
  go_ret
  exact ⟨by first | rfl | (simp; done) | (simp [*]; done), by repeat (first | exact Drawn0.refl _ | apply Drawn0.step)⟩

/-! ### impl_isAddr: function 48 -/
def impl_isAddr.f (a0 : Int) : Option (Bool) := (impl_within.f a0 0 65535).bind fun t174 => (some t174)
set_option maxHeartbeats 8000000 in
set_option maxRecDepth 100000 in
theorem impl_isAddr.calls (a0 : Int) (r : Bool) (w : World) (h : impl_isAddr.f a0 = some r) :
  Calls Try.prog 48 #[.int .i64 a0] w fun e w' => e = .returned (.bool r) ∧ Drawn0 w w' := by
 have H : ((impl_within.f a0 0 65535).bind fun t174 => (some t174)) = some r := h
 clear h
 replace H := Option.bind_eq_some_iff.mp H
 obtain ⟨t174, A20, H⟩ := H
 have A2 := Aside0.mk A20
 clear A20
 obtain rfl := Option.some.inj H
 go_enter Try.func48, Try.ntmps48
 go_wp2_with (first | ((with_reducible refine gate_callee (f := 79) rfl ?_); refine gl_ (some 4) Try.func79 #[.int .i64 a0, .int .i64 0, .int .i64 65535] ?_; (with_reducible refine (impl_within.calls a0 0 65535 t174 _ A2.out).mono ?_); rintro e w' ⟨rfl, ⟨nd, rfl⟩⟩; refine ⟨_, rfl, ?_⟩))
 go_ret
 exact ⟨by first | rfl | (simp; done) | (simp [*]; done), by repeat (first | exact Drawn0.refl _ | apply Drawn0.step)⟩

/-! ### impl_Prefix_size: function 90 -/
def impl_Prefix_size.f (a0_0 : Int) (a0_1 : Int) : Option (Int) := if 0 ≤ (wrap64 (16 - a0_1)) then (some (shl .i64 1 (wrap64 (16 - a0_1)))) else (none)
set_option maxHeartbeats 8000000 in
set_option maxRecDepth 100000 in
theorem impl_Prefix_size.calls (a0_0 : Int) (a0_1 : Int) (r : Int) (w : World) (h : impl_Prefix_size.f a0_0 a0_1 = some r) :
  Calls Try.prog 90 #[.agg #[.int .i64 a0_0, .int .i64 a0_1]] w fun e w' => e = .returned (.int .i64 r) ∧ Below w.heap.size w w' := by
 have hu27 := Try.underlying27
 have HB := Aside0.mk (Below.refl w.heap.size w)
 have H : (if 0 ≤ (wrap64 (16 - a0_1)) then (some (shl .i64 1 (wrap64 (16 - a0_1)))) else (none)) = some r := h
 clear h
 obtain ⟨ji2, hji2⟩ : ∃ j_ : Int, (wrap64 (16 - a0_1)) = j_ := ⟨_, rfl⟩
 first | rw [hji2] at H | simp only [hji2] at H
 have hji2w : (IntKind.i64.wrap (16 - a0_1)) = ji2 := (i64_w _).trans hji2
 by_cases c3 : 0 ≤ (ji2)
 ·rw [if_pos c3] at H
  have c3b0 := eq_true c3
  have c3b1 : decide (0 ≤ (ji2)) = true := decide_eq_true c3
  clear c3
  obtain ⟨ji4, hji4⟩ : ∃ j_ : Int, (shl .i64 1 (ji2)) = j_ := ⟨_, rfl⟩
  first | rw [hji4] at H | simp only [hji4] at H
  have hji4_ : (IntKind.i64.wrap (1 * 2 ^ min (ji2).toNat 64)) = ji4 := hji4
  have hji4z : (ji2) ≤ 64 → (IntKind.i64.wrap (1 * 2 ^ (ji2).toNat)) = ji4 := shl_small hji4
  have hji4u : (IntKind.i64.wrap (2 ^ min (ji2).toNat 64)) = ji4 := by have h_ := hji4_; rw [Int.one_mul] at h_; exact h_
  have hji4v : (ji2) ≤ 64 → (IntKind.i64.wrap (2 ^ (ji2).toNat)) = ji4 := fun hle_ => by have h_ := hji4z hle_; rw [Int.one_mul] at h_; exact h_
  have hji4y : (wrap64 (1 * 2 ^ min (ji2).toNat 64)) = ji4 := (i64_w _).symm.trans hji4_
  have hji4x : (ji2) ≤ 64 → (wrap64 (1 * 2 ^ (ji2).toNat)) = ji4 := fun h_ => (i64_w _).symm.trans (hji4z h_)
  obtain rfl := Option.some.inj H
  go_enter Try.func90, Try.ntmps90
  go_wp2_with (first | ((with_reducible refine gate_dst (N := 1) rfl ?_); refine box_event ?hg (N := 1) ?hd (cs := #[.int .i64 a0_0, .int .i64 a0_1]) (t := 27) ?hr ?_; (case hd => rfl); (case hg => rfl); (case hr => first | (go_simp; done) | (go_simp; rfl)); intro gb175 hg w5 hbox hb; have BK175 := Aside0.mk hbox; have GW175 := ge_ HB hg; have GE175 := ge_ HB hg; replace HB := Aside0.mk (bt_ HB hb); clear hb hbox hg; have hcz6_0 := cz_ BK175 0 (.int .i64 a0_0); have hcz6_1 := cz_ BK175 1 (.int .i64 a0_1); have hfz6_0 := blk_frozen BK175.out 0; have hfz6_1 := blk_frozen BK175.out 1))
  go_ret
  exact ⟨by first | rfl | (simp [errW_none, errW_some] <;> rfl) | (simp only [← hji2, ← hji4]; first | rfl | (simp [errW_none, errW_some] <;> rfl)) | (simp [*, errW_none, errW_some] <;> rfl), by repeat (first | (with_reducible first | exact HB.out | apply below_alloc | apply pw_below_drewN | apply below_drew1 | refine below_set ?_ GE175.out) | exact HB.out)⟩
 ·rw [if_neg c3] at H
  exact absurd H (by simp)

end Go.Proofs.Ytjepabdgmholjaa.QFnExactSameTable
