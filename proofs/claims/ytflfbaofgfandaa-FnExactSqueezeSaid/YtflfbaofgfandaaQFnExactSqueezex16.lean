/- Contracts of functions that the law reaches: what each call returns and what it leaves in memory. Made by this session over the print of the kit. -/
import Derived.Test.YtflfbaofgfandaaQFnExactSqueezex0
import Derived.Test.YtflfbaofgfandaaQFnExactSqueezex12
import Derived.Test.YtflfbaofgfandaaQFnExactSqueezex13
import Derived.Test.YtflfbaofgfandaaQFnExactSqueezex14
import Derived.Test.YtflfbaofgfandaaQFnExactSqueezex15
namespace Go.Proofs.Ytflfbaofgfandaa.QFnExactSqueeze
open Go.RowKit Go.Proofs.YtflfbaofgfandaaQ.PrintWords Go.Proofs.YtflfbaofgfandaaQ.PrintLast Go.Proofs.YtflfbaofgfandaaQ.PrintMore
attribute [local go_sem] max2_int min2_int max_two min_two max_three min_three max_four min_four   -- for this text's walks alone
set_option linter.unusedVariables false
set_option linter.unusedSimpArgs false
abbrev tb16 : Bool := true
abbrev fb16 : Bool := false
def ba16_0 : Array Bool := #[fb16,fb16,fb16,fb16,fb16,fb16,fb16,fb16,fb16,fb16,fb16,fb16,fb16,fb16,fb16,fb16,fb16,fb16,fb16,fb16,fb16]
def ba16_1 : Array Bool := #[tb16,fb16,fb16,fb16,fb16,fb16,fb16,fb16,fb16,fb16,fb16,fb16,fb16,fb16,fb16,fb16,fb16,fb16,fb16,fb16,fb16]
def ba16_2 : Array Bool := #[tb16,tb16,fb16,fb16,fb16,fb16,fb16,fb16,fb16,fb16,fb16,fb16,fb16,fb16,fb16,fb16,fb16,fb16,fb16,fb16,fb16]
def ba16_3 : Array Bool := #[tb16,tb16,tb16,fb16,fb16,fb16,fb16,fb16,fb16,fb16,fb16,fb16,fb16,fb16,fb16,fb16,fb16,fb16,fb16,fb16,fb16]
def ba16_4 : Array Bool := #[tb16,tb16,tb16,tb16,fb16,fb16,fb16,fb16,fb16,fb16,fb16,fb16,fb16,fb16,fb16,fb16,fb16,fb16,fb16,fb16,fb16]
def ba16_5 : Array Bool := #[tb16,tb16,tb16,tb16,tb16,fb16,fb16,fb16,fb16,fb16,fb16,fb16,fb16,fb16,fb16,fb16,fb16,fb16,fb16,fb16,fb16]
def ba16_6 : Array Bool := #[tb16,tb16,tb16,tb16,tb16,tb16,fb16,fb16,fb16,fb16,fb16,fb16,fb16,fb16,fb16,fb16,fb16,fb16,fb16,fb16,fb16]
def ba16_7 : Array Bool := #[tb16,tb16,tb16,tb16,tb16,tb16,tb16,fb16,fb16,fb16,fb16,fb16,fb16,fb16,fb16,fb16,fb16,fb16,fb16,fb16,fb16]
def ba16_8 : Array Bool := #[tb16,tb16,tb16,tb16,tb16,tb16,tb16,tb16,fb16,fb16,fb16,fb16,fb16,fb16,fb16,fb16,fb16,fb16,fb16,fb16,fb16]
def ba16_9 : Array Bool := #[tb16,tb16,tb16,tb16,tb16,tb16,tb16,tb16,tb16,fb16,fb16,fb16,fb16,fb16,fb16,fb16,fb16,fb16,fb16,fb16,fb16]
def ba16_10 : Array Bool := #[tb16,tb16,tb16,tb16,tb16,tb16,tb16,tb16,tb16,tb16,fb16,fb16,fb16,fb16,fb16,fb16,fb16,fb16,fb16,fb16,fb16]
def ba16_11 : Array Bool := #[tb16,tb16,tb16,tb16,tb16,tb16,tb16,tb16,tb16,tb16,tb16,fb16,fb16,fb16,fb16,fb16,fb16,fb16,fb16,fb16,fb16]
def ba16_12 : Array Bool := #[tb16,tb16,tb16,tb16,tb16,tb16,tb16,tb16,tb16,tb16,tb16,tb16,fb16,fb16,fb16,fb16,fb16,fb16,fb16,fb16,fb16]
def ba16_13 : Array Bool := #[tb16,tb16,tb16,tb16,tb16,tb16,tb16,tb16,tb16,tb16,tb16,tb16,tb16,fb16,fb16,fb16,fb16,fb16,fb16,fb16,fb16]
def ba16_14 : Array Bool := #[tb16,tb16,tb16,tb16,tb16,tb16,tb16,tb16,tb16,tb16,tb16,tb16,tb16,tb16,fb16,fb16,fb16,fb16,fb16,fb16,fb16]
def ba16_15 : Array Bool := #[tb16,tb16,tb16,tb16,tb16,tb16,tb16,tb16,tb16,tb16,tb16,tb16,tb16,tb16,tb16,fb16,fb16,fb16,fb16,fb16,fb16]
def ba16_16 : Array Bool := #[tb16,tb16,tb16,tb16,tb16,tb16,tb16,tb16,tb16,tb16,tb16,tb16,tb16,tb16,tb16,tb16,fb16,fb16,fb16,fb16,fb16]
def ba16_17 : Array Bool := #[tb16,tb16,tb16,tb16,tb16,tb16,tb16,tb16,tb16,tb16,tb16,tb16,tb16,tb16,tb16,tb16,tb16,fb16,fb16,fb16,fb16]
def ba16_18 : Array Bool := #[tb16,tb16,tb16,tb16,tb16,tb16,tb16,tb16,tb16,tb16,tb16,tb16,tb16,tb16,tb16,tb16,tb16,tb16,fb16,fb16,fb16]
def ba16_19 : Array Bool := #[tb16,tb16,tb16,tb16,tb16,tb16,tb16,tb16,tb16,tb16,tb16,tb16,tb16,tb16,tb16,tb16,tb16,tb16,tb16,fb16,fb16]
def ba16_20 : Array Bool := #[tb16,tb16,tb16,tb16,tb16,tb16,tb16,tb16,tb16,tb16,tb16,tb16,tb16,tb16,tb16,tb16,tb16,tb16,tb16,tb16,fb16]
def ba16_21 : Array Bool := #[tb16,tb16,tb16,tb16,tb16,tb16,tb16,tb16,tb16,tb16,tb16,tb16,tb16,tb16,tb16,tb16,tb16,tb16,tb16,tb16,tb16]
def ba16_22 : Array Bool := #[tb16,tb16,tb16,tb16,tb16,tb16,tb16,tb16,tb16,tb16,fb16,tb16,fb16,fb16,fb16,fb16,fb16,fb16,fb16,fb16,fb16]
def ba16_23 : Array Bool := #[tb16,tb16,tb16,tb16,tb16,tb16,tb16,tb16,tb16,tb16,fb16,tb16,fb16,tb16,fb16,fb16,fb16,fb16,fb16,fb16,fb16]
def ba16_24 : Array Bool := #[tb16,tb16,tb16,tb16,tb16,tb16,tb16,tb16,tb16,tb16,tb16,tb16,fb16,tb16,fb16,fb16,fb16,fb16,fb16,fb16,fb16]

/-! ### impl_Squeeze: function 19 -/
mutual
def impl_Squeeze.l0 : Nat → List (S43) → Option ((List (S43)) × Bool)
 | 0, _ => none
 | k + 1, x308000 => impl_Squeeze.l1 k (-1) x308000 (x308000.length : Int) 0 x308000
def impl_Squeeze.l1 : Nat → Int → List (S43) → Int → Int → List (S43) → Option ((List (S43)) × Bool)
 | 0, _, _, _, _, _ => none
 | k + 1, x5, x15, x16, x17, x308000 => if x17 < x16 then (if 0 ≤ x17 then (if x17 < (x15.length : Int) then ((impl_isRedundant.f k x308000 ((rd_T43 x15 x17).f0.f0) ((rd_T43 x15 x17).f0.f1) ((rd_T43 x15 x17).f1)).bind fun t311 => (if t311 = true then (if x5 < 0 then (impl_Squeeze.l1 k x17 x15 x16 (wrap64 (x17 + 1)) x308000) else (if 0 ≤ x5 then (if x5 < (x308000.length : Int) then (if ((rd_T43 x15 x17).f0.f1) > ((rd_T43 x308000 x5).f0.f1) then (impl_Squeeze.l1 k x17 x15 x16 (wrap64 (x17 + 1)) x308000) else (impl_Squeeze.l1 k x5 x15 x16 (wrap64 (x17 + 1)) x308000)) else (none)) else (none))) else (impl_Squeeze.l1 k x5 x15 x16 (wrap64 (x17 + 1)) x308000))) else (none)) else (none)) else (if x5 < 0 then (some (x308000, true)) else ((slices_Delete_impl_Route_impl_Route.f x308000 x5 (wrap64 (x5 + 1))).bind fun t313 => (impl_Squeeze.l0 k t313)))
end
def impl_Squeeze.f (k : Nat) (l0_0 : List (S43)) : Option ((List (S43)) × Bool) := (impl_ownTable.f l0_0).bind fun t304 => ((impl_TableOk.f k l0_0).bind fun t308 => (if t308 = true then (impl_Squeeze.l0 k t304) else (some (t304, false))))
theorem impl_Squeeze.mono_l : ∀ k, (∀ y0, LeO (impl_Squeeze.l0 k y0) (impl_Squeeze.l0 (k + 1) y0)) ∧ (∀ y0 y1 y2 y3 y4, LeO (impl_Squeeze.l1 k y0 y1 y2 y3 y4) (impl_Squeeze.l1 (k + 1) y0 y1 y2 y3 y4))
 | 0 => ⟨fun _ r h => by simp [impl_Squeeze.l0] at h, fun _ _ _ _ _ r h => by simp [impl_Squeeze.l1] at h⟩
 | k + 1 => by
  obtain ⟨ih0, ih1⟩ := impl_Squeeze.mono_l k
  refine ⟨?_, ?_⟩
  ·intro y0
   unfold impl_Squeeze.l0
   repeat' first
   | (with_reducible exact ih0 _)
   | (with_reducible exact ih1 _ _ _ _ _)
   | (with_reducible exact impl_TableOk.mono _ _)
   | (with_reducible exact impl_isRedundant.mono _ _ _ _ _)
   | (with_reducible exact LeO.refl _)
   | (with_reducible exact LeO.none _)
   | (with_reducible refine LeO.ite ?_ ?_)
   | (with_reducible refine LeO.bind ?_ (fun _ => ?_))
   | exact ih0 _
   | exact ih1 _ _ _ _ _
   | exact impl_TableOk.mono _ _
   | exact impl_isRedundant.mono _ _ _ _ _
   | exact LeO.none _
   | refine LeO.ite ?_ ?_
   | refine LeO.bind ?_ (fun _ => ?_)
  ·intro y0 y1 y2 y3 y4
   unfold impl_Squeeze.l1
   repeat' first
   | (with_reducible exact ih0 _)
   | (with_reducible exact ih1 _ _ _ _ _)
   | (with_reducible exact impl_TableOk.mono _ _)
   | (with_reducible exact impl_isRedundant.mono _ _ _ _ _)
   | (with_reducible exact LeO.refl _)
   | (with_reducible exact LeO.none _)
   | (with_reducible refine LeO.ite ?_ ?_)
   | (with_reducible refine LeO.bind ?_ (fun _ => ?_))
   | exact ih0 _
   | exact ih1 _ _ _ _ _
   | exact impl_TableOk.mono _ _
   | exact impl_isRedundant.mono _ _ _ _ _
   | exact LeO.none _
   | refine LeO.ite ?_ ?_
   | refine LeO.bind ?_ (fun _ => ?_)
theorem impl_Squeeze.mono : ∀ a0 k, LeO (impl_Squeeze.f k a0) (impl_Squeeze.f (k + 1) a0) := by
 intro a0 k
 obtain ⟨ih0, ih1⟩ := impl_Squeeze.mono_l k
 unfold impl_Squeeze.f
 repeat' first
   | (with_reducible exact ih0 _)
   | (with_reducible exact ih1 _ _ _ _ _)
   | (with_reducible exact impl_TableOk.mono _ _)
   | (with_reducible exact impl_isRedundant.mono _ _ _ _ _)
   | (with_reducible exact LeO.refl _)
   | (with_reducible exact LeO.none _)
   | (with_reducible refine LeO.ite ?_ ?_)
   | (with_reducible refine LeO.bind ?_ (fun _ => ?_))
   | exact ih0 _
   | exact ih1 _ _ _ _ _
   | exact impl_TableOk.mono _ _
   | exact impl_isRedundant.mono _ _ _ _ _
   | exact LeO.none _
   | refine LeO.ite ?_ ?_
   | refine LeO.bind ?_ (fun _ => ?_)
def impl_Squeeze.T8 : Bool × List (List Nat × List Nat) := (true, [([], []), ([0], [0]), ([], []), ([1, 2], [1, 2]), ([3, 3], [3]), ([4], [4]), ([5, 4], [4, 5]), ([6, 4, 4], [4, 6]), ([7], [7]), ([8, 7], [7, 8]), ([9, 7], [7, 9]), ([7], [7]), ([11, 7], [7, 11]), ([7], [7]), ([12, 13, 7], [7, 12, 13]), ([14, 7], [7, 14]), ([15, 7], [7, 15]), ([16, 7], [7, 16]), ([10, 17, 7], [7, 10, 17]), ([7, 18, 4], [4, 7, 18]), ([4, 19], [4, 19])])
def impl_Squeeze.B8 : List Nat := [0, 1, 0, 7, 15, 31, 63, 127, 255, 511, 1023, 255, 2303, 255, 14591, 30975, 63743, 129279, 262143, 524287, 1048575]
theorem impl_Squeeze.tab8 : rtab .any (opsOf Try.f19 8) = impl_Squeeze.T8 := by kernel_rfl
theorem impl_Squeeze.bits8 : waitsOk impl_Squeeze.T8.2 impl_Squeeze.B8 = true := by kernel_rfl
set_option maxHeartbeats 8000000 in
set_option maxRecDepth 100000 in
theorem impl_Squeeze.calls (k : Nat) (A0_0 : Option Addr) (c0_0 : Nat) (l0_0 : List (S43)) (r1 : List (S43)) (r2 : Bool) (w : World) (hr0_0 : Kd.C k43 w A0_0 l0_0.length l0_0) (hc0_0 : l0_0.length ≤ c0_0) (h : impl_Squeeze.f k l0_0 = some (r1, r2)) :
  Calls Try.prog 19 #[.agg #[.slice A0_0 l0_0.length c0_0]] w fun e w' => ∃ v0_ : Value, e = .returned (.tuple #[.agg #[v0_], .bool r2]) ∧ Kd.R k43 43 w' w.heap.size (fun _ => True) v0_ r1 ∧ Below w.heap.size w w' := by
 have hu30 := Try.underlying30
 have hu43 := Try.underlying43
 have HR0_0 := Aside0.mk hr0_0
 have HC0_0 := Aside0.mk hc0_0
 clear hr0_0 hc0_0
 have HB := Aside0.mk (Below.refl w.heap.size w)
 have H : ((impl_ownTable.f l0_0).bind fun t304 => ((impl_TableOk.f k l0_0).bind fun t308 => (if t308 = true then (impl_Squeeze.l0 k t304) else (some (t304, false))))) = some (r1, r2) := h
 clear h
 replace H := Option.bind_eq_some_iff.mp H
 obtain ⟨t304, A20, H⟩ := H
 have A2 := Aside0.mk A20
 clear A20
 replace H := Option.bind_eq_some_iff.mp H
 obtain ⟨t308, A30, H⟩ := H
 have A3 := Aside0.mk A30
 clear A30
 by_cases c4 : t308 = true
 rotate_left
 ·replace c4 := Bool.eq_false_iff.mpr c4
  subst c4
  rw [if_neg (show ¬ (false = true) by decide)] at H
  simp only [Option.some.injEq, Prod.mk.injEq] at H
  obtain ⟨rfl, rfl⟩ := H
  go_enter Try.func19, Try.ntmps19
  go_wp2_with (first | ((with_reducible refine gate_dst (N := 1) rfl ?_); refine box_event ?hg (N := 1) ?hd (cs := #[.slice A0_0 l0_0.length c0_0]) (t := 30) ?hr ?_; (case hd => rfl); (case hg => rfl); (case hr => first | (go_simp; done) | (go_simp; rfl)); intro gb302 hg w75 hbox hb; have BK302 := Aside0.mk hbox; have GW302 := ge_ HB hg; have GE302 := ge_ HB hg; replace HB := Aside0.mk (bt_ HB hb); clear hb hbox hg) | ((with_reducible refine gate_dst (N := 2) rfl ?_); refine box_event ?hg (N := 2) ?hd (cs := #[.slice none 0 0]) (t := 30) ?hr ?_; (case hd => rfl); (case hg => rfl); (case hr => first | (go_simp; done) | (go_simp; rfl)); intro gb303 hg w76 hbox hb; have BK303 := Aside0.mk hbox; have GW303 := ge_ HB hg; have GE303 := ge_ HB hg; have NB302_303 := nl_ BK302 hg; have NB303_302 := ng_ BK302 hg; replace HB := Aside0.mk (bt_ HB hb); replace BK302 := Aside0.mk (bb_ BK302 hb); clear hb hbox hg; have hnb77 := NB302_303.out; have hnc77 := NB303_302.out; have hcz78_0 := cz_ BK302 0 (.slice A0_0 l0_0.length c0_0); have hfz78_0 := blk_frozen BK302.out 0) | ((with_reducible refine gate_callee (f := 30) rfl ?_); refine gl_ (some 9) Try.func30 #[.agg #[.slice A0_0 l0_0.length c0_0]] ?_; (with_reducible refine (impl_ownTable.calls _ _ l0_0 t304 _ ?side1 ?side2 A2.out).mono ?_); (case side1 => exact cb_ HR0_0 HB); (case side2 => exact HC0_0.out); rintro e w79 ⟨v305, rfl, ho0, hb⟩; refine ⟨_, rfl, ?_⟩; have HO306 := Aside0.mk (Kd.R_lower ho0 (bz_ HB)); replace BK302 := Aside0.mk (bb_ BK302 hb); replace BK303 := Aside0.mk (bb_ BK303 hb); replace HB := Aside0.mk (bt_ HB hb); (try clear hb); (try clear hb2); (try clear hk); (try clear hi); (try clear ho0)) | ((with_reducible refine gate_dst (N := 4) rfl ?_); refine box_event ?hg (N := 4) ?hd (cs := #[.slice none 0 0]) (t := 30) ?hr ?_; (case hd => rfl); (case hg => rfl); (case hr => first | (go_simp; done) | (go_simp; rfl)); intro gb307 hg w80 hbox hb; have BK307 := Aside0.mk hbox; have GW307 := ge_ HB hg; have GE307 := ge_ HB hg; have NB302_307 := nl_ BK302 hg; have NB307_302 := ng_ BK302 hg; have NB303_307 := nl_ BK303 hg; have NB307_303 := ng_ BK303 hg; replace HO306 := rb_ HO306 hb; replace HB := Aside0.mk (bt_ HB hb); replace BK302 := Aside0.mk (bb_ BK302 hb); replace BK303 := Aside0.mk (bb_ BK303 hb); clear hb hbox hg; obtain ⟨Ao81, co81, eo81⟩ := Kd.R_slice HO306.out; subst eo81; have hnb82 := NB307_302.out; have hnc82 := NB302_307.out; have hnb83 := NB307_303.out; have hnc83 := NB303_307.out; have hcz84_0 := cz_ BK307 0 (.slice none 0 0); have hfz84_0 := blk_frozen BK307.out 0; have hcz85_0 := cz_ BK302 0 (.slice A0_0 l0_0.length c0_0); have hfz85_0 := blk_frozen BK302.out 0) | ((with_reducible refine gate_callee (f := 31) rfl ?_); refine gl_ (some 11) Try.func31 #[.agg #[.slice A0_0 l0_0.length c0_0]] ?_; (with_reducible refine (impl_TableOk.calls k _ _ l0_0 false _ ?side1 ?side2 A3.out).mono ?_); (case side1 => exact Kd.C_below HR0_0.out (by repeat (first | (with_reducible first | exact HB.out | apply below_alloc | apply pw_below_drewN | apply below_drew1 | refine below_set ?_ GE302.out | refine below_set ?_ GE303.out | refine below_set ?_ GE307.out) | exact HB.out))); (case side2 => exact HC0_0.out); rintro e w86 ⟨rfl, hb⟩; refine ⟨_, rfl, ?_⟩; replace HO306 := rs_ HO306 BK307 hb; replace BK302 := bf_ BK302 NB302_307 hb; replace BK303 := bf_ BK303 NB303_307 hb; replace BK307 := Aside0.mk (blk_below (g := gb307) (o := .cells #[.slice Ao81 t304.length co81] 30 (0, 0)) (by (with_reducible repeat (first | refine blk_drewN ?_ _ | refine blk_drew ?_ | refine blk_alloc ?_ _)); refine blk_put (cs := #[.slice none 0 0]) ?_ 0 _ rfl; (with_reducible repeat (first | refine blk_drewN ?_ _ | refine blk_drew ?_ | refine blk_alloc ?_ _)); exact BK307.out) hb); replace HB := Aside0.mk (bt_ HB hb); (try clear hb); (try clear hb2); (try clear hk); (try clear hi); have hcz87_0 := cz_ BK307 0 (.slice Ao81 t304.length co81); have hfz87_0 := blk_frozen BK307.out 0; have hcz88_0 := cz_ BK303 0 (.slice none 0 0); have hfz88_0 := blk_frozen BK303.out 0))
  refine bodyPost_ret (results_ct rfl _ _ gb303 30 #[.slice Ao81 t304.length co81] (0, 0) _ rfl (by (with_reducible repeat (first | refine blk_drewN ?_ _ | refine blk_drew ?_ | refine blk_alloc ?_ _)); refine blk_put (cs := #[.slice none 0 0]) ?_ 0 _ rfl; (with_reducible repeat (first | refine blk_drewN ?_ _ | refine blk_drew ?_ | refine blk_alloc ?_ _)); exact BK303.out) Try.underlying30 rfl (by kernel_rfl)) rfl ?_
  exact ⟨_, by first | rfl | (simp [errW_none, errW_some] <;> rfl) | (simp [*, errW_none, errW_some] <;> rfl), by (with_reducible repeat (first | apply Kd.R_alloc | apply Kd.R_drewN | apply Kd.R_drew)); exact Kd.R_mono (Kd.R_far (p := ⟨gb303, 0, none⟩) (Kd.R_types HO306.out BK303.out (by decide)) (fun _ hk => hk.2) (.slice Ao81 t304.length co81)) (fun _ hk => trivial), by repeat (first | (with_reducible first | exact HB.out | apply below_alloc | apply pw_below_drewN | apply below_drew1 | refine below_set ?_ GE302.out | refine below_set ?_ GE303.out | refine below_set ?_ GE307.out) | exact HB.out)⟩
 subst c4
 rw [if_pos rfl] at H
 have H' := Aside0.mk H
 clear H
 go_enter Try.func19, Try.ntmps19
 go_wp2_with (first | ((with_reducible refine gate_dst (N := 1) rfl ?_); refine box_event ?hg (N := 1) ?hd (cs := #[.slice A0_0 l0_0.length c0_0]) (t := 30) ?hr ?_; (case hd => rfl); (case hg => rfl); (case hr => first | (go_simp; done) | (go_simp; rfl)); intro gb302 hg w5 hbox hb; have BK302 := Aside0.mk hbox; have GW302 := ge_ HB hg; have GE302 := ge_ HB hg; replace HB := Aside0.mk (bt_ HB hb); clear hb hbox hg) | ((with_reducible refine gate_dst (N := 2) rfl ?_); refine box_event ?hg (N := 2) ?hd (cs := #[.slice none 0 0]) (t := 30) ?hr ?_; (case hd => rfl); (case hg => rfl); (case hr => first | (go_simp; done) | (go_simp; rfl)); intro gb303 hg w6 hbox hb; have BK303 := Aside0.mk hbox; have GW303 := ge_ HB hg; have GE303 := ge_ HB hg; have NB302_303 := nl_ BK302 hg; have NB303_302 := ng_ BK302 hg; replace HB := Aside0.mk (bt_ HB hb); replace BK302 := Aside0.mk (bb_ BK302 hb); clear hb hbox hg; have hnb7 := NB302_303.out; have hnc7 := NB303_302.out; have hcz8_0 := cz_ BK302 0 (.slice A0_0 l0_0.length c0_0); have hfz8_0 := blk_frozen BK302.out 0) | ((with_reducible refine gate_callee (f := 30) rfl ?_); refine gl_ (some 9) Try.func30 #[.agg #[.slice A0_0 l0_0.length c0_0]] ?_; (with_reducible refine (impl_ownTable.calls _ _ l0_0 t304 _ ?side1 ?side2 A2.out).mono ?_); (case side1 => exact cb_ HR0_0 HB); (case side2 => exact HC0_0.out); rintro e w9 ⟨v305, rfl, ho0, hb⟩; refine ⟨_, rfl, ?_⟩; have HO306 := Aside0.mk (Kd.R_lower ho0 (bz_ HB)); replace BK302 := Aside0.mk (bb_ BK302 hb); replace BK303 := Aside0.mk (bb_ BK303 hb); replace HB := Aside0.mk (bt_ HB hb); (try clear hb); (try clear hb2); (try clear hk); (try clear hi); (try clear ho0)) | ((with_reducible refine gate_dst (N := 4) rfl ?_); refine box_event ?hg (N := 4) ?hd (cs := #[.slice none 0 0]) (t := 30) ?hr ?_; (case hd => rfl); (case hg => rfl); (case hr => first | (go_simp; done) | (go_simp; rfl)); intro gb307 hg w10 hbox hb; have BK307 := Aside0.mk hbox; have GW307 := ge_ HB hg; have GE307 := ge_ HB hg; have NB302_307 := nl_ BK302 hg; have NB307_302 := ng_ BK302 hg; have NB303_307 := nl_ BK303 hg; have NB307_303 := ng_ BK303 hg; replace HO306 := rb_ HO306 hb; replace HB := Aside0.mk (bt_ HB hb); replace BK302 := Aside0.mk (bb_ BK302 hb); replace BK303 := Aside0.mk (bb_ BK303 hb); clear hb hbox hg; obtain ⟨Ao11, co11, eo11⟩ := Kd.R_slice HO306.out; subst eo11; have hnb12 := NB307_302.out; have hnc12 := NB302_307.out; have hnb13 := NB307_303.out; have hnc13 := NB303_307.out; have hcz14_0 := cz_ BK307 0 (.slice none 0 0); have hfz14_0 := blk_frozen BK307.out 0; have hcz15_0 := cz_ BK302 0 (.slice A0_0 l0_0.length c0_0); have hfz15_0 := blk_frozen BK302.out 0) | ((with_reducible refine gate_callee (f := 31) rfl ?_); refine gl_ (some 11) Try.func31 #[.agg #[.slice A0_0 l0_0.length c0_0]] ?_; (with_reducible refine (impl_TableOk.calls k _ _ l0_0 true _ ?side1 ?side2 A3.out).mono ?_); (case side1 => exact Kd.C_below HR0_0.out (by repeat (first | (with_reducible first | exact HB.out | apply below_alloc | apply pw_below_drewN | apply below_drew1 | refine below_set ?_ GE302.out | refine below_set ?_ GE303.out | refine below_set ?_ GE307.out) | exact HB.out))); (case side2 => exact HC0_0.out); rintro e w16 ⟨rfl, hb⟩; refine ⟨_, rfl, ?_⟩; replace HO306 := rs_ HO306 BK307 hb; replace BK302 := bf_ BK302 NB302_307 hb; replace BK303 := bf_ BK303 NB303_307 hb; replace BK307 := Aside0.mk (blk_below (g := gb307) (o := .cells #[.slice Ao11 t304.length co11] 30 (0, 0)) (by (with_reducible repeat (first | refine blk_drewN ?_ _ | refine blk_drew ?_ | refine blk_alloc ?_ _)); refine blk_put (cs := #[.slice none 0 0]) ?_ 0 _ rfl; (with_reducible repeat (first | refine blk_drewN ?_ _ | refine blk_drew ?_ | refine blk_alloc ?_ _)); exact BK307.out) hb); replace HB := Aside0.mk (bt_ HB hb); (try clear hb); (try clear hb2); (try clear hk); (try clear hi)))
 (try simp only [Act.put, List.setIfInBounds_toArray, List.set_cons_zero, List.set_cons_succ])
 go_loopg [] k (fun kq w' => ∃ (x308000_1 : List (S43)) (u308000 : Value), Aside0 (impl_Squeeze.l0 kq x308000_1 = some (r1, r2)) ∧ Aside0 (kq ≤ k) ∧ Aside0 (Kd.R k43 43 w' w.heap.size (fun _ => True) u308000 x308000_1) ∧ Aside0 (w'.heap[gb302]? = some (.cells #[(.slice A0_0 l0_0.length c0_0)] 30 (0, 0))) ∧ Aside0 (w'.heap[gb303]? = some (.cells #[(.slice none 0 0)] 30 (0, 0))) ∧ Aside0 (w'.heap[gb307]? = some (.cells #[u308000] 30 (0, 0))) ∧ Aside0 (Below w.heap.size w w'))
 case atStart => exact ⟨(t304), (.slice Ao11 t304.length co11), H', ⟨Nat.le_refl _⟩, ⟨by (with_reducible repeat (first | apply Kd.R_alloc | apply Kd.R_drewN | apply Kd.R_drew)); exact HO306.out⟩, ⟨by (with_reducible repeat (first | refine blk_drewN ?_ _ | refine blk_drew ?_ | refine blk_alloc ?_ _)); exact BK302.out⟩, ⟨by (with_reducible repeat (first | refine blk_drewN ?_ _ | refine blk_drew ?_ | refine blk_alloc ?_ _)); exact BK303.out⟩, ⟨by (with_reducible repeat (first | refine blk_drewN ?_ _ | refine blk_drew ?_ | refine blk_alloc ?_ _)); exact BK307.out⟩, ⟨by repeat (first | (with_reducible first | exact HB.out | apply below_alloc | apply pw_below_drewN | apply below_drew1 | refine below_set ?_ GE302.out | refine below_set ?_ GE303.out | refine below_set ?_ GE307.out) | exact HB.out)⟩⟩
 case round =>
  clear H'
  try clear c1
  try clear p2
  try clear c3
  try clear c4
  try clear c7
  try clear c12
  try clear c13
  try clear hcz14_0
  try clear hcz15_0
  try clear hcz8_0
  try clear hfz14_0
  try clear hfz15_0
  try clear hfz8_0
  obtain ⟨x308000_1, u308000, HA, HK1, HO_308000, BK302, BK303, BK307, HB⟩ := hrel
  cases gk with
  | zero => exact absurd HA.out (by simp [impl_Squeeze.l0])
  | succ k1 =>
   have H := HA.out
   clear HA
   simp only [impl_Squeeze.l0] at H
   have H' := Aside0.mk H
   clear H
   have hnb17 := NB307_302.out
   have hnc17 := NB302_307.out
   have hnb18 := NB307_303.out
   have hnc18 := NB303_307.out
   have hcz19_0 := cz_ BK307 0 (u308000)
   have hfz19_0 := blk_frozen BK307.out 0
   obtain ⟨Ao20, co20, eo20⟩ := Kd.R_slice HO_308000.out
   subst eo20
   go_wp2
   go_loopg [5, 17] k1 (fun kq v5 v17 w' => ∃ (x5_2 : Int) (x17_2 : Int), v5 = .int .i64 x5_2 ∧ v17 = .int .i64 x17_2 ∧ Aside0 (impl_Squeeze.l1 kq x5_2 x308000_1 (x308000_1.length : Int) x17_2 x308000_1 = some (r1, r2)) ∧ Aside0 (kq ≤ k1) ∧ Aside0 (Kd.R k43 43 w' w.heap.size (fun _ => True) (.slice Ao20 x308000_1.length co20) x308000_1) ∧ Aside0 (Kd.R k43 43 w' w.heap.size (fun _ => True) (.slice Ao20 x308000_1.length co20) x308000_1) ∧ Aside0 (w'.heap[gb302]? = some (.cells #[(.slice A0_0 l0_0.length c0_0)] 30 (0, 0))) ∧ Aside0 (w'.heap[gb303]? = some (.cells #[(.slice none 0 0)] 30 (0, 0))) ∧ Aside0 (w'.heap[gb307]? = some (.cells #[(.slice Ao20 x308000_1.length co20)] 30 (0, 0))) ∧ Aside0 (Below w.heap.size w w'))
   case atStart => exact ⟨((-1)), (0), (by first | rfl | (simp; done) | (simp [*]; done)), (by first | rfl | (simp; done) | (simp [*]; done)), H', ⟨Nat.le_refl _⟩, ⟨by (with_reducible repeat (first | apply Kd.R_alloc | apply Kd.R_drewN | apply Kd.R_drew)); exact HO_308000.out⟩, ⟨by (with_reducible repeat (first | apply Kd.R_alloc | apply Kd.R_drewN | apply Kd.R_drew)); exact HO_308000.out⟩, ⟨by (with_reducible repeat (first | refine blk_drewN ?_ _ | refine blk_drew ?_ | refine blk_alloc ?_ _)); exact BK302.out⟩, ⟨by (with_reducible repeat (first | refine blk_drewN ?_ _ | refine blk_drew ?_ | refine blk_alloc ?_ _)); exact BK303.out⟩, ⟨by (with_reducible repeat (first | refine blk_drewN ?_ _ | refine blk_drew ?_ | refine blk_alloc ?_ _)); exact BK307.out⟩, ⟨by repeat (first | (with_reducible first | exact HB.out | apply below_alloc | apply pw_below_drewN | apply below_drew1 | refine below_set ?_ GE302.out | refine below_set ?_ GE303.out | refine below_set ?_ GE307.out) | exact HB.out)⟩⟩
   case round =>
    clear H'
    try clear c1
    try clear p2
    try clear c3
    try clear c4
    try clear c7
    try clear c12
    try clear c13
    try clear c17
    try clear c18
    try clear c19
    try clear hcz14_0
    try clear hcz15_0
    try clear hcz19_0
    try clear hcz8_0
    try clear hfz14_0
    try clear hfz15_0
    try clear hfz19_0
    try clear hfz8_0
    try clear p2
    obtain ⟨x5_2, x17_2, rfl, rfl, HA, HK2, HO_15, HO_308000, BK302, BK303, BK307, HB⟩ := hrel
    cases gk with
    | zero => exact absurd HA.out (by simp [impl_Squeeze.l1])
    | succ k2 =>
     have H := HA.out
     clear HA
     simp only [impl_Squeeze.l1] at H
     by_cases c21 : x17_2 < (x308000_1.length : Int)
     rotate_left
     ·rw [if_neg c21] at H
      have c21b0 : decide (x17_2 < (x308000_1.length : Int)) = false := decide_eq_false c21
      clear c21
      by_cases c62 : x5_2 < 0
      ·rw [if_pos c62] at H
       have c62b0 : decide (x5_2 < 0) = true := decide_eq_true c62
       clear c62
       simp only [Option.some.injEq, Prod.mk.injEq] at H
       obtain ⟨rfl, rfl⟩ := H
       have hnb63 := NB307_302.out
       have hnc63 := NB302_307.out
       have hnb64 := NB307_303.out
       have hnc64 := NB303_307.out
       have hcz65_0 := cz_ BK307 0 (.slice Ao20 x308000_1.length co20)
       have hfz65_0 := blk_frozen BK307.out 0
       have hnb66 := NB303_302.out
       have hnc66 := NB302_303.out
       have hcz67_0 := cz_ BK303 0 (.slice none 0 0)
       have hfz67_0 := blk_frozen BK303.out 0
       go_wp2
       refine bodyPost_ret (results_ct rfl _ _ gb303 30 #[.slice Ao20 x308000_1.length co20] (0, 0) _ rfl (by (with_reducible repeat (first | refine blk_drewN ?_ _ | refine blk_drew ?_ | refine blk_alloc ?_ _)); refine blk_put (cs := #[.slice none 0 0]) ?_ 0 _ rfl; (with_reducible repeat (first | refine blk_drewN ?_ _ | refine blk_drew ?_ | refine blk_alloc ?_ _)); exact BK303.out) Try.underlying30 rfl (by kernel_rfl)) rfl ?_
       exact ⟨_, by first | rfl | (simp [errW_none, errW_some] <;> rfl) | (simp [*, errW_none, errW_some] <;> rfl), by (with_reducible repeat (first | apply Kd.R_alloc | apply Kd.R_drewN | apply Kd.R_drew)); exact Kd.R_mono (Kd.R_far (p := ⟨gb303, 0, none⟩) (Kd.R_types HO_308000.out BK303.out (by decide)) (fun _ hk => hk.2) (.slice Ao20 x308000_1.length co20)) (fun _ hk => trivial), by repeat (first | (with_reducible first | exact HB.out | apply below_alloc | apply pw_below_drewN | apply below_drew1 | refine below_set ?_ GE302.out | refine below_set ?_ GE303.out | refine below_set ?_ GE307.out) | exact HB.out)⟩
      rw [if_neg c62] at H
      have c62b0 : decide (x5_2 < 0) = false := decide_eq_false c62
      clear c62
      replace H := Option.bind_eq_some_iff.mp H
      obtain ⟨t313, A680, H⟩ := H
      have A68 := Aside0.mk A680
      clear A680
      have H' := Aside0.mk H
      clear H
      have hnb69 := NB307_302.out
      have hnc69 := NB302_307.out
      have hnb70 := NB307_303.out
      have hnc70 := NB303_307.out
      have hcz71_0 := cz_ BK307 0 (.slice Ao20 x308000_1.length co20)
      have hfz71_0 := blk_frozen BK307.out 0
      go_wp2_with (first | ((with_reducible refine gate_callee (f := 33) rfl ?_); refine gl_ (some 53) Try.func33 #[.slice Ao20 x308000_1.length co20, .int .i64 x5_2, .int .i64 (wrap64 (x5_2 + 1))] ?_; (with_reducible refine (slices_Delete_impl_Route_impl_Route.calls (fun k_ => some k_ = (.slice Ao20 x308000_1.length co20 : Value).ownBlock) (.slice Ao20 x308000_1.length co20) x308000_1 x5_2 (wrap64 (x5_2 + 1)) t313 w _ ?side1 ?side2 A68.out).mono ?_); (case side1 => exact by_ HB); (case side2 => exact Kd.R_tight rfl HO_308000.out); rintro e w72 ⟨v314, rfl, ho0, hb, hkp⟩; refine ⟨_, rfl, ?_⟩; have HO315 := Aside0.mk (Kd.R_mono (ok' := fun k_ => True) ho0 (fun k_ hk_ => trivial)); replace BK302 := bk_ BK302 hkp (fun hs_ => (Kd.R_ne HO_308000.out BK302.out (by decide)) hs_); replace BK303 := bk_ BK303 hkp (fun hs_ => (Kd.R_ne HO_308000.out BK303.out (by decide)) hs_); replace BK307 := bk_ BK307 hkp (fun hs_ => (Kd.R_ne HO_308000.out BK307.out (by decide)) hs_); replace HB := Aside0.mk (hb); clear HO_308000; (try clear hb); (try clear hkp); (try clear ho0); obtain ⟨Ao73, co73, eo73⟩ := Kd.R_slice HO315.out; subst eo73; have hcz74_0 := cz_ BK307 0 (.slice Ao20 x308000_1.length co20); have hfz74_0 := blk_frozen BK307.out 0))
      go_roundg k2
      case measure => have := HK1.out; have := HK2.out; omega
      case rel => exact ⟨(t313), (.slice Ao73 t313.length co73), H', ⟨by have := HK1.out; have := HK2.out; omega⟩, ⟨by (with_reducible repeat (first | apply Kd.R_alloc | apply Kd.R_drewN | apply Kd.R_drew)); exact Kd.R_mono (Kd.R_far (p := ⟨gb307, 0, none⟩) (Kd.R_types HO315.out BK307.out (by decide)) (fun _ hk => hk.2) (.slice Ao73 t313.length co73)) (fun _ hk => trivial)⟩, ⟨by (with_reducible repeat (first | refine blk_drewN ?_ _ | refine blk_drew ?_ | refine blk_alloc ?_ _)); refine blk_far ?_ NB302_307.out _; (with_reducible repeat (first | refine blk_drewN ?_ _ | refine blk_drew ?_ | refine blk_alloc ?_ _)); exact BK302.out⟩, ⟨by (with_reducible repeat (first | refine blk_drewN ?_ _ | refine blk_drew ?_ | refine blk_alloc ?_ _)); refine blk_far ?_ NB303_307.out _; (with_reducible repeat (first | refine blk_drewN ?_ _ | refine blk_drew ?_ | refine blk_alloc ?_ _)); exact BK303.out⟩, ⟨by (with_reducible repeat (first | refine blk_drewN ?_ _ | refine blk_drew ?_ | refine blk_alloc ?_ _)); refine blk_put (cs := #[.slice Ao20 x308000_1.length co20]) ?_ 0 _ rfl; (with_reducible repeat (first | refine blk_drewN ?_ _ | refine blk_drew ?_ | refine blk_alloc ?_ _)); exact BK307.out⟩, ⟨by repeat (first | (with_reducible first | exact HB.out | apply below_alloc | apply pw_below_drewN | apply below_drew1 | refine below_set ?_ GE302.out | refine below_set ?_ GE303.out | refine below_set ?_ GE307.out) | exact HB.out)⟩⟩
     rw [if_pos c21] at H
     have c21b0 : decide (x17_2 < (x308000_1.length : Int)) = true := decide_eq_true c21
     clear c21
     by_cases c22 : 0 ≤ x17_2
     rotate_left
     ·rw [if_neg c22] at H
      exact absurd H (by simp)
     rw [if_pos c22] at H
     have c22b0 : decide (0 ≤ x17_2) = true := decide_eq_true c22
     clear c22
     by_cases c23 : x17_2 < (x308000_1.length : Int)
     rotate_left
     ·rw [if_neg c23] at H
      exact absurd H (by simp)
     rw [if_pos c23] at H
     have c23b0 : decide (x17_2 < (x308000_1.length : Int)) = true := decide_eq_true c23
     clear c23
     replace H := Option.bind_eq_some_iff.mp H
     obtain ⟨t311, A240, H⟩ := H
     have A24 := Aside0.mk A240
     clear A240
     by_cases c25 : t311 = true
     rotate_left
     ·replace c25 := Bool.eq_false_iff.mpr c25
      subst c25
      rw [if_neg (show ¬ (false = true) by decide)] at H
      have H' := Aside0.mk H
      clear H
      have p309 : 0 ≤ (x17_2 : Int) := of_decide_eq_true (by first | (with_reducible assumption) | assumption)
      have q309 : x17_2 < (x308000_1.length : Int) := of_decide_eq_true (by first | (with_reducible assumption) | assumption)
      obtain ⟨ad309, e309, hx309_0, hx309_1, hx309_2⟩ := at_T43 (Kd.R_reads' HO_15.out).2.2 x17_2 p309 q309
      cases e309
      replace p309 := eq_true p309
      replace q309 := eq_true q309
      try go_wp2_with (first | ((with_reducible refine gate_dst (N := 7) rfl ?_); refine box_event ?hg (N := 7) ?hd (cs := #[.int .i64 0, .int .i64 0, .int .i64 0]) (t := 43) ?hr ?_; (case hd => rfl); (case hg => rfl); (case hr => first | (go_simp; done) | (go_simp; rfl)); intro gb310 hg w54 hbox hb; have BK310 := Aside0.mk hbox; have GW310 := ge_ HB hg; have GE310 := ge_ HB hg; have NB302_310 := nl_ BK302 hg; have NB310_302 := ng_ BK302 hg; have NB303_310 := nl_ BK303 hg; have NB310_303 := ng_ BK303 hg; have NB307_310 := nl_ BK307 hg; have NB310_307 := ng_ BK307 hg; replace HO_15 := Aside0.mk (Kd.R_below (Kd.R_elderB (hd_ HO_15) gb310 (Nat.le_of_eq hg.symm)) hb); replace HO_308000 := Aside0.mk (Kd.R_below (Kd.R_elderB (hd_ HO_308000) gb310 (Nat.le_of_eq hg.symm)) hb); replace HB := Aside0.mk (bt_ HB hb); replace BK302 := Aside0.mk (bb_ BK302 hb); replace BK303 := Aside0.mk (bb_ BK303 hb); replace BK307 := Aside0.mk (bb_ BK307 hb); clear hb hbox hg; have hnb55 := NB310_302.out; have hnc55 := NB302_310.out; have hnb56 := NB310_303.out; have hnc56 := NB303_310.out; have hnb57 := NB310_307.out; have hnc57 := NB307_310.out; have hcz58_0 := cz_ BK310 0 (.int .i64 0); have hcz58_1 := cz_ BK310 1 (.int .i64 0); have hcz58_2 := cz_ BK310 2 (.int .i64 0); have hfz58_0 := blk_frozen BK310.out 0; have hfz58_1 := blk_frozen BK310.out 1; have hfz58_2 := blk_frozen BK310.out 2))
      have n0_ : Aside0 (Kd.R k43 43 (((w54.setCell ⟨gb310, 0, none⟩ (.int .i64 ((rd_T43 x308000_1 x17_2).f0.f0))).setCell ⟨gb310, 1, none⟩ (.int .i64 ((rd_T43 x308000_1 x17_2).f0.f1))).setCell ⟨gb310, 2, none⟩ (.int .i64 ((rd_T43 x308000_1 x17_2).f1))) w.heap.size (fun k_ => k_ ≠ gb310) (.slice (some ad309) x308000_1.length co20) x308000_1) := ⟨by (with_reducible repeat (first | apply Kd.R_alloc | apply Kd.R_drewN | apply Kd.R_drew)); exact Kd.R_mono (Kd.R_far (p := ⟨gb310, 2, none⟩) (Kd.R_far (p := ⟨gb310, 1, none⟩) (Kd.R_far (p := ⟨gb310, 0, none⟩) (Kd.R_mono HO_15.out (fun k_ hk => (⟨hk, hk.2⟩ : _ ∧ k_ ≠ gb310))) (fun _ hk => hk.2) (.int .i64 ((rd_T43 x308000_1 x17_2).f0.f0))) (fun _ hk => hk.2) (.int .i64 ((rd_T43 x308000_1 x17_2).f0.f1))) (fun _ hk => hk.2) (.int .i64 ((rd_T43 x308000_1 x17_2).f1))) (fun _ hk => hk.1.2)⟩
      have n1_ : Aside0 (Kd.R k43 43 (((w54.setCell ⟨gb310, 0, none⟩ (.int .i64 ((rd_T43 x308000_1 x17_2).f0.f0))).setCell ⟨gb310, 1, none⟩ (.int .i64 ((rd_T43 x308000_1 x17_2).f0.f1))).setCell ⟨gb310, 2, none⟩ (.int .i64 ((rd_T43 x308000_1 x17_2).f1))) w.heap.size (fun k_ => k_ ≠ gb310) (.slice (some ad309) x308000_1.length co20) x308000_1) := ⟨by (with_reducible repeat (first | apply Kd.R_alloc | apply Kd.R_drewN | apply Kd.R_drew)); exact Kd.R_mono (Kd.R_far (p := ⟨gb310, 2, none⟩) (Kd.R_far (p := ⟨gb310, 1, none⟩) (Kd.R_far (p := ⟨gb310, 0, none⟩) (Kd.R_mono HO_308000.out (fun k_ hk => (⟨hk, hk.2⟩ : _ ∧ k_ ≠ gb310))) (fun _ hk => hk.2) (.int .i64 ((rd_T43 x308000_1 x17_2).f0.f0))) (fun _ hk => hk.2) (.int .i64 ((rd_T43 x308000_1 x17_2).f0.f1))) (fun _ hk => hk.2) (.int .i64 ((rd_T43 x308000_1 x17_2).f1))) (fun _ hk => hk.1.2)⟩
      have n2_ : Aside0 ((((w54.setCell ⟨gb310, 0, none⟩ (.int .i64 ((rd_T43 x308000_1 x17_2).f0.f0))).setCell ⟨gb310, 1, none⟩ (.int .i64 ((rd_T43 x308000_1 x17_2).f0.f1))).setCell ⟨gb310, 2, none⟩ (.int .i64 ((rd_T43 x308000_1 x17_2).f1))).heap[gb302]? = some (.cells #[.slice A0_0 l0_0.length c0_0] 30 (0, 0))) := ⟨by (with_reducible repeat (first | refine blk_drewN ?_ _ | refine blk_drew ?_ | refine blk_alloc ?_ _)); refine blk_far ?_ NB302_310.out _; (with_reducible repeat (first | refine blk_drewN ?_ _ | refine blk_drew ?_ | refine blk_alloc ?_ _)); refine blk_far ?_ NB302_310.out _; (with_reducible repeat (first | refine blk_drewN ?_ _ | refine blk_drew ?_ | refine blk_alloc ?_ _)); refine blk_far ?_ NB302_310.out _; (with_reducible repeat (first | refine blk_drewN ?_ _ | refine blk_drew ?_ | refine blk_alloc ?_ _)); exact BK302.out⟩
      have n3_ : Aside0 ((((w54.setCell ⟨gb310, 0, none⟩ (.int .i64 ((rd_T43 x308000_1 x17_2).f0.f0))).setCell ⟨gb310, 1, none⟩ (.int .i64 ((rd_T43 x308000_1 x17_2).f0.f1))).setCell ⟨gb310, 2, none⟩ (.int .i64 ((rd_T43 x308000_1 x17_2).f1))).heap[gb303]? = some (.cells #[.slice none 0 0] 30 (0, 0))) := ⟨by (with_reducible repeat (first | refine blk_drewN ?_ _ | refine blk_drew ?_ | refine blk_alloc ?_ _)); refine blk_far ?_ NB303_310.out _; (with_reducible repeat (first | refine blk_drewN ?_ _ | refine blk_drew ?_ | refine blk_alloc ?_ _)); refine blk_far ?_ NB303_310.out _; (with_reducible repeat (first | refine blk_drewN ?_ _ | refine blk_drew ?_ | refine blk_alloc ?_ _)); refine blk_far ?_ NB303_310.out _; (with_reducible repeat (first | refine blk_drewN ?_ _ | refine blk_drew ?_ | refine blk_alloc ?_ _)); exact BK303.out⟩
      have n4_ : Aside0 ((((w54.setCell ⟨gb310, 0, none⟩ (.int .i64 ((rd_T43 x308000_1 x17_2).f0.f0))).setCell ⟨gb310, 1, none⟩ (.int .i64 ((rd_T43 x308000_1 x17_2).f0.f1))).setCell ⟨gb310, 2, none⟩ (.int .i64 ((rd_T43 x308000_1 x17_2).f1))).heap[gb307]? = some (.cells #[.slice (some ad309) x308000_1.length co20] 30 (0, 0))) := ⟨by (with_reducible repeat (first | refine blk_drewN ?_ _ | refine blk_drew ?_ | refine blk_alloc ?_ _)); refine blk_far ?_ NB307_310.out _; (with_reducible repeat (first | refine blk_drewN ?_ _ | refine blk_drew ?_ | refine blk_alloc ?_ _)); refine blk_far ?_ NB307_310.out _; (with_reducible repeat (first | refine blk_drewN ?_ _ | refine blk_drew ?_ | refine blk_alloc ?_ _)); refine blk_far ?_ NB307_310.out _; (with_reducible repeat (first | refine blk_drewN ?_ _ | refine blk_drew ?_ | refine blk_alloc ?_ _)); exact BK307.out⟩
      have n5_ : Aside0 ((((w54.setCell ⟨gb310, 0, none⟩ (.int .i64 ((rd_T43 x308000_1 x17_2).f0.f0))).setCell ⟨gb310, 1, none⟩ (.int .i64 ((rd_T43 x308000_1 x17_2).f0.f1))).setCell ⟨gb310, 2, none⟩ (.int .i64 ((rd_T43 x308000_1 x17_2).f1))).heap[gb310]? = some (.cells #[.int .i64 ((rd_T43 x308000_1 x17_2).f0.f0), .int .i64 ((rd_T43 x308000_1 x17_2).f0.f1), .int .i64 ((rd_T43 x308000_1 x17_2).f1)] 43 (0, 0))) := ⟨by (with_reducible repeat (first | refine blk_drewN ?_ _ | refine blk_drew ?_ | refine blk_alloc ?_ _)); refine blk_put (cs := #[.int .i64 ((rd_T43 x308000_1 x17_2).f0.f0), .int .i64 ((rd_T43 x308000_1 x17_2).f0.f1), .int .i64 0]) ?_ 2 _ rfl; (with_reducible repeat (first | refine blk_drewN ?_ _ | refine blk_drew ?_ | refine blk_alloc ?_ _)); refine blk_put (cs := #[.int .i64 ((rd_T43 x308000_1 x17_2).f0.f0), .int .i64 0, .int .i64 0]) ?_ 1 _ rfl; (with_reducible repeat (first | refine blk_drewN ?_ _ | refine blk_drew ?_ | refine blk_alloc ?_ _)); refine blk_put (cs := #[.int .i64 0, .int .i64 0, .int .i64 0]) ?_ 0 _ rfl; (with_reducible repeat (first | refine blk_drewN ?_ _ | refine blk_drew ?_ | refine blk_alloc ?_ _)); exact BK310.out⟩
      have n6_ : Aside0 (Below w.heap.size w (((w54.setCell ⟨gb310, 0, none⟩ (.int .i64 ((rd_T43 x308000_1 x17_2).f0.f0))).setCell ⟨gb310, 1, none⟩ (.int .i64 ((rd_T43 x308000_1 x17_2).f0.f1))).setCell ⟨gb310, 2, none⟩ (.int .i64 ((rd_T43 x308000_1 x17_2).f1)))) := ⟨by repeat (first | (with_reducible first | exact HB.out | apply below_alloc | apply pw_below_drewN | apply below_drew1 | refine below_set ?_ GE302.out | refine below_set ?_ GE303.out | refine below_set ?_ GE307.out | refine below_set ?_ GE310.out) | exact HB.out)⟩
      (try clear HO_15)
      (try clear HO_308000)
      (try clear BK302)
      (try clear BK303)
      (try clear BK307)
      (try clear BK310)
      (try clear HB)
      generalize (((w54.setCell ⟨gb310, 0, none⟩ (.int .i64 ((rd_T43 x308000_1 x17_2).f0.f0))).setCell ⟨gb310, 1, none⟩ (.int .i64 ((rd_T43 x308000_1 x17_2).f0.f1))).setCell ⟨gb310, 2, none⟩ (.int .i64 ((rd_T43 x308000_1 x17_2).f1))) = w59 at n0_ n1_ n2_ n3_ n4_ n5_ n6_ ⊢
      have HO_15 := n0_
      have HO_308000 := n1_
      have BK302 := n2_
      have BK303 := n3_
      have BK307 := n4_
      have BK310 := n5_
      have HB := n6_
      clear n0_ n1_ n2_ n3_ n4_ n5_ n6_
      replace HO_15 := Aside0.mk (Kd.R_drew HO_15.out)
      replace HO_308000 := Aside0.mk (Kd.R_drew HO_308000.out)
      replace BK302 := Aside0.mk (blk_drew BK302.out)
      replace BK303 := Aside0.mk (blk_drew BK303.out)
      replace BK307 := Aside0.mk (blk_drew BK307.out)
      replace BK310 := Aside0.mk (blk_drew BK310.out)
      replace HB := Aside0.mk (below_drew1 HB.out)
      refine start_ (n := 21) (S := fun w' => w'.cell? ⟨gb307, 0, none⟩ = some (.slice (some ad309) x308000_1.length co20) ∧ w'.cell? ⟨gb310, 0, none⟩ = some (.int .i64 ((rd_T43 x308000_1 x17_2).f0.f0)) ∧ w'.cell? ⟨gb310, 1, none⟩ = some (.int .i64 ((rd_T43 x308000_1 x17_2).f0.f1)) ∧ w'.cell? ⟨gb310, 2, none⟩ = some (.int .i64 ((rd_T43 x308000_1 x17_2).f1))) (ds := []) ba16_0 (by kernel_rfl) rfl rfl ⟨(blk_cell BK307.out 0).trans rfl, (blk_cell BK310.out 0).trans rfl, (blk_cell BK310.out 1).trans rfl, (blk_cell BK310.out 2).trans rfl⟩ (fun hHeld => ?_); refine with_tabW impl_Squeeze.tab8 impl_Squeeze.bits8 (fun HT_ HW_ => ?_)
      generalize w59.drew = w60 at HO_15 HO_308000 BK302 BK303 BK307 BK310 HB hHeld ⊢
      refine pz_ 0 22 ba16_1 HT_ ?_
      refine pt_ 1 23 ba16_2 HT_ HW_ hHeld ?_
      refine pt_ 2 24 ba16_3 HT_ HW_ hHeld ?_
      refine one_ (i := 3) (N := some 25) ba16_4 rfl rfl (one_of HT_.out (by kernel_rfl)) (by decide) (fun K hK => ?_)
      refine gz_ Try.func41 #[.slice (some ad309) x308000_1.length co20, .agg #[.int .i64 ((rd_T43 x308000_1 x17_2).f0.f0), .int .i64 ((rd_T43 x308000_1 x17_2).f0.f1), .int .i64 ((rd_T43 x308000_1 x17_2).f1)]] ?_
      with_reducible refine (impl_isRedundant.calls k2 _ _ x308000_1 ((rd_T43 x308000_1 x17_2).f0.f0) ((rd_T43 x308000_1 x17_2).f0.f1) ((rd_T43 x308000_1 x17_2).f1) false _ ?side1 ?side2 A24.out).mono ?_
      (case side1 => exact rc_ HO_308000)
      (case side2 => exact (Kd.R_reads' HO_308000.out).2.1)
      rintro e w61 ⟨rfl, hb⟩
      refine ⟨_, rfl, ?_⟩
      replace HO_15 := rb_ HO_15 hb
      replace HO_308000 := rb_ HO_308000 hb
      replace BK302 := Aside0.mk (bb_ BK302 hb)
      replace BK303 := Aside0.mk (bb_ BK303 hb)
      replace BK307 := Aside0.mk (bb_ BK307 hb)
      replace BK310 := Aside0.mk (bb_ BK310 hb)
      replace HB := Aside0.mk (bt_ HB hb)
      (try clear hb)
      (try clear hb2)
      (try clear hk)
      (try clear hi)
      refine hK.out _ _ ⟨(blk_cell BK307.out 0).trans rfl, (blk_cell BK310.out 0).trans rfl, (blk_cell BK310.out 1).trans rfl, (blk_cell BK310.out 2).trans rfl⟩ (fun hHeld => ?_)
      clear hK K
      refine nz_ 25 ?_
      refine pz_ 4 26 ba16_5 HT_ ?_
      refine pu_ 5 27 ba16_6 HT_ ?_
      refine pu_ 6 28 ba16_7 HT_ ?_
      refine pu_ 7 29 ba16_8 HT_ ?_
      refine pu_ 8 30 ba16_9 HT_ ?_
      refine pu_ 9 31 ba16_10 HT_ ?_
      refine pu_ 10 32 ba16_11 HT_ ?_
      refine pu_ 11 33 ba16_12 HT_ ?_
      refine pu_ 12 34 ba16_13 HT_ ?_
      refine pu_ 13 35 ba16_14 HT_ ?_
      refine pu_ 14 36 ba16_15 HT_ ?_
      refine pu_ 15 37 ba16_16 HT_ ?_
      refine pu_ 16 38 ba16_17 HT_ ?_
      refine pu_ 17 39 ba16_18 HT_ ?_
      refine pu_ 18 40 ba16_19 HT_ ?_
      refine pu_ 19 41 ba16_20 HT_ ?_
      refine pz_ 20 42 ba16_21 HT_ ?_
      refine done_ (done_of HT_.out (by kernel_rfl)) ?_
      try go_wp2
      go_roundg k2
      case measure => have := HK1.out; have := HK2.out; omega
      case rel => exact ⟨(x5_2), (wrap64 (x17_2 + 1)), (by first | rfl | (simp; done) | (simp [*]; done)), (by first | rfl | (simp; done) | (simp [*]; done)), H', ⟨by have := HK1.out; have := HK2.out; omega⟩, ⟨by (with_reducible repeat (first | apply Kd.R_alloc | apply Kd.R_drewN | apply Kd.R_drew)); exact Kd.R_mono HO_15.out (fun _ hk => trivial)⟩, ⟨by (with_reducible repeat (first | apply Kd.R_alloc | apply Kd.R_drewN | apply Kd.R_drew)); exact Kd.R_mono HO_308000.out (fun _ hk => trivial)⟩, ⟨by (with_reducible repeat (first | refine blk_drewN ?_ _ | refine blk_drew ?_ | refine blk_alloc ?_ _)); exact BK302.out⟩, ⟨by (with_reducible repeat (first | refine blk_drewN ?_ _ | refine blk_drew ?_ | refine blk_alloc ?_ _)); exact BK303.out⟩, ⟨by (with_reducible repeat (first | refine blk_drewN ?_ _ | refine blk_drew ?_ | refine blk_alloc ?_ _)); exact BK307.out⟩, ⟨by repeat (first | (with_reducible first | exact HB.out | apply below_alloc | apply pw_below_drewN | apply below_drew1 | refine below_set ?_ GE302.out | refine below_set ?_ GE303.out | refine below_set ?_ GE307.out | refine below_set ?_ GE310.out) | exact HB.out)⟩⟩
     subst c25
     rw [if_pos rfl] at H
     by_cases c26 : x5_2 < 0
     ·rw [if_pos c26] at H
      have c26b0 : decide (x5_2 < 0) = true := decide_eq_true c26
      clear c26
      have H' := Aside0.mk H
      clear H
      have p309 : 0 ≤ (x17_2 : Int) := of_decide_eq_true (by first | (with_reducible assumption) | assumption)
      have q309 : x17_2 < (x308000_1.length : Int) := of_decide_eq_true (by first | (with_reducible assumption) | assumption)
      obtain ⟨ad309, e309, hx309_0, hx309_1, hx309_2⟩ := at_T43 (Kd.R_reads' HO_15.out).2.2 x17_2 p309 q309
      cases e309
      replace p309 := eq_true p309
      replace q309 := eq_true q309
      try go_wp2_with (first | ((with_reducible refine gate_dst (N := 7) rfl ?_); refine box_event ?hg (N := 7) ?hd (cs := #[.int .i64 0, .int .i64 0, .int .i64 0]) (t := 43) ?hr ?_; (case hd => rfl); (case hg => rfl); (case hr => first | (go_simp; done) | (go_simp; rfl)); intro gb310 hg w27 hbox hb; have BK310 := Aside0.mk hbox; have GW310 := ge_ HB hg; have GE310 := ge_ HB hg; have NB302_310 := nl_ BK302 hg; have NB310_302 := ng_ BK302 hg; have NB303_310 := nl_ BK303 hg; have NB310_303 := ng_ BK303 hg; have NB307_310 := nl_ BK307 hg; have NB310_307 := ng_ BK307 hg; replace HO_15 := Aside0.mk (Kd.R_below (Kd.R_elderB (hd_ HO_15) gb310 (Nat.le_of_eq hg.symm)) hb); replace HO_308000 := Aside0.mk (Kd.R_below (Kd.R_elderB (hd_ HO_308000) gb310 (Nat.le_of_eq hg.symm)) hb); replace HB := Aside0.mk (bt_ HB hb); replace BK302 := Aside0.mk (bb_ BK302 hb); replace BK303 := Aside0.mk (bb_ BK303 hb); replace BK307 := Aside0.mk (bb_ BK307 hb); clear hb hbox hg; have hnb28 := NB310_302.out; have hnc28 := NB302_310.out; have hnb29 := NB310_303.out; have hnc29 := NB303_310.out; have hnb30 := NB310_307.out; have hnc30 := NB307_310.out; have hcz31_0 := cz_ BK310 0 (.int .i64 0); have hcz31_1 := cz_ BK310 1 (.int .i64 0); have hcz31_2 := cz_ BK310 2 (.int .i64 0); have hfz31_0 := blk_frozen BK310.out 0; have hfz31_1 := blk_frozen BK310.out 1; have hfz31_2 := blk_frozen BK310.out 2))
      have n0_ : Aside0 (Kd.R k43 43 (((w27.setCell ⟨gb310, 0, none⟩ (.int .i64 ((rd_T43 x308000_1 x17_2).f0.f0))).setCell ⟨gb310, 1, none⟩ (.int .i64 ((rd_T43 x308000_1 x17_2).f0.f1))).setCell ⟨gb310, 2, none⟩ (.int .i64 ((rd_T43 x308000_1 x17_2).f1))) w.heap.size (fun k_ => k_ ≠ gb310) (.slice (some ad309) x308000_1.length co20) x308000_1) := ⟨by (with_reducible repeat (first | apply Kd.R_alloc | apply Kd.R_drewN | apply Kd.R_drew)); exact Kd.R_mono (Kd.R_far (p := ⟨gb310, 2, none⟩) (Kd.R_far (p := ⟨gb310, 1, none⟩) (Kd.R_far (p := ⟨gb310, 0, none⟩) (Kd.R_mono HO_15.out (fun k_ hk => (⟨hk, hk.2⟩ : _ ∧ k_ ≠ gb310))) (fun _ hk => hk.2) (.int .i64 ((rd_T43 x308000_1 x17_2).f0.f0))) (fun _ hk => hk.2) (.int .i64 ((rd_T43 x308000_1 x17_2).f0.f1))) (fun _ hk => hk.2) (.int .i64 ((rd_T43 x308000_1 x17_2).f1))) (fun _ hk => hk.1.2)⟩
      have n1_ : Aside0 (Kd.R k43 43 (((w27.setCell ⟨gb310, 0, none⟩ (.int .i64 ((rd_T43 x308000_1 x17_2).f0.f0))).setCell ⟨gb310, 1, none⟩ (.int .i64 ((rd_T43 x308000_1 x17_2).f0.f1))).setCell ⟨gb310, 2, none⟩ (.int .i64 ((rd_T43 x308000_1 x17_2).f1))) w.heap.size (fun k_ => k_ ≠ gb310) (.slice (some ad309) x308000_1.length co20) x308000_1) := ⟨by (with_reducible repeat (first | apply Kd.R_alloc | apply Kd.R_drewN | apply Kd.R_drew)); exact Kd.R_mono (Kd.R_far (p := ⟨gb310, 2, none⟩) (Kd.R_far (p := ⟨gb310, 1, none⟩) (Kd.R_far (p := ⟨gb310, 0, none⟩) (Kd.R_mono HO_308000.out (fun k_ hk => (⟨hk, hk.2⟩ : _ ∧ k_ ≠ gb310))) (fun _ hk => hk.2) (.int .i64 ((rd_T43 x308000_1 x17_2).f0.f0))) (fun _ hk => hk.2) (.int .i64 ((rd_T43 x308000_1 x17_2).f0.f1))) (fun _ hk => hk.2) (.int .i64 ((rd_T43 x308000_1 x17_2).f1))) (fun _ hk => hk.1.2)⟩
      have n2_ : Aside0 ((((w27.setCell ⟨gb310, 0, none⟩ (.int .i64 ((rd_T43 x308000_1 x17_2).f0.f0))).setCell ⟨gb310, 1, none⟩ (.int .i64 ((rd_T43 x308000_1 x17_2).f0.f1))).setCell ⟨gb310, 2, none⟩ (.int .i64 ((rd_T43 x308000_1 x17_2).f1))).heap[gb302]? = some (.cells #[.slice A0_0 l0_0.length c0_0] 30 (0, 0))) := ⟨by (with_reducible repeat (first | refine blk_drewN ?_ _ | refine blk_drew ?_ | refine blk_alloc ?_ _)); refine blk_far ?_ NB302_310.out _; (with_reducible repeat (first | refine blk_drewN ?_ _ | refine blk_drew ?_ | refine blk_alloc ?_ _)); refine blk_far ?_ NB302_310.out _; (with_reducible repeat (first | refine blk_drewN ?_ _ | refine blk_drew ?_ | refine blk_alloc ?_ _)); refine blk_far ?_ NB302_310.out _; (with_reducible repeat (first | refine blk_drewN ?_ _ | refine blk_drew ?_ | refine blk_alloc ?_ _)); exact BK302.out⟩
      have n3_ : Aside0 ((((w27.setCell ⟨gb310, 0, none⟩ (.int .i64 ((rd_T43 x308000_1 x17_2).f0.f0))).setCell ⟨gb310, 1, none⟩ (.int .i64 ((rd_T43 x308000_1 x17_2).f0.f1))).setCell ⟨gb310, 2, none⟩ (.int .i64 ((rd_T43 x308000_1 x17_2).f1))).heap[gb303]? = some (.cells #[.slice none 0 0] 30 (0, 0))) := ⟨by (with_reducible repeat (first | refine blk_drewN ?_ _ | refine blk_drew ?_ | refine blk_alloc ?_ _)); refine blk_far ?_ NB303_310.out _; (with_reducible repeat (first | refine blk_drewN ?_ _ | refine blk_drew ?_ | refine blk_alloc ?_ _)); refine blk_far ?_ NB303_310.out _; (with_reducible repeat (first | refine blk_drewN ?_ _ | refine blk_drew ?_ | refine blk_alloc ?_ _)); refine blk_far ?_ NB303_310.out _; (with_reducible repeat (first | refine blk_drewN ?_ _ | refine blk_drew ?_ | refine blk_alloc ?_ _)); exact BK303.out⟩
      have n4_ : Aside0 ((((w27.setCell ⟨gb310, 0, none⟩ (.int .i64 ((rd_T43 x308000_1 x17_2).f0.f0))).setCell ⟨gb310, 1, none⟩ (.int .i64 ((rd_T43 x308000_1 x17_2).f0.f1))).setCell ⟨gb310, 2, none⟩ (.int .i64 ((rd_T43 x308000_1 x17_2).f1))).heap[gb307]? = some (.cells #[.slice (some ad309) x308000_1.length co20] 30 (0, 0))) := ⟨by (with_reducible repeat (first | refine blk_drewN ?_ _ | refine blk_drew ?_ | refine blk_alloc ?_ _)); refine blk_far ?_ NB307_310.out _; (with_reducible repeat (first | refine blk_drewN ?_ _ | refine blk_drew ?_ | refine blk_alloc ?_ _)); refine blk_far ?_ NB307_310.out _; (with_reducible repeat (first | refine blk_drewN ?_ _ | refine blk_drew ?_ | refine blk_alloc ?_ _)); refine blk_far ?_ NB307_310.out _; (with_reducible repeat (first | refine blk_drewN ?_ _ | refine blk_drew ?_ | refine blk_alloc ?_ _)); exact BK307.out⟩
      have n5_ : Aside0 ((((w27.setCell ⟨gb310, 0, none⟩ (.int .i64 ((rd_T43 x308000_1 x17_2).f0.f0))).setCell ⟨gb310, 1, none⟩ (.int .i64 ((rd_T43 x308000_1 x17_2).f0.f1))).setCell ⟨gb310, 2, none⟩ (.int .i64 ((rd_T43 x308000_1 x17_2).f1))).heap[gb310]? = some (.cells #[.int .i64 ((rd_T43 x308000_1 x17_2).f0.f0), .int .i64 ((rd_T43 x308000_1 x17_2).f0.f1), .int .i64 ((rd_T43 x308000_1 x17_2).f1)] 43 (0, 0))) := ⟨by (with_reducible repeat (first | refine blk_drewN ?_ _ | refine blk_drew ?_ | refine blk_alloc ?_ _)); refine blk_put (cs := #[.int .i64 ((rd_T43 x308000_1 x17_2).f0.f0), .int .i64 ((rd_T43 x308000_1 x17_2).f0.f1), .int .i64 0]) ?_ 2 _ rfl; (with_reducible repeat (first | refine blk_drewN ?_ _ | refine blk_drew ?_ | refine blk_alloc ?_ _)); refine blk_put (cs := #[.int .i64 ((rd_T43 x308000_1 x17_2).f0.f0), .int .i64 0, .int .i64 0]) ?_ 1 _ rfl; (with_reducible repeat (first | refine blk_drewN ?_ _ | refine blk_drew ?_ | refine blk_alloc ?_ _)); refine blk_put (cs := #[.int .i64 0, .int .i64 0, .int .i64 0]) ?_ 0 _ rfl; (with_reducible repeat (first | refine blk_drewN ?_ _ | refine blk_drew ?_ | refine blk_alloc ?_ _)); exact BK310.out⟩
      have n6_ : Aside0 (Below w.heap.size w (((w27.setCell ⟨gb310, 0, none⟩ (.int .i64 ((rd_T43 x308000_1 x17_2).f0.f0))).setCell ⟨gb310, 1, none⟩ (.int .i64 ((rd_T43 x308000_1 x17_2).f0.f1))).setCell ⟨gb310, 2, none⟩ (.int .i64 ((rd_T43 x308000_1 x17_2).f1)))) := ⟨by repeat (first | (with_reducible first | exact HB.out | apply below_alloc | apply pw_below_drewN | apply below_drew1 | refine below_set ?_ GE302.out | refine below_set ?_ GE303.out | refine below_set ?_ GE307.out | refine below_set ?_ GE310.out) | exact HB.out)⟩
      (try clear HO_15)
      (try clear HO_308000)
      (try clear BK302)
      (try clear BK303)
      (try clear BK307)
      (try clear BK310)
      (try clear HB)
      generalize (((w27.setCell ⟨gb310, 0, none⟩ (.int .i64 ((rd_T43 x308000_1 x17_2).f0.f0))).setCell ⟨gb310, 1, none⟩ (.int .i64 ((rd_T43 x308000_1 x17_2).f0.f1))).setCell ⟨gb310, 2, none⟩ (.int .i64 ((rd_T43 x308000_1 x17_2).f1))) = w32 at n0_ n1_ n2_ n3_ n4_ n5_ n6_ ⊢
      have HO_15 := n0_
      have HO_308000 := n1_
      have BK302 := n2_
      have BK303 := n3_
      have BK307 := n4_
      have BK310 := n5_
      have HB := n6_
      clear n0_ n1_ n2_ n3_ n4_ n5_ n6_
      replace HO_15 := Aside0.mk (Kd.R_drew HO_15.out)
      replace HO_308000 := Aside0.mk (Kd.R_drew HO_308000.out)
      replace BK302 := Aside0.mk (blk_drew BK302.out)
      replace BK303 := Aside0.mk (blk_drew BK303.out)
      replace BK307 := Aside0.mk (blk_drew BK307.out)
      replace BK310 := Aside0.mk (blk_drew BK310.out)
      replace HB := Aside0.mk (below_drew1 HB.out)
      refine start_ (n := 21) (S := fun w' => w'.cell? ⟨gb307, 0, none⟩ = some (.slice (some ad309) x308000_1.length co20) ∧ w'.cell? ⟨gb310, 0, none⟩ = some (.int .i64 ((rd_T43 x308000_1 x17_2).f0.f0)) ∧ w'.cell? ⟨gb310, 1, none⟩ = some (.int .i64 ((rd_T43 x308000_1 x17_2).f0.f1)) ∧ w'.cell? ⟨gb310, 2, none⟩ = some (.int .i64 ((rd_T43 x308000_1 x17_2).f1))) (ds := []) ba16_0 (by kernel_rfl) rfl rfl ⟨(blk_cell BK307.out 0).trans rfl, (blk_cell BK310.out 0).trans rfl, (blk_cell BK310.out 1).trans rfl, (blk_cell BK310.out 2).trans rfl⟩ (fun hHeld => ?_); refine with_tabW impl_Squeeze.tab8 impl_Squeeze.bits8 (fun HT_ HW_ => ?_)
      generalize w32.drew = w33 at HO_15 HO_308000 BK302 BK303 BK307 BK310 HB hHeld ⊢
      refine pz_ 0 22 ba16_1 HT_ ?_
      refine pt_ 1 23 ba16_2 HT_ HW_ hHeld ?_
      refine pt_ 2 24 ba16_3 HT_ HW_ hHeld ?_
      refine one_ (i := 3) (N := some 25) ba16_4 rfl rfl (one_of HT_.out (by kernel_rfl)) (by decide) (fun K hK => ?_)
      refine gz_ Try.func41 #[.slice (some ad309) x308000_1.length co20, .agg #[.int .i64 ((rd_T43 x308000_1 x17_2).f0.f0), .int .i64 ((rd_T43 x308000_1 x17_2).f0.f1), .int .i64 ((rd_T43 x308000_1 x17_2).f1)]] ?_
      with_reducible refine (impl_isRedundant.calls k2 _ _ x308000_1 ((rd_T43 x308000_1 x17_2).f0.f0) ((rd_T43 x308000_1 x17_2).f0.f1) ((rd_T43 x308000_1 x17_2).f1) true _ ?side1 ?side2 A24.out).mono ?_
      (case side1 => exact rc_ HO_308000)
      (case side2 => exact (Kd.R_reads' HO_308000.out).2.1)
      rintro e w34 ⟨rfl, hb⟩
      refine ⟨_, rfl, ?_⟩
      replace HO_15 := rb_ HO_15 hb
      replace HO_308000 := rb_ HO_308000 hb
      replace BK302 := Aside0.mk (bb_ BK302 hb)
      replace BK303 := Aside0.mk (bb_ BK303 hb)
      replace BK307 := Aside0.mk (bb_ BK307 hb)
      replace BK310 := Aside0.mk (bb_ BK310 hb)
      replace HB := Aside0.mk (bt_ HB hb)
      (try clear hb)
      (try clear hb2)
      (try clear hk)
      (try clear hi)
      refine hK.out _ _ ⟨(blk_cell BK307.out 0).trans rfl, (blk_cell BK310.out 0).trans rfl, (blk_cell BK310.out 1).trans rfl, (blk_cell BK310.out 2).trans rfl⟩ (fun hHeld => ?_)
      clear hK K
      refine nz_ 25 ?_
      refine pz_ 4 26 ba16_5 HT_ ?_
      refine pz_ 5 27 ba16_6 HT_ ?_
      refine pz_ 6 28 ba16_7 HT_ ?_
      refine pz_ 7 29 ba16_8 HT_ ?_
      refine pu_ 8 30 ba16_9 HT_ ?_
      refine pu_ 9 31 ba16_10 HT_ ?_
      refine pu_ 10 32 ba16_11 HT_ ?_
      refine pu_ 11 33 ba16_12 HT_ ?_
      refine pu_ 12 34 ba16_13 HT_ ?_
      refine pu_ 13 35 ba16_14 HT_ ?_
      refine pu_ 14 36 ba16_15 HT_ ?_
      refine pu_ 15 37 ba16_16 HT_ ?_
      refine pu_ 16 38 ba16_17 HT_ ?_
      refine pu_ 17 39 ba16_18 HT_ ?_
      refine pu_ 18 40 ba16_19 HT_ ?_
      refine pz_ 19 41 ba16_20 HT_ ?_
      refine pz_ 20 42 ba16_21 HT_ ?_
      refine done_ (done_of HT_.out (by kernel_rfl)) ?_
      try go_wp2
      go_roundg k2
      case measure => have := HK1.out; have := HK2.out; omega
      case rel => exact ⟨(x17_2), (wrap64 (x17_2 + 1)), (by first | rfl | (simp; done) | (simp [*]; done)), (by first | rfl | (simp; done) | (simp [*]; done)), H', ⟨by have := HK1.out; have := HK2.out; omega⟩, ⟨by (with_reducible repeat (first | apply Kd.R_alloc | apply Kd.R_drewN | apply Kd.R_drew)); exact Kd.R_mono HO_15.out (fun _ hk => trivial)⟩, ⟨by (with_reducible repeat (first | apply Kd.R_alloc | apply Kd.R_drewN | apply Kd.R_drew)); exact Kd.R_mono HO_308000.out (fun _ hk => trivial)⟩, ⟨by (with_reducible repeat (first | refine blk_drewN ?_ _ | refine blk_drew ?_ | refine blk_alloc ?_ _)); exact BK302.out⟩, ⟨by (with_reducible repeat (first | refine blk_drewN ?_ _ | refine blk_drew ?_ | refine blk_alloc ?_ _)); exact BK303.out⟩, ⟨by (with_reducible repeat (first | refine blk_drewN ?_ _ | refine blk_drew ?_ | refine blk_alloc ?_ _)); exact BK307.out⟩, ⟨by repeat (first | (with_reducible first | exact HB.out | apply below_alloc | apply pw_below_drewN | apply below_drew1 | refine below_set ?_ GE302.out | refine below_set ?_ GE303.out | refine below_set ?_ GE307.out | refine below_set ?_ GE310.out) | exact HB.out)⟩⟩
     rw [if_neg c26] at H
     have c26b0 : decide (x5_2 < 0) = false := decide_eq_false c26
     clear c26
     by_cases c35 : 0 ≤ x5_2
     rotate_left
     ·rw [if_neg c35] at H
      exact absurd H (by simp)
     rw [if_pos c35] at H
     have c35b0 : decide (0 ≤ x5_2) = true := decide_eq_true c35
     clear c35
     by_cases c36 : x5_2 < (x308000_1.length : Int)
     rotate_left
     ·rw [if_neg c36] at H
      exact absurd H (by simp)
     rw [if_pos c36] at H
     have c36b0 : decide (x5_2 < (x308000_1.length : Int)) = true := decide_eq_true c36
     clear c36
     by_cases c37 : ((rd_T43 x308000_1 x17_2).f0.f1) > ((rd_T43 x308000_1 x5_2).f0.f1)
     ·rw [if_pos c37] at H
      have c37b0 : decide (((rd_T43 x308000_1 x5_2).f0.f1) < ((rd_T43 x308000_1 x17_2).f0.f1)) = true := decide_eq_true c37
      clear c37
      have H' := Aside0.mk H
      clear H
      have p309 : 0 ≤ (x17_2 : Int) := of_decide_eq_true (by first | (with_reducible assumption) | assumption)
      have q309 : x17_2 < (x308000_1.length : Int) := of_decide_eq_true (by first | (with_reducible assumption) | assumption)
      obtain ⟨ad309, e309, hx309_0, hx309_1, hx309_2⟩ := at_T43 (Kd.R_reads' HO_15.out).2.2 x17_2 p309 q309
      cases e309
      replace p309 := eq_true p309
      replace q309 := eq_true q309
      try go_wp2_with (first | ((with_reducible refine gate_dst (N := 7) rfl ?_); refine box_event ?hg (N := 7) ?hd (cs := #[.int .i64 0, .int .i64 0, .int .i64 0]) (t := 43) ?hr ?_; (case hd => rfl); (case hg => rfl); (case hr => first | (go_simp; done) | (go_simp; rfl)); intro gb310 hg w38 hbox hb; have BK310 := Aside0.mk hbox; have GW310 := ge_ HB hg; have GE310 := ge_ HB hg; have NB302_310 := nl_ BK302 hg; have NB310_302 := ng_ BK302 hg; have NB303_310 := nl_ BK303 hg; have NB310_303 := ng_ BK303 hg; have NB307_310 := nl_ BK307 hg; have NB310_307 := ng_ BK307 hg; replace HO_15 := Aside0.mk (Kd.R_below (Kd.R_elderB (hd_ HO_15) gb310 (Nat.le_of_eq hg.symm)) hb); replace HO_308000 := Aside0.mk (Kd.R_below (Kd.R_elderB (hd_ HO_308000) gb310 (Nat.le_of_eq hg.symm)) hb); replace HB := Aside0.mk (bt_ HB hb); replace BK302 := Aside0.mk (bb_ BK302 hb); replace BK303 := Aside0.mk (bb_ BK303 hb); replace BK307 := Aside0.mk (bb_ BK307 hb); clear hb hbox hg; have hnb39 := NB310_302.out; have hnc39 := NB302_310.out; have hnb40 := NB310_303.out; have hnc40 := NB303_310.out; have hnb41 := NB310_307.out; have hnc41 := NB307_310.out; have hcz42_0 := cz_ BK310 0 (.int .i64 0); have hcz42_1 := cz_ BK310 1 (.int .i64 0); have hcz42_2 := cz_ BK310 2 (.int .i64 0); have hfz42_0 := blk_frozen BK310.out 0; have hfz42_1 := blk_frozen BK310.out 1; have hfz42_2 := blk_frozen BK310.out 2))
      have n0_ : Aside0 (Kd.R k43 43 (((w38.setCell ⟨gb310, 0, none⟩ (.int .i64 ((rd_T43 x308000_1 x17_2).f0.f0))).setCell ⟨gb310, 1, none⟩ (.int .i64 ((rd_T43 x308000_1 x17_2).f0.f1))).setCell ⟨gb310, 2, none⟩ (.int .i64 ((rd_T43 x308000_1 x17_2).f1))) w.heap.size (fun k_ => k_ ≠ gb310) (.slice (some ad309) x308000_1.length co20) x308000_1) := ⟨by (with_reducible repeat (first | apply Kd.R_alloc | apply Kd.R_drewN | apply Kd.R_drew)); exact Kd.R_mono (Kd.R_far (p := ⟨gb310, 2, none⟩) (Kd.R_far (p := ⟨gb310, 1, none⟩) (Kd.R_far (p := ⟨gb310, 0, none⟩) (Kd.R_mono HO_15.out (fun k_ hk => (⟨hk, hk.2⟩ : _ ∧ k_ ≠ gb310))) (fun _ hk => hk.2) (.int .i64 ((rd_T43 x308000_1 x17_2).f0.f0))) (fun _ hk => hk.2) (.int .i64 ((rd_T43 x308000_1 x17_2).f0.f1))) (fun _ hk => hk.2) (.int .i64 ((rd_T43 x308000_1 x17_2).f1))) (fun _ hk => hk.1.2)⟩
      have n1_ : Aside0 (Kd.R k43 43 (((w38.setCell ⟨gb310, 0, none⟩ (.int .i64 ((rd_T43 x308000_1 x17_2).f0.f0))).setCell ⟨gb310, 1, none⟩ (.int .i64 ((rd_T43 x308000_1 x17_2).f0.f1))).setCell ⟨gb310, 2, none⟩ (.int .i64 ((rd_T43 x308000_1 x17_2).f1))) w.heap.size (fun k_ => k_ ≠ gb310) (.slice (some ad309) x308000_1.length co20) x308000_1) := ⟨by (with_reducible repeat (first | apply Kd.R_alloc | apply Kd.R_drewN | apply Kd.R_drew)); exact Kd.R_mono (Kd.R_far (p := ⟨gb310, 2, none⟩) (Kd.R_far (p := ⟨gb310, 1, none⟩) (Kd.R_far (p := ⟨gb310, 0, none⟩) (Kd.R_mono HO_308000.out (fun k_ hk => (⟨hk, hk.2⟩ : _ ∧ k_ ≠ gb310))) (fun _ hk => hk.2) (.int .i64 ((rd_T43 x308000_1 x17_2).f0.f0))) (fun _ hk => hk.2) (.int .i64 ((rd_T43 x308000_1 x17_2).f0.f1))) (fun _ hk => hk.2) (.int .i64 ((rd_T43 x308000_1 x17_2).f1))) (fun _ hk => hk.1.2)⟩
      have n2_ : Aside0 ((((w38.setCell ⟨gb310, 0, none⟩ (.int .i64 ((rd_T43 x308000_1 x17_2).f0.f0))).setCell ⟨gb310, 1, none⟩ (.int .i64 ((rd_T43 x308000_1 x17_2).f0.f1))).setCell ⟨gb310, 2, none⟩ (.int .i64 ((rd_T43 x308000_1 x17_2).f1))).heap[gb302]? = some (.cells #[.slice A0_0 l0_0.length c0_0] 30 (0, 0))) := ⟨by (with_reducible repeat (first | refine blk_drewN ?_ _ | refine blk_drew ?_ | refine blk_alloc ?_ _)); refine blk_far ?_ NB302_310.out _; (with_reducible repeat (first | refine blk_drewN ?_ _ | refine blk_drew ?_ | refine blk_alloc ?_ _)); refine blk_far ?_ NB302_310.out _; (with_reducible repeat (first | refine blk_drewN ?_ _ | refine blk_drew ?_ | refine blk_alloc ?_ _)); refine blk_far ?_ NB302_310.out _; (with_reducible repeat (first | refine blk_drewN ?_ _ | refine blk_drew ?_ | refine blk_alloc ?_ _)); exact BK302.out⟩
      have n3_ : Aside0 ((((w38.setCell ⟨gb310, 0, none⟩ (.int .i64 ((rd_T43 x308000_1 x17_2).f0.f0))).setCell ⟨gb310, 1, none⟩ (.int .i64 ((rd_T43 x308000_1 x17_2).f0.f1))).setCell ⟨gb310, 2, none⟩ (.int .i64 ((rd_T43 x308000_1 x17_2).f1))).heap[gb303]? = some (.cells #[.slice none 0 0] 30 (0, 0))) := ⟨by (with_reducible repeat (first | refine blk_drewN ?_ _ | refine blk_drew ?_ | refine blk_alloc ?_ _)); refine blk_far ?_ NB303_310.out _; (with_reducible repeat (first | refine blk_drewN ?_ _ | refine blk_drew ?_ | refine blk_alloc ?_ _)); refine blk_far ?_ NB303_310.out _; (with_reducible repeat (first | refine blk_drewN ?_ _ | refine blk_drew ?_ | refine blk_alloc ?_ _)); refine blk_far ?_ NB303_310.out _; (with_reducible repeat (first | refine blk_drewN ?_ _ | refine blk_drew ?_ | refine blk_alloc ?_ _)); exact BK303.out⟩
      have n4_ : Aside0 ((((w38.setCell ⟨gb310, 0, none⟩ (.int .i64 ((rd_T43 x308000_1 x17_2).f0.f0))).setCell ⟨gb310, 1, none⟩ (.int .i64 ((rd_T43 x308000_1 x17_2).f0.f1))).setCell ⟨gb310, 2, none⟩ (.int .i64 ((rd_T43 x308000_1 x17_2).f1))).heap[gb307]? = some (.cells #[.slice (some ad309) x308000_1.length co20] 30 (0, 0))) := ⟨by (with_reducible repeat (first | refine blk_drewN ?_ _ | refine blk_drew ?_ | refine blk_alloc ?_ _)); refine blk_far ?_ NB307_310.out _; (with_reducible repeat (first | refine blk_drewN ?_ _ | refine blk_drew ?_ | refine blk_alloc ?_ _)); refine blk_far ?_ NB307_310.out _; (with_reducible repeat (first | refine blk_drewN ?_ _ | refine blk_drew ?_ | refine blk_alloc ?_ _)); refine blk_far ?_ NB307_310.out _; (with_reducible repeat (first | refine blk_drewN ?_ _ | refine blk_drew ?_ | refine blk_alloc ?_ _)); exact BK307.out⟩
      have n5_ : Aside0 ((((w38.setCell ⟨gb310, 0, none⟩ (.int .i64 ((rd_T43 x308000_1 x17_2).f0.f0))).setCell ⟨gb310, 1, none⟩ (.int .i64 ((rd_T43 x308000_1 x17_2).f0.f1))).setCell ⟨gb310, 2, none⟩ (.int .i64 ((rd_T43 x308000_1 x17_2).f1))).heap[gb310]? = some (.cells #[.int .i64 ((rd_T43 x308000_1 x17_2).f0.f0), .int .i64 ((rd_T43 x308000_1 x17_2).f0.f1), .int .i64 ((rd_T43 x308000_1 x17_2).f1)] 43 (0, 0))) := ⟨by (with_reducible repeat (first | refine blk_drewN ?_ _ | refine blk_drew ?_ | refine blk_alloc ?_ _)); refine blk_put (cs := #[.int .i64 ((rd_T43 x308000_1 x17_2).f0.f0), .int .i64 ((rd_T43 x308000_1 x17_2).f0.f1), .int .i64 0]) ?_ 2 _ rfl; (with_reducible repeat (first | refine blk_drewN ?_ _ | refine blk_drew ?_ | refine blk_alloc ?_ _)); refine blk_put (cs := #[.int .i64 ((rd_T43 x308000_1 x17_2).f0.f0), .int .i64 0, .int .i64 0]) ?_ 1 _ rfl; (with_reducible repeat (first | refine blk_drewN ?_ _ | refine blk_drew ?_ | refine blk_alloc ?_ _)); refine blk_put (cs := #[.int .i64 0, .int .i64 0, .int .i64 0]) ?_ 0 _ rfl; (with_reducible repeat (first | refine blk_drewN ?_ _ | refine blk_drew ?_ | refine blk_alloc ?_ _)); exact BK310.out⟩
      have n6_ : Aside0 (Below w.heap.size w (((w38.setCell ⟨gb310, 0, none⟩ (.int .i64 ((rd_T43 x308000_1 x17_2).f0.f0))).setCell ⟨gb310, 1, none⟩ (.int .i64 ((rd_T43 x308000_1 x17_2).f0.f1))).setCell ⟨gb310, 2, none⟩ (.int .i64 ((rd_T43 x308000_1 x17_2).f1)))) := ⟨by repeat (first | (with_reducible first | exact HB.out | apply below_alloc | apply pw_below_drewN | apply below_drew1 | refine below_set ?_ GE302.out | refine below_set ?_ GE303.out | refine below_set ?_ GE307.out | refine below_set ?_ GE310.out) | exact HB.out)⟩
      (try clear HO_15)
      (try clear HO_308000)
      (try clear BK302)
      (try clear BK303)
      (try clear BK307)
      (try clear BK310)
      (try clear HB)
      generalize (((w38.setCell ⟨gb310, 0, none⟩ (.int .i64 ((rd_T43 x308000_1 x17_2).f0.f0))).setCell ⟨gb310, 1, none⟩ (.int .i64 ((rd_T43 x308000_1 x17_2).f0.f1))).setCell ⟨gb310, 2, none⟩ (.int .i64 ((rd_T43 x308000_1 x17_2).f1))) = w43 at n0_ n1_ n2_ n3_ n4_ n5_ n6_ ⊢
      have HO_15 := n0_
      have HO_308000 := n1_
      have BK302 := n2_
      have BK303 := n3_
      have BK307 := n4_
      have BK310 := n5_
      have HB := n6_
      clear n0_ n1_ n2_ n3_ n4_ n5_ n6_
      replace HO_15 := Aside0.mk (Kd.R_drew HO_15.out)
      replace HO_308000 := Aside0.mk (Kd.R_drew HO_308000.out)
      replace BK302 := Aside0.mk (blk_drew BK302.out)
      replace BK303 := Aside0.mk (blk_drew BK303.out)
      replace BK307 := Aside0.mk (blk_drew BK307.out)
      replace BK310 := Aside0.mk (blk_drew BK310.out)
      replace HB := Aside0.mk (below_drew1 HB.out)
      have p312 : 0 ≤ (x5_2 : Int) := of_decide_eq_true (by first | (with_reducible assumption) | assumption)
      have q312 : x5_2 < (x308000_1.length : Int) := of_decide_eq_true (by first | (with_reducible assumption) | assumption)
      obtain ⟨ad312, e312, hx312_0, hx312_1, hx312_2⟩ := at_T43 (Kd.R_reads' HO_308000.out).2.2 x5_2 p312 q312
      obtain rfl : ad309 = ad312 := (by injection e312)
      replace p312 := eq_true p312
      replace q312 := eq_true q312
      refine start_ (n := 21) (S := fun w' => w'.cell? ⟨gb307, 0, none⟩ = some (.slice (some ad309) x308000_1.length co20) ∧ w'.cell? ⟨gb310, 0, none⟩ = some (.int .i64 ((rd_T43 x308000_1 x17_2).f0.f0)) ∧ w'.cell? ⟨gb310, 1, none⟩ = some (.int .i64 ((rd_T43 x308000_1 x17_2).f0.f1)) ∧ w'.cell? ⟨gb310, 2, none⟩ = some (.int .i64 ((rd_T43 x308000_1 x17_2).f1)) ∧ w'.cell? (ad309.add ((x5_2).toNat * 3)) = some (.int .i64 ((rd_T43 x308000_1 x5_2).f0.f0)) ∧ w'.cell? ⟨(ad309.add ((x5_2).toNat * 3)).block, (ad309.add ((x5_2).toNat * 3)).off + 1, none⟩ = some (.int .i64 ((rd_T43 x308000_1 x5_2).f0.f1)) ∧ w'.cell? ⟨(ad309.add ((x5_2).toNat * 3)).block, (ad309.add ((x5_2).toNat * 3)).off + 2, none⟩ = some (.int .i64 ((rd_T43 x308000_1 x5_2).f1))) (ds := []) ba16_0 (by kernel_rfl) rfl rfl ⟨(blk_cell BK307.out 0).trans rfl, (blk_cell BK310.out 0).trans rfl, (blk_cell BK310.out 1).trans rfl, (blk_cell BK310.out 2).trans rfl, hx312_0, hx312_1, hx312_2⟩ (fun hHeld => ?_); refine with_tabW impl_Squeeze.tab8 impl_Squeeze.bits8 (fun HT_ HW_ => ?_)
      generalize w43.drew = w44 at HO_15 HO_308000 BK302 BK303 BK307 BK310 HB hx312_0 hx312_1 hx312_2 hHeld ⊢
      refine pz_ 0 22 ba16_1 HT_ ?_
      refine pt_ 1 23 ba16_2 HT_ HW_ hHeld ?_
      refine pt_ 2 24 ba16_3 HT_ HW_ hHeld ?_
      refine one_ (i := 3) (N := some 25) ba16_4 rfl rfl (one_of HT_.out (by kernel_rfl)) (by decide) (fun K hK => ?_)
      refine gz_ Try.func41 #[.slice (some ad309) x308000_1.length co20, .agg #[.int .i64 ((rd_T43 x308000_1 x17_2).f0.f0), .int .i64 ((rd_T43 x308000_1 x17_2).f0.f1), .int .i64 ((rd_T43 x308000_1 x17_2).f1)]] ?_
      with_reducible refine (impl_isRedundant.calls k2 _ _ x308000_1 ((rd_T43 x308000_1 x17_2).f0.f0) ((rd_T43 x308000_1 x17_2).f0.f1) ((rd_T43 x308000_1 x17_2).f1) true _ ?side1 ?side2 A24.out).mono ?_
      (case side1 => exact rc_ HO_308000)
      (case side2 => exact (Kd.R_reads' HO_308000.out).2.1)
      rintro e w45 ⟨rfl, hb⟩
      have HS4_ := (hb.cell (World.block_lt_of_cell? _ _ (hHeld.2.2.2.2.1))).trans (hHeld.2.2.2.2.1)
      have HS5_ := (hb.cell (World.block_lt_of_cell? _ _ (hHeld.2.2.2.2.2.1))).trans (hHeld.2.2.2.2.2.1)
      have HS6_ := (hb.cell (World.block_lt_of_cell? _ _ (hHeld.2.2.2.2.2.2))).trans (hHeld.2.2.2.2.2.2)
      refine ⟨_, rfl, ?_⟩
      replace HO_15 := rb_ HO_15 hb
      replace HO_308000 := rb_ HO_308000 hb
      replace BK302 := Aside0.mk (bb_ BK302 hb)
      replace BK303 := Aside0.mk (bb_ BK303 hb)
      replace BK307 := Aside0.mk (bb_ BK307 hb)
      replace BK310 := Aside0.mk (bb_ BK310 hb)
      replace HB := Aside0.mk (bt_ HB hb)
      (try clear hb)
      (try clear hb2)
      (try clear hk)
      (try clear hi)
      refine hK.out _ _ ⟨(blk_cell BK307.out 0).trans rfl, (blk_cell BK310.out 0).trans rfl, (blk_cell BK310.out 1).trans rfl, (blk_cell BK310.out 2).trans rfl, HS4_, HS5_, HS6_⟩ (fun hHeld => ?_)
      clear hK K
      refine nz_ 25 ?_
      refine pz_ 4 26 ba16_5 HT_ ?_
      refine pz_ 5 27 ba16_6 HT_ ?_
      refine pz_ 6 28 ba16_7 HT_ ?_
      refine pz_ 7 29 ba16_8 HT_ ?_
      refine pz_ 8 30 ba16_9 HT_ ?_
      refine pz_ 9 31 ba16_10 HT_ ?_
      refine pz_ 11 33 ba16_22 HT_ ?_
      refine pz_ 13 35 ba16_23 HT_ ?_
      refine pt_ 10 32 ba16_24 HT_ HW_ hHeld ?_
      refine pt_ 12 34 ba16_14 HT_ HW_ hHeld ?_
      refine pz_ 14 36 ba16_15 HT_ ?_
      refine pz_ 15 37 ba16_16 HT_ ?_
      refine pz_ 16 38 ba16_17 HT_ ?_
      refine pt_ 17 39 ba16_18 HT_ HW_ hHeld ?_
      refine pz_ 18 40 ba16_19 HT_ ?_
      refine pz_ 19 41 ba16_20 HT_ ?_
      refine pz_ 20 42 ba16_21 HT_ ?_
      refine done_ (done_of HT_.out (by kernel_rfl)) ?_
      try go_wp2
      go_roundg k2
      case measure => have := HK1.out; have := HK2.out; omega
      case rel => exact ⟨(x17_2), (wrap64 (x17_2 + 1)), (by first | rfl | (simp; done) | (simp [*]; done)), (by first | rfl | (simp; done) | (simp [*]; done)), H', ⟨by have := HK1.out; have := HK2.out; omega⟩, ⟨by (with_reducible repeat (first | apply Kd.R_alloc | apply Kd.R_drewN | apply Kd.R_drew)); exact Kd.R_mono HO_15.out (fun _ hk => trivial)⟩, ⟨by (with_reducible repeat (first | apply Kd.R_alloc | apply Kd.R_drewN | apply Kd.R_drew)); exact Kd.R_mono HO_308000.out (fun _ hk => trivial)⟩, ⟨by (with_reducible repeat (first | refine blk_drewN ?_ _ | refine blk_drew ?_ | refine blk_alloc ?_ _)); exact BK302.out⟩, ⟨by (with_reducible repeat (first | refine blk_drewN ?_ _ | refine blk_drew ?_ | refine blk_alloc ?_ _)); exact BK303.out⟩, ⟨by (with_reducible repeat (first | refine blk_drewN ?_ _ | refine blk_drew ?_ | refine blk_alloc ?_ _)); exact BK307.out⟩, ⟨by repeat (first | (with_reducible first | exact HB.out | apply below_alloc | apply pw_below_drewN | apply below_drew1 | refine below_set ?_ GE302.out | refine below_set ?_ GE303.out | refine below_set ?_ GE307.out | refine below_set ?_ GE310.out) | exact HB.out)⟩⟩
     rw [if_neg c37] at H
     have c37b0 : decide (((rd_T43 x308000_1 x5_2).f0.f1) < ((rd_T43 x308000_1 x17_2).f0.f1)) = false := decide_eq_false c37
     clear c37
     have H' := Aside0.mk H
     clear H
     have p309 : 0 ≤ (x17_2 : Int) := of_decide_eq_true (by first | (with_reducible assumption) | assumption)
     have q309 : x17_2 < (x308000_1.length : Int) := of_decide_eq_true (by first | (with_reducible assumption) | assumption)
     obtain ⟨ad309, e309, hx309_0, hx309_1, hx309_2⟩ := at_T43 (Kd.R_reads' HO_15.out).2.2 x17_2 p309 q309
     cases e309
     replace p309 := eq_true p309
     replace q309 := eq_true q309
     try go_wp2_with (first | ((with_reducible refine gate_dst (N := 7) rfl ?_); refine box_event ?hg (N := 7) ?hd (cs := #[.int .i64 0, .int .i64 0, .int .i64 0]) (t := 43) ?hr ?_; (case hd => rfl); (case hg => rfl); (case hr => first | (go_simp; done) | (go_simp; rfl)); intro gb310 hg w46 hbox hb; have BK310 := Aside0.mk hbox; have GW310 := ge_ HB hg; have GE310 := ge_ HB hg; have NB302_310 := nl_ BK302 hg; have NB310_302 := ng_ BK302 hg; have NB303_310 := nl_ BK303 hg; have NB310_303 := ng_ BK303 hg; have NB307_310 := nl_ BK307 hg; have NB310_307 := ng_ BK307 hg; replace HO_15 := Aside0.mk (Kd.R_below (Kd.R_elderB (hd_ HO_15) gb310 (Nat.le_of_eq hg.symm)) hb); replace HO_308000 := Aside0.mk (Kd.R_below (Kd.R_elderB (hd_ HO_308000) gb310 (Nat.le_of_eq hg.symm)) hb); replace HB := Aside0.mk (bt_ HB hb); replace BK302 := Aside0.mk (bb_ BK302 hb); replace BK303 := Aside0.mk (bb_ BK303 hb); replace BK307 := Aside0.mk (bb_ BK307 hb); clear hb hbox hg; have hnb47 := NB310_302.out; have hnc47 := NB302_310.out; have hnb48 := NB310_303.out; have hnc48 := NB303_310.out; have hnb49 := NB310_307.out; have hnc49 := NB307_310.out; have hcz50_0 := cz_ BK310 0 (.int .i64 0); have hcz50_1 := cz_ BK310 1 (.int .i64 0); have hcz50_2 := cz_ BK310 2 (.int .i64 0); have hfz50_0 := blk_frozen BK310.out 0; have hfz50_1 := blk_frozen BK310.out 1; have hfz50_2 := blk_frozen BK310.out 2))
     have n0_ : Aside0 (Kd.R k43 43 (((w46.setCell ⟨gb310, 0, none⟩ (.int .i64 ((rd_T43 x308000_1 x17_2).f0.f0))).setCell ⟨gb310, 1, none⟩ (.int .i64 ((rd_T43 x308000_1 x17_2).f0.f1))).setCell ⟨gb310, 2, none⟩ (.int .i64 ((rd_T43 x308000_1 x17_2).f1))) w.heap.size (fun k_ => k_ ≠ gb310) (.slice (some ad309) x308000_1.length co20) x308000_1) := ⟨by (with_reducible repeat (first | apply Kd.R_alloc | apply Kd.R_drewN | apply Kd.R_drew)); exact Kd.R_mono (Kd.R_far (p := ⟨gb310, 2, none⟩) (Kd.R_far (p := ⟨gb310, 1, none⟩) (Kd.R_far (p := ⟨gb310, 0, none⟩) (Kd.R_mono HO_15.out (fun k_ hk => (⟨hk, hk.2⟩ : _ ∧ k_ ≠ gb310))) (fun _ hk => hk.2) (.int .i64 ((rd_T43 x308000_1 x17_2).f0.f0))) (fun _ hk => hk.2) (.int .i64 ((rd_T43 x308000_1 x17_2).f0.f1))) (fun _ hk => hk.2) (.int .i64 ((rd_T43 x308000_1 x17_2).f1))) (fun _ hk => hk.1.2)⟩
     have n1_ : Aside0 (Kd.R k43 43 (((w46.setCell ⟨gb310, 0, none⟩ (.int .i64 ((rd_T43 x308000_1 x17_2).f0.f0))).setCell ⟨gb310, 1, none⟩ (.int .i64 ((rd_T43 x308000_1 x17_2).f0.f1))).setCell ⟨gb310, 2, none⟩ (.int .i64 ((rd_T43 x308000_1 x17_2).f1))) w.heap.size (fun k_ => k_ ≠ gb310) (.slice (some ad309) x308000_1.length co20) x308000_1) := ⟨by (with_reducible repeat (first | apply Kd.R_alloc | apply Kd.R_drewN | apply Kd.R_drew)); exact Kd.R_mono (Kd.R_far (p := ⟨gb310, 2, none⟩) (Kd.R_far (p := ⟨gb310, 1, none⟩) (Kd.R_far (p := ⟨gb310, 0, none⟩) (Kd.R_mono HO_308000.out (fun k_ hk => (⟨hk, hk.2⟩ : _ ∧ k_ ≠ gb310))) (fun _ hk => hk.2) (.int .i64 ((rd_T43 x308000_1 x17_2).f0.f0))) (fun _ hk => hk.2) (.int .i64 ((rd_T43 x308000_1 x17_2).f0.f1))) (fun _ hk => hk.2) (.int .i64 ((rd_T43 x308000_1 x17_2).f1))) (fun _ hk => hk.1.2)⟩
     have n2_ : Aside0 ((((w46.setCell ⟨gb310, 0, none⟩ (.int .i64 ((rd_T43 x308000_1 x17_2).f0.f0))).setCell ⟨gb310, 1, none⟩ (.int .i64 ((rd_T43 x308000_1 x17_2).f0.f1))).setCell ⟨gb310, 2, none⟩ (.int .i64 ((rd_T43 x308000_1 x17_2).f1))).heap[gb302]? = some (.cells #[.slice A0_0 l0_0.length c0_0] 30 (0, 0))) := ⟨by (with_reducible repeat (first | refine blk_drewN ?_ _ | refine blk_drew ?_ | refine blk_alloc ?_ _)); refine blk_far ?_ NB302_310.out _; (with_reducible repeat (first | refine blk_drewN ?_ _ | refine blk_drew ?_ | refine blk_alloc ?_ _)); refine blk_far ?_ NB302_310.out _; (with_reducible repeat (first | refine blk_drewN ?_ _ | refine blk_drew ?_ | refine blk_alloc ?_ _)); refine blk_far ?_ NB302_310.out _; (with_reducible repeat (first | refine blk_drewN ?_ _ | refine blk_drew ?_ | refine blk_alloc ?_ _)); exact BK302.out⟩
     have n3_ : Aside0 ((((w46.setCell ⟨gb310, 0, none⟩ (.int .i64 ((rd_T43 x308000_1 x17_2).f0.f0))).setCell ⟨gb310, 1, none⟩ (.int .i64 ((rd_T43 x308000_1 x17_2).f0.f1))).setCell ⟨gb310, 2, none⟩ (.int .i64 ((rd_T43 x308000_1 x17_2).f1))).heap[gb303]? = some (.cells #[.slice none 0 0] 30 (0, 0))) := ⟨by (with_reducible repeat (first | refine blk_drewN ?_ _ | refine blk_drew ?_ | refine blk_alloc ?_ _)); refine blk_far ?_ NB303_310.out _; (with_reducible repeat (first | refine blk_drewN ?_ _ | refine blk_drew ?_ | refine blk_alloc ?_ _)); refine blk_far ?_ NB303_310.out _; (with_reducible repeat (first | refine blk_drewN ?_ _ | refine blk_drew ?_ | refine blk_alloc ?_ _)); refine blk_far ?_ NB303_310.out _; (with_reducible repeat (first | refine blk_drewN ?_ _ | refine blk_drew ?_ | refine blk_alloc ?_ _)); exact BK303.out⟩
     have n4_ : Aside0 ((((w46.setCell ⟨gb310, 0, none⟩ (.int .i64 ((rd_T43 x308000_1 x17_2).f0.f0))).setCell ⟨gb310, 1, none⟩ (.int .i64 ((rd_T43 x308000_1 x17_2).f0.f1))).setCell ⟨gb310, 2, none⟩ (.int .i64 ((rd_T43 x308000_1 x17_2).f1))).heap[gb307]? = some (.cells #[.slice (some ad309) x308000_1.length co20] 30 (0, 0))) := ⟨by (with_reducible repeat (first | refine blk_drewN ?_ _ | refine blk_drew ?_ | refine blk_alloc ?_ _)); refine blk_far ?_ NB307_310.out _; (with_reducible repeat (first | refine blk_drewN ?_ _ | refine blk_drew ?_ | refine blk_alloc ?_ _)); refine blk_far ?_ NB307_310.out _; (with_reducible repeat (first | refine blk_drewN ?_ _ | refine blk_drew ?_ | refine blk_alloc ?_ _)); refine blk_far ?_ NB307_310.out _; (with_reducible repeat (first | refine blk_drewN ?_ _ | refine blk_drew ?_ | refine blk_alloc ?_ _)); exact BK307.out⟩
     have n5_ : Aside0 ((((w46.setCell ⟨gb310, 0, none⟩ (.int .i64 ((rd_T43 x308000_1 x17_2).f0.f0))).setCell ⟨gb310, 1, none⟩ (.int .i64 ((rd_T43 x308000_1 x17_2).f0.f1))).setCell ⟨gb310, 2, none⟩ (.int .i64 ((rd_T43 x308000_1 x17_2).f1))).heap[gb310]? = some (.cells #[.int .i64 ((rd_T43 x308000_1 x17_2).f0.f0), .int .i64 ((rd_T43 x308000_1 x17_2).f0.f1), .int .i64 ((rd_T43 x308000_1 x17_2).f1)] 43 (0, 0))) := ⟨by (with_reducible repeat (first | refine blk_drewN ?_ _ | refine blk_drew ?_ | refine blk_alloc ?_ _)); refine blk_put (cs := #[.int .i64 ((rd_T43 x308000_1 x17_2).f0.f0), .int .i64 ((rd_T43 x308000_1 x17_2).f0.f1), .int .i64 0]) ?_ 2 _ rfl; (with_reducible repeat (first | refine blk_drewN ?_ _ | refine blk_drew ?_ | refine blk_alloc ?_ _)); refine blk_put (cs := #[.int .i64 ((rd_T43 x308000_1 x17_2).f0.f0), .int .i64 0, .int .i64 0]) ?_ 1 _ rfl; (with_reducible repeat (first | refine blk_drewN ?_ _ | refine blk_drew ?_ | refine blk_alloc ?_ _)); refine blk_put (cs := #[.int .i64 0, .int .i64 0, .int .i64 0]) ?_ 0 _ rfl; (with_reducible repeat (first | refine blk_drewN ?_ _ | refine blk_drew ?_ | refine blk_alloc ?_ _)); exact BK310.out⟩
     have n6_ : Aside0 (Below w.heap.size w (((w46.setCell ⟨gb310, 0, none⟩ (.int .i64 ((rd_T43 x308000_1 x17_2).f0.f0))).setCell ⟨gb310, 1, none⟩ (.int .i64 ((rd_T43 x308000_1 x17_2).f0.f1))).setCell ⟨gb310, 2, none⟩ (.int .i64 ((rd_T43 x308000_1 x17_2).f1)))) := ⟨by repeat (first | (with_reducible first | exact HB.out | apply below_alloc | apply pw_below_drewN | apply below_drew1 | refine below_set ?_ GE302.out | refine below_set ?_ GE303.out | refine below_set ?_ GE307.out | refine below_set ?_ GE310.out) | exact HB.out)⟩
     (try clear HO_15)
     (try clear HO_308000)
     (try clear BK302)
     (try clear BK303)
     (try clear BK307)
     (try clear BK310)
     (try clear HB)
     generalize (((w46.setCell ⟨gb310, 0, none⟩ (.int .i64 ((rd_T43 x308000_1 x17_2).f0.f0))).setCell ⟨gb310, 1, none⟩ (.int .i64 ((rd_T43 x308000_1 x17_2).f0.f1))).setCell ⟨gb310, 2, none⟩ (.int .i64 ((rd_T43 x308000_1 x17_2).f1))) = w51 at n0_ n1_ n2_ n3_ n4_ n5_ n6_ ⊢
     have HO_15 := n0_
     have HO_308000 := n1_
     have BK302 := n2_
     have BK303 := n3_
     have BK307 := n4_
     have BK310 := n5_
     have HB := n6_
     clear n0_ n1_ n2_ n3_ n4_ n5_ n6_
     replace HO_15 := Aside0.mk (Kd.R_drew HO_15.out)
     replace HO_308000 := Aside0.mk (Kd.R_drew HO_308000.out)
     replace BK302 := Aside0.mk (blk_drew BK302.out)
     replace BK303 := Aside0.mk (blk_drew BK303.out)
     replace BK307 := Aside0.mk (blk_drew BK307.out)
     replace BK310 := Aside0.mk (blk_drew BK310.out)
     replace HB := Aside0.mk (below_drew1 HB.out)
     have p312 : 0 ≤ (x5_2 : Int) := of_decide_eq_true (by first | (with_reducible assumption) | assumption)
     have q312 : x5_2 < (x308000_1.length : Int) := of_decide_eq_true (by first | (with_reducible assumption) | assumption)
     obtain ⟨ad312, e312, hx312_0, hx312_1, hx312_2⟩ := at_T43 (Kd.R_reads' HO_308000.out).2.2 x5_2 p312 q312
     obtain rfl : ad309 = ad312 := (by injection e312)
     replace p312 := eq_true p312
     replace q312 := eq_true q312
     refine start_ (n := 21) (S := fun w' => w'.cell? ⟨gb307, 0, none⟩ = some (.slice (some ad309) x308000_1.length co20) ∧ w'.cell? ⟨gb310, 0, none⟩ = some (.int .i64 ((rd_T43 x308000_1 x17_2).f0.f0)) ∧ w'.cell? ⟨gb310, 1, none⟩ = some (.int .i64 ((rd_T43 x308000_1 x17_2).f0.f1)) ∧ w'.cell? ⟨gb310, 2, none⟩ = some (.int .i64 ((rd_T43 x308000_1 x17_2).f1)) ∧ w'.cell? (ad309.add ((x5_2).toNat * 3)) = some (.int .i64 ((rd_T43 x308000_1 x5_2).f0.f0)) ∧ w'.cell? ⟨(ad309.add ((x5_2).toNat * 3)).block, (ad309.add ((x5_2).toNat * 3)).off + 1, none⟩ = some (.int .i64 ((rd_T43 x308000_1 x5_2).f0.f1)) ∧ w'.cell? ⟨(ad309.add ((x5_2).toNat * 3)).block, (ad309.add ((x5_2).toNat * 3)).off + 2, none⟩ = some (.int .i64 ((rd_T43 x308000_1 x5_2).f1))) (ds := []) ba16_0 (by kernel_rfl) rfl rfl ⟨(blk_cell BK307.out 0).trans rfl, (blk_cell BK310.out 0).trans rfl, (blk_cell BK310.out 1).trans rfl, (blk_cell BK310.out 2).trans rfl, hx312_0, hx312_1, hx312_2⟩ (fun hHeld => ?_); refine with_tabW impl_Squeeze.tab8 impl_Squeeze.bits8 (fun HT_ HW_ => ?_)
     generalize w51.drew = w52 at HO_15 HO_308000 BK302 BK303 BK307 BK310 HB hx312_0 hx312_1 hx312_2 hHeld ⊢
     refine pz_ 0 22 ba16_1 HT_ ?_
     refine pt_ 1 23 ba16_2 HT_ HW_ hHeld ?_
     refine pt_ 2 24 ba16_3 HT_ HW_ hHeld ?_
     refine one_ (i := 3) (N := some 25) ba16_4 rfl rfl (one_of HT_.out (by kernel_rfl)) (by decide) (fun K hK => ?_)
     refine gz_ Try.func41 #[.slice (some ad309) x308000_1.length co20, .agg #[.int .i64 ((rd_T43 x308000_1 x17_2).f0.f0), .int .i64 ((rd_T43 x308000_1 x17_2).f0.f1), .int .i64 ((rd_T43 x308000_1 x17_2).f1)]] ?_
     with_reducible refine (impl_isRedundant.calls k2 _ _ x308000_1 ((rd_T43 x308000_1 x17_2).f0.f0) ((rd_T43 x308000_1 x17_2).f0.f1) ((rd_T43 x308000_1 x17_2).f1) true _ ?side1 ?side2 A24.out).mono ?_
     (case side1 => exact rc_ HO_308000)
     (case side2 => exact (Kd.R_reads' HO_308000.out).2.1)
     rintro e w53 ⟨rfl, hb⟩
     have HS4_ := (hb.cell (World.block_lt_of_cell? _ _ (hHeld.2.2.2.2.1))).trans (hHeld.2.2.2.2.1)
     have HS5_ := (hb.cell (World.block_lt_of_cell? _ _ (hHeld.2.2.2.2.2.1))).trans (hHeld.2.2.2.2.2.1)
     have HS6_ := (hb.cell (World.block_lt_of_cell? _ _ (hHeld.2.2.2.2.2.2))).trans (hHeld.2.2.2.2.2.2)
     refine ⟨_, rfl, ?_⟩
     replace HO_15 := rb_ HO_15 hb
     replace HO_308000 := rb_ HO_308000 hb
     replace BK302 := Aside0.mk (bb_ BK302 hb)
     replace BK303 := Aside0.mk (bb_ BK303 hb)
     replace BK307 := Aside0.mk (bb_ BK307 hb)
     replace BK310 := Aside0.mk (bb_ BK310 hb)
     replace HB := Aside0.mk (bt_ HB hb)
     (try clear hb)
     (try clear hb2)
     (try clear hk)
     (try clear hi)
     refine hK.out _ _ ⟨(blk_cell BK307.out 0).trans rfl, (blk_cell BK310.out 0).trans rfl, (blk_cell BK310.out 1).trans rfl, (blk_cell BK310.out 2).trans rfl, HS4_, HS5_, HS6_⟩ (fun hHeld => ?_)
     clear hK K
     refine nz_ 25 ?_
     refine pz_ 4 26 ba16_5 HT_ ?_
     refine pz_ 5 27 ba16_6 HT_ ?_
     refine pz_ 6 28 ba16_7 HT_ ?_
     refine pz_ 7 29 ba16_8 HT_ ?_
     refine pz_ 8 30 ba16_9 HT_ ?_
     refine pz_ 9 31 ba16_10 HT_ ?_
     refine pz_ 11 33 ba16_22 HT_ ?_
     refine pz_ 13 35 ba16_23 HT_ ?_
     refine pt_ 10 32 ba16_24 HT_ HW_ hHeld ?_
     refine pt_ 12 34 ba16_14 HT_ HW_ hHeld ?_
     refine pz_ 14 36 ba16_15 HT_ ?_
     refine pz_ 15 37 ba16_16 HT_ ?_
     refine pz_ 16 38 ba16_17 HT_ ?_
     refine pt_ 17 39 ba16_18 HT_ HW_ hHeld ?_
     refine pz_ 18 40 ba16_19 HT_ ?_
     refine pz_ 19 41 ba16_20 HT_ ?_
     refine pz_ 20 42 ba16_21 HT_ ?_
     refine done_ (done_of HT_.out (by kernel_rfl)) ?_
     try go_wp2
     go_roundg k2
     case measure => have := HK1.out; have := HK2.out; omega
     case rel => exact ⟨(x5_2), (wrap64 (x17_2 + 1)), (by first | rfl | (simp; done) | (simp [*]; done)), (by first | rfl | (simp; done) | (simp [*]; done)), H', ⟨by have := HK1.out; have := HK2.out; omega⟩, ⟨by (with_reducible repeat (first | apply Kd.R_alloc | apply Kd.R_drewN | apply Kd.R_drew)); exact Kd.R_mono HO_15.out (fun _ hk => trivial)⟩, ⟨by (with_reducible repeat (first | apply Kd.R_alloc | apply Kd.R_drewN | apply Kd.R_drew)); exact Kd.R_mono HO_308000.out (fun _ hk => trivial)⟩, ⟨by (with_reducible repeat (first | refine blk_drewN ?_ _ | refine blk_drew ?_ | refine blk_alloc ?_ _)); exact BK302.out⟩, ⟨by (with_reducible repeat (first | refine blk_drewN ?_ _ | refine blk_drew ?_ | refine blk_alloc ?_ _)); exact BK303.out⟩, ⟨by (with_reducible repeat (first | refine blk_drewN ?_ _ | refine blk_drew ?_ | refine blk_alloc ?_ _)); exact BK307.out⟩, ⟨by repeat (first | (with_reducible first | exact HB.out | apply below_alloc | apply pw_below_drewN | apply below_drew1 | refine below_set ?_ GE302.out | refine below_set ?_ GE303.out | refine below_set ?_ GE307.out | refine below_set ?_ GE310.out) | exact HB.out)⟩⟩

end Go.Proofs.Ytflfbaofgfandaa.QFnExactSqueeze
