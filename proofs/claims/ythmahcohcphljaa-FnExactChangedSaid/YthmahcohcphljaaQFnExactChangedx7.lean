/- Contracts of functions that the law reaches: what each call returns and what it leaves in memory. Made by this session over the print of the kit. -/
import Derived.Test.YthmahcohcphljaaQFnExactChangedx0
import Derived.Test.YthmahcohcphljaaQFnExactChangedx2
import Derived.Test.YthmahcohcphljaaQFnExactChangedx3
import Derived.Test.YthmahcohcphljaaQFnExactChangedx5
import Derived.Test.YthmahcohcphljaaQFnExactChangedx6
namespace Go.Proofs.Ythmahcohcphljaa.QFnExactChanged
open Go.RowKit Go.Proofs.YthmahcohcphljaaU.PrintWords Go.Proofs.YthmahcohcphljaaU.PrintLast Go.Proofs.YthmahcohcphljaaU.PrintMore
attribute [local go_sem] max2_int min2_int max_two min_two max_three min_three max_four min_four   -- for this text's walks alone
set_option linter.unusedVariables false
set_option linter.unusedSimpArgs false
def ba7_0 : Array Bool := #[false, false, false, false, false, false, false, false, false, false]
def ba7_1 : Array Bool := #[false, true, false, false, false, false, false, false, false, false]
def ba7_2 : Array Bool := #[false, true, true, false, false, false, false, false, false, false]
def ba7_3 : Array Bool := #[false, true, true, false, false, true, false, false, false, false]
def ba7_4 : Array Bool := #[false, true, true, false, false, true, true, false, false, false]
def ba7_5 : Array Bool := #[true, true, true, false, false, true, true, false, false, false]
def ba7_6 : Array Bool := #[true, true, true, false, true, true, true, false, false, false]
def ba7_7 : Array Bool := #[true, true, true, true, true, true, true, false, false, false]
def ba7_8 : Array Bool := #[true, true, true, true, true, true, true, true, false, false]
def ba7_9 : Array Bool := #[true, true, true, true, true, true, true, true, true, false]
def ba7_10 : Array Bool := #[true, true, true, true, true, true, true, true, true, true]

/-! ### spec_Changed: function 21 -/
mutual
def spec_Changed.j0 : Nat → Int → List Int → Bool → Int → List (S76) → Int → List (S76) → Option (List Int)
 | 0, _, _, _, _, _, _, _ => none
 | k + 1, x2, x7, x30, x194000, x194001, x195000, x195001 => if x30 = true then (some ([] : List Int)) else (spec_Changed.l0 k x2 x7 0 x194000 x194001 x195000 x195001)
def spec_Changed.l0 : Nat → Int → List Int → Int → Int → List (S76) → Int → List (S76) → Option (List Int)
 | 0, _, _, _, _, _, _, _ => none
 | k + 1, x2, x7, x8, x194000, x194001, x195000, x195001 => if x8 < x194000 then ((spec_HopsTo.f k x194000 x194001 x2 x8).bind fun t201 => ((spec_HopsTo.f k x195000 x195001 x2 x8).bind fun t204 => ((spec_l04Same.f k t201 t204).bind fun t207 => (if t207 = true then (spec_Changed.l0 k x2 x7 (wrap64 (x8 + 1)) x194000 x194001 x195000 x195001) else (if x7.length < 17592186044416 then (spec_Changed.l0 k x2 (x7 ++ [x8]) (wrap64 (x8 + 1)) x194000 x194001 x195000 x195001) else (none)))))) else (some x7)
end
def spec_Changed.f (k : Nat) (a0_0 : Int) (l0_1 : List (S76)) (a1_0 : Int) (l1_1 : List (S76)) (a2 : Int) : Option (List Int) := (some (([] : List Int) : List Int)).bind fun y195 => ((spec_GraphOk.f k a0_0 l0_1).bind fun t198 => (if t198 = true then ((spec_GraphOk.f k a1_0 l1_1).bind fun t199 => (if t199 = true then (if a0_0 = a1_0 then ((spec_l03Node.f a0_0 l0_1 a2).bind fun t200 => (spec_Changed.j0 k a2 y195 (!t200) a0_0 l0_1 a1_0 l1_1)) else (spec_Changed.j0 k a2 y195 true a0_0 l0_1 a1_0 l1_1)) else (spec_Changed.j0 k a2 y195 true a0_0 l0_1 a1_0 l1_1))) else (spec_Changed.j0 k a2 y195 true a0_0 l0_1 a1_0 l1_1)))
theorem spec_Changed.mono_l : ∀ k, (∀ y0 y1 y2 y3 y4 y5 y6, LeO (spec_Changed.j0 k y0 y1 y2 y3 y4 y5 y6) (spec_Changed.j0 (k + 1) y0 y1 y2 y3 y4 y5 y6)) ∧ (∀ y0 y1 y2 y3 y4 y5 y6, LeO (spec_Changed.l0 k y0 y1 y2 y3 y4 y5 y6) (spec_Changed.l0 (k + 1) y0 y1 y2 y3 y4 y5 y6))
 | 0 => ⟨fun _ _ _ _ _ _ _ r h => by simp [spec_Changed.j0] at h, fun _ _ _ _ _ _ _ r h => by simp [spec_Changed.l0] at h⟩
 | k + 1 => by
  obtain ⟨ih0, ih1⟩ := spec_Changed.mono_l k
  refine ⟨?_, ?_⟩
  ·intro y0 y1 y2 y3 y4 y5 y6
   unfold spec_Changed.j0
   repeat' first
   | (with_reducible exact ih0 _ _ _ _ _ _ _)
   | (with_reducible exact ih1 _ _ _ _ _ _ _)
   | (with_reducible exact spec_GraphOk.mono _ _ _)
   | (with_reducible exact spec_HopsTo.mono _ _ _ _ _)
   | (with_reducible exact spec_l04Same.mono _ _ _)
   | (with_reducible exact LeO.refl _)
   | (with_reducible exact LeO.none _)
   | (with_reducible refine LeO.ite ?_ ?_)
   | (with_reducible refine LeO.bind ?_ (fun _ => ?_))
   | exact ih0 _ _ _ _ _ _ _
   | exact ih1 _ _ _ _ _ _ _
   | exact spec_GraphOk.mono _ _ _
   | exact spec_HopsTo.mono _ _ _ _ _
   | exact spec_l04Same.mono _ _ _
   | exact LeO.none _
   | refine LeO.ite ?_ ?_
   | refine LeO.bind ?_ (fun _ => ?_)
  ·intro y0 y1 y2 y3 y4 y5 y6
   unfold spec_Changed.l0
   repeat' first
   | (with_reducible exact ih0 _ _ _ _ _ _ _)
   | (with_reducible exact ih1 _ _ _ _ _ _ _)
   | (with_reducible exact spec_GraphOk.mono _ _ _)
   | (with_reducible exact spec_HopsTo.mono _ _ _ _ _)
   | (with_reducible exact spec_l04Same.mono _ _ _)
   | (with_reducible exact LeO.refl _)
   | (with_reducible exact LeO.none _)
   | (with_reducible refine LeO.ite ?_ ?_)
   | (with_reducible refine LeO.bind ?_ (fun _ => ?_))
   | exact ih0 _ _ _ _ _ _ _
   | exact ih1 _ _ _ _ _ _ _
   | exact spec_GraphOk.mono _ _ _
   | exact spec_HopsTo.mono _ _ _ _ _
   | exact spec_l04Same.mono _ _ _
   | exact LeO.none _
   | refine LeO.ite ?_ ?_
   | refine LeO.bind ?_ (fun _ => ?_)
theorem spec_Changed.mono : ∀ a0 a1 a2 a3 a4 k, LeO (spec_Changed.f k a0 a1 a2 a3 a4) (spec_Changed.f (k + 1) a0 a1 a2 a3 a4) := by
 intro a0 a1 a2 a3 a4 k
 obtain ⟨ih0, ih1⟩ := spec_Changed.mono_l k
 unfold spec_Changed.f
 repeat' first
   | (with_reducible exact ih0 _ _ _ _ _ _ _)
   | (with_reducible exact ih1 _ _ _ _ _ _ _)
   | (with_reducible exact spec_GraphOk.mono _ _ _)
   | (with_reducible exact spec_HopsTo.mono _ _ _ _ _)
   | (with_reducible exact spec_l04Same.mono _ _ _)
   | (with_reducible exact LeO.refl _)
   | (with_reducible exact LeO.none _)
   | (with_reducible refine LeO.ite ?_ ?_)
   | (with_reducible refine LeO.bind ?_ (fun _ => ?_))
   | exact ih0 _ _ _ _ _ _ _
   | exact ih1 _ _ _ _ _ _ _
   | exact spec_GraphOk.mono _ _ _
   | exact spec_HopsTo.mono _ _ _ _ _
   | exact spec_l04Same.mono _ _ _
   | exact LeO.none _
   | refine LeO.ite ?_ ?_
   | refine LeO.bind ?_ (fun _ => ?_)
def spec_Changed.T7 : Bool × List (List Nat × List Nat) := (true, [([], []), ([], []), ([], []), ([0, 1, 2], [0, 1, 2]), ([], []), ([], []), ([], []), ([4, 5, 6, 3], [4, 5, 6]), ([3, 7, 7], [3, 7]), ([8], [8])])
def spec_Changed.B7 : List Nat := [0, 0, 0, 7, 0, 0, 0, 127, 255, 511]
theorem spec_Changed.tab7 : rtab .any (opsOf Try.f21 7) = spec_Changed.T7 := by kernel_rfl
theorem spec_Changed.bits7 : waitsOk spec_Changed.T7.2 spec_Changed.B7 = true := by kernel_rfl
set_option maxHeartbeats 8000000 in
set_option maxRecDepth 100000 in
theorem spec_Changed.calls (k : Nat) (a0_0 : Int) (A0_1 : Option Addr) (c0_1 : Nat) (l0_1 : List (S76)) (a1_0 : Int) (A1_1 : Option Addr) (c1_1 : Nat) (l1_1 : List (S76)) (a2 : Int) (r : List Int) (w : World) (hr0_1 : Kd.C k76 w A0_1 l0_1.length l0_1) (hc0_1 : l0_1.length ≤ c0_1) (hr1_1 : Kd.C k76 w A1_1 l1_1.length l1_1) (hc1_1 : l1_1.length ≤ c1_1) (h : spec_Changed.f k a0_0 l0_1 a1_0 l1_1 a2 = some r) :
  Calls Try.prog 21 #[.agg #[.int .i64 a0_0, .slice A0_1 l0_1.length c0_1], .agg #[.int .i64 a1_0, .slice A1_1 l1_1.length c1_1], .int .i64 a2] w fun e w' => ∃ v0_ : Value, e = .returned (v0_) ∧ Kd.R (Kd.int .i64) 3 w' w.heap.size (fun _ => True) v0_ r ∧ Below w.heap.size w w' := by
 have hu30 := Try.underlying30
 have HR0_1 := Aside0.mk hr0_1
 have HC0_1 := Aside0.mk hc0_1
 clear hr0_1 hc0_1
 have HR1_1 := Aside0.mk hr1_1
 have HC1_1 := Aside0.mk hc1_1
 clear hr1_1 hc1_1
 have HB := Aside0.mk (Below.refl w.heap.size w)
 have H : ((some (([] : List Int) : List Int)).bind fun y195 => ((spec_GraphOk.f k a0_0 l0_1).bind fun t198 => (if t198 = true then ((spec_GraphOk.f k a1_0 l1_1).bind fun t199 => (if t199 = true then (if a0_0 = a1_0 then ((spec_l03Node.f a0_0 l0_1 a2).bind fun t200 => (spec_Changed.j0 k a2 y195 (!t200) a0_0 l0_1 a1_0 l1_1)) else (spec_Changed.j0 k a2 y195 true a0_0 l0_1 a1_0 l1_1)) else (spec_Changed.j0 k a2 y195 true a0_0 l0_1 a1_0 l1_1))) else (spec_Changed.j0 k a2 y195 true a0_0 l0_1 a1_0 l1_1)))) = some r := h
 clear h
 obtain ⟨y195, hy195⟩ : ∃ y_ : List Int, y_ = (([] : List Int)) := ⟨_, rfl⟩
 replace H : ((spec_GraphOk.f k a0_0 l0_1).bind fun t198 => (if t198 = true then ((spec_GraphOk.f k a1_0 l1_1).bind fun t199 => (if t199 = true then (if a0_0 = a1_0 then ((spec_l03Node.f a0_0 l0_1 a2).bind fun t200 => (spec_Changed.j0 k a2 y195 (!t200) a0_0 l0_1 a1_0 l1_1)) else (spec_Changed.j0 k a2 y195 true a0_0 l0_1 a1_0 l1_1)) else (spec_Changed.j0 k a2 y195 true a0_0 l0_1 a1_0 l1_1))) else (spec_Changed.j0 k a2 y195 true a0_0 l0_1 a1_0 l1_1))) = some r := by first | (rw [hy195]; with_reducible exact H) | (have H2_ := (Option.bind_some _ _).symm.trans H; rw [hy195]; with_reducible exact H2_) | (have H2_ := (Option.bind_some _ _).symm.trans H; with_reducible exact H2_) | with_reducible exact H | (rw [hy195]; exact H) | exact H
 have Ny195 := Aside0.mk hy195
 clear hy195
 have HC4 := Aside0.mk H
 clear H
 go_enter Try.func21, Try.ntmps21
 go_upto_region 2 with (first | ((with_reducible refine gate_dst (N := 3) rfl ?_); refine box_event ?hg (N := 3) ?hd (cs := #[.int .i64 a0_0, .slice A0_1 l0_1.length c0_1]) (t := 30) ?hr ?_; (case hd => rfl); (case hg => rfl); (case hr => first | (go_simp; done) | (go_simp; rfl)); intro gb193 hg w5 hbox hb; have BK193 := Aside0.mk hbox; have GW193 := ge_ HB hg; have GE193 := ge_ HB hg; replace HB := Aside0.mk (bt_ HB hb); clear hb hbox hg) | ((with_reducible refine gate_dst (N := 4) rfl ?_); refine box_event ?hg (N := 4) ?hd (cs := #[.int .i64 a1_0, .slice A1_1 l1_1.length c1_1]) (t := 30) ?hr ?_; (case hd => rfl); (case hg => rfl); (case hr => first | (go_simp; done) | (go_simp; rfl)); intro gb194 hg w6 hbox hb; have BK194 := Aside0.mk hbox; have GW194 := ge_ HB hg; have GE194 := ge_ HB hg; have NB193_194 := nl_ BK193 hg; have NB194_193 := ng_ BK193 hg; replace HB := Aside0.mk (bt_ HB hb); replace BK193 := Aside0.mk (bb_ BK193 hb); clear hb hbox hg) | ((with_reducible refine gate_dst (N := 9) rfl ?_); refine Kd.R_lit (Kd.int .i64) _ 3 ?hg (N := 9) ?hd (xs := ([] : List Int)) (inner := []) (ok := fun _ => True) (okp := fun _ => True) ?hr ?hp (fun _ hk => hk) trivial (Below.refl _ _) (Nat.le_refl _) (by simp) ?_; (case hd => rfl); (case hg => rfl); (case hr => first | (go_simp; done) | (go_simp; rfl)); (case hp => exact (Reps.none _ _)); intro v196 w7 ho8 hb hg_ hnew_; clear hg_ hnew_; (first | rw [← Ny195.out] at ho8 | (simp only [Int.reduceToNat] at ho8; rw [← Ny195.out] at ho8)); have HO197 := Aside0.mk (Kd.R_lower ho8 (bz_ HB)); replace BK193 := Aside0.mk (bb_ BK193 hb); replace BK194 := Aside0.mk (bb_ BK194 hb); replace HB := Aside0.mk (bt_ HB hb); clear hb ho8))
 (try simp only [Act.put, List.setIfInBounds_toArray, List.set_cons_zero, List.set_cons_succ])
 go_cut [30] (fun v30 wc => ∃ (kq : Nat) (x30_3 : Bool), v30 = .bool x30_3 ∧ Aside0 (spec_Changed.j0 kq a2 y195 x30_3 a0_0 l0_1 a1_0 l1_1 = some r) ∧ Aside0 (kq ≤ k) ∧ Aside0 (Kd.R (Kd.int .i64) 3 wc w.heap.size (fun _ => True) v196 y195) ∧ Aside0 (wc.heap[gb193]? = some (.cells #[.int .i64 a0_0, (.slice A0_1 l0_1.length c0_1)] 30 (0, 0))) ∧ Aside0 (wc.heap[gb194]? = some (.cells #[.int .i64 a1_0, (.slice A1_1 l1_1.length c1_1)] 30 (0, 0))) ∧ Aside0 (Below w.heap.size w wc))
 case first =>
  have H := HC4.out
  clear HC4
  replace H := Option.bind_eq_some_iff.mp H
  obtain ⟨t198, A90, H⟩ := H
  have A9 := Aside0.mk A90
  clear A90
  by_cases c10 : t198 = true
  ·subst c10
   rw [if_pos rfl] at H
   replace H := Option.bind_eq_some_iff.mp H
   obtain ⟨t199, A110, H⟩ := H
   have A11 := Aside0.mk A110
   clear A110
   by_cases c12 : t199 = true
   ·subst c12
    rw [if_pos rfl] at H
    by_cases c13 : a0_0 = a1_0
    ·rw [if_pos c13] at H
     have c13b0 : (a0_0 == a1_0) = true := beq_iff_eq.mpr c13
     have c13b1 : (a0_0 != a1_0) = false := bne_eq_false_iff_eq.mpr c13
     clear c13
     (first | rw [c13b0] | (simp only [i64_w, i32_w]; rw [c13b0]) | skip)
     replace H := Option.bind_eq_some_iff.mp H
     obtain ⟨t200, A140, H⟩ := H
     have A14 := Aside0.mk A140
     clear A140
     have H' := Aside0.mk H
     clear H
     have hnb15 := NB193_194.out
     have hnc15 := NB194_193.out
     have hcz16_0 := cz_ BK193 0 (.int .i64 a0_0)
     have hcz16_1 := cz_ BK193 1 (.slice A0_1 l0_1.length c0_1)
     have hfz16_0 := blk_frozen BK193.out 0
     have hfz16_1 := blk_frozen BK193.out 1
     go_wp2_with (first | ((with_reducible refine gate_callee (f := 25) rfl ?_); refine gl_ (some 11) Try.func25 #[.agg #[.int .i64 a0_0, .slice A0_1 l0_1.length c0_1]] ?_; (with_reducible refine (spec_GraphOk.calls k a0_0 _ _ l0_1 true _ ?side1 ?side2 A9.out).mono ?_); (case side1 => exact cb_ HR0_1 HB); (case side2 => exact HC0_1.out); rintro e w17 ⟨rfl, hb⟩; refine ⟨_, rfl, ?_⟩; replace HO197 := rb_ HO197 hb; replace BK193 := Aside0.mk (bb_ BK193 hb); replace BK194 := Aside0.mk (bb_ BK194 hb); replace HB := Aside0.mk (bt_ HB hb); (try clear hb); (try clear hb2); (try clear hk); (try clear hi); have hcz18_0 := cz_ BK194 0 (.int .i64 a1_0); have hcz18_1 := cz_ BK194 1 (.slice A1_1 l1_1.length c1_1); have hfz18_0 := blk_frozen BK194.out 0; have hfz18_1 := blk_frozen BK194.out 1) | (go_at_call 25; (with_reducible refine (spec_GraphOk.calls k a1_0 _ _ l1_1 true _ ?side1 ?side2 A11.out).mono ?_); (case side1 => exact cb_ HR1_1 HB); (case side2 => exact HC1_1.out); rintro e w19 ⟨rfl, hb⟩; replace HO197 := rb_ HO197 hb; replace BK193 := Aside0.mk (bb_ BK193 hb); replace BK194 := Aside0.mk (bb_ BK194 hb); replace HB := Aside0.mk (bt_ HB hb); (try clear hb); (try clear hb2); (try clear hk); (try clear hi); have hcz20_0 := cz_ BK193 0 (.int .i64 a0_0); have hcz20_1 := cz_ BK193 1 (.slice A0_1 l0_1.length c0_1); have hfz20_0 := blk_frozen BK193.out 0; have hfz20_1 := blk_frozen BK193.out 1; have hcz21_0 := cz_ BK194 0 (.int .i64 a1_0); have hcz21_1 := cz_ BK194 1 (.slice A1_1 l1_1.length c1_1); have hfz21_0 := blk_frozen BK194.out 0; have hfz21_1 := blk_frozen BK194.out 1) | (go_at_call 45; (with_reducible refine (spec_l03Node.calls a0_0 _ _ l0_1 a2 t200 _ ?side1 ?side2 A14.out).mono ?_); (case side1 => exact cb_ HR0_1 HB); (case side2 => exact HC0_1.out); rintro e w22 ⟨rfl, hb⟩; replace HO197 := rb_ HO197 hb; replace BK193 := Aside0.mk (bb_ BK193 hb); replace BK194 := Aside0.mk (bb_ BK194 hb); replace HB := Aside0.mk (bt_ HB hb); (try clear hb); (try clear hb2); (try clear hk); (try clear hi)))
     go_meet
     case rel => exact ⟨_, (!t200), (by first | rfl | (simp; done) | (simp [*]; done)), H', ⟨by first | omega | exact Nat.le_refl _⟩, ⟨by (with_reducible repeat (first | apply Kd.R_alloc | apply Kd.R_drewN | apply Kd.R_drew)); exact HO197.out⟩, ⟨by (with_reducible repeat (first | refine blk_drewN ?_ _ | refine blk_drew ?_ | refine blk_alloc ?_ _)); exact BK193.out⟩, ⟨by (with_reducible repeat (first | refine blk_drewN ?_ _ | refine blk_drew ?_ | refine blk_alloc ?_ _)); exact BK194.out⟩, ⟨by repeat (first | (with_reducible first | exact HB.out | apply below_alloc | apply pw_below_drewN | apply below_drew1 | refine below_set ?_ GE193.out | refine below_set ?_ GE194.out) | exact HB.out)⟩⟩
    ·rw [if_neg c13] at H
     have c13b0 : (a0_0 == a1_0) = false := beq_eq_false_iff_ne.mpr c13
     have c13b1 : (a0_0 != a1_0) = true := bne_iff_ne.mpr c13
     (first | rw [c13b0] | (simp only [i64_w, i32_w]; rw [c13b0]) | skip)
     have H' := Aside0.mk H
     clear H
     have hnb23 := NB193_194.out
     have hnc23 := NB194_193.out
     have hcz24_0 := cz_ BK193 0 (.int .i64 a0_0)
     have hcz24_1 := cz_ BK193 1 (.slice A0_1 l0_1.length c0_1)
     have hfz24_0 := blk_frozen BK193.out 0
     have hfz24_1 := blk_frozen BK193.out 1
     go_wp2_with (first | ((with_reducible refine gate_callee (f := 25) rfl ?_); refine gl_ (some 11) Try.func25 #[.agg #[.int .i64 a0_0, .slice A0_1 l0_1.length c0_1]] ?_; (with_reducible refine (spec_GraphOk.calls k a0_0 _ _ l0_1 true _ ?side1 ?side2 A9.out).mono ?_); (case side1 => exact cb_ HR0_1 HB); (case side2 => exact HC0_1.out); rintro e w25 ⟨rfl, hb⟩; refine ⟨_, rfl, ?_⟩; replace HO197 := rb_ HO197 hb; replace BK193 := Aside0.mk (bb_ BK193 hb); replace BK194 := Aside0.mk (bb_ BK194 hb); replace HB := Aside0.mk (bt_ HB hb); (try clear hb); (try clear hb2); (try clear hk); (try clear hi); have hcz26_0 := cz_ BK194 0 (.int .i64 a1_0); have hcz26_1 := cz_ BK194 1 (.slice A1_1 l1_1.length c1_1); have hfz26_0 := blk_frozen BK194.out 0; have hfz26_1 := blk_frozen BK194.out 1) | (go_at_call 25; (with_reducible refine (spec_GraphOk.calls k a1_0 _ _ l1_1 true _ ?side1 ?side2 A11.out).mono ?_); (case side1 => exact cb_ HR1_1 HB); (case side2 => exact HC1_1.out); rintro e w27 ⟨rfl, hb⟩; replace HO197 := rb_ HO197 hb; replace BK193 := Aside0.mk (bb_ BK193 hb); replace BK194 := Aside0.mk (bb_ BK194 hb); replace HB := Aside0.mk (bt_ HB hb); (try clear hb); (try clear hb2); (try clear hk); (try clear hi); have hcz28_0 := cz_ BK193 0 (.int .i64 a0_0); have hcz28_1 := cz_ BK193 1 (.slice A0_1 l0_1.length c0_1); have hfz28_0 := blk_frozen BK193.out 0; have hfz28_1 := blk_frozen BK193.out 1; have hcz29_0 := cz_ BK194 0 (.int .i64 a1_0); have hcz29_1 := cz_ BK194 1 (.slice A1_1 l1_1.length c1_1); have hfz29_0 := blk_frozen BK194.out 0; have hfz29_1 := blk_frozen BK194.out 1))
     go_meet
     case rel => exact ⟨_, (true), (by first | rfl | (simp; done) | (simp [*]; done)), H', ⟨by first | omega | exact Nat.le_refl _⟩, ⟨by (with_reducible repeat (first | apply Kd.R_alloc | apply Kd.R_drewN | apply Kd.R_drew)); exact HO197.out⟩, ⟨by (with_reducible repeat (first | refine blk_drewN ?_ _ | refine blk_drew ?_ | refine blk_alloc ?_ _)); exact BK193.out⟩, ⟨by (with_reducible repeat (first | refine blk_drewN ?_ _ | refine blk_drew ?_ | refine blk_alloc ?_ _)); exact BK194.out⟩, ⟨by repeat (first | (with_reducible first | exact HB.out | apply below_alloc | apply pw_below_drewN | apply below_drew1 | refine below_set ?_ GE193.out | refine below_set ?_ GE194.out) | exact HB.out)⟩⟩
   ·replace c12 := Bool.eq_false_iff.mpr c12
    subst c12
    rw [if_neg (show ¬ (false = true) by decide)] at H
    have H' := Aside0.mk H
    clear H
    have hnb30 := NB193_194.out
    have hnc30 := NB194_193.out
    have hcz31_0 := cz_ BK193 0 (.int .i64 a0_0)
    have hcz31_1 := cz_ BK193 1 (.slice A0_1 l0_1.length c0_1)
    have hfz31_0 := blk_frozen BK193.out 0
    have hfz31_1 := blk_frozen BK193.out 1
    go_wp2_with (first | ((with_reducible refine gate_callee (f := 25) rfl ?_); refine gl_ (some 11) Try.func25 #[.agg #[.int .i64 a0_0, .slice A0_1 l0_1.length c0_1]] ?_; (with_reducible refine (spec_GraphOk.calls k a0_0 _ _ l0_1 true _ ?side1 ?side2 A9.out).mono ?_); (case side1 => exact cb_ HR0_1 HB); (case side2 => exact HC0_1.out); rintro e w32 ⟨rfl, hb⟩; refine ⟨_, rfl, ?_⟩; replace HO197 := rb_ HO197 hb; replace BK193 := Aside0.mk (bb_ BK193 hb); replace BK194 := Aside0.mk (bb_ BK194 hb); replace HB := Aside0.mk (bt_ HB hb); (try clear hb); (try clear hb2); (try clear hk); (try clear hi); have hcz33_0 := cz_ BK194 0 (.int .i64 a1_0); have hcz33_1 := cz_ BK194 1 (.slice A1_1 l1_1.length c1_1); have hfz33_0 := blk_frozen BK194.out 0; have hfz33_1 := blk_frozen BK194.out 1) | (go_at_call 25; (with_reducible refine (spec_GraphOk.calls k a1_0 _ _ l1_1 false _ ?side1 ?side2 A11.out).mono ?_); (case side1 => exact cb_ HR1_1 HB); (case side2 => exact HC1_1.out); rintro e w34 ⟨rfl, hb⟩; replace HO197 := rb_ HO197 hb; replace BK193 := Aside0.mk (bb_ BK193 hb); replace BK194 := Aside0.mk (bb_ BK194 hb); replace HB := Aside0.mk (bt_ HB hb); (try clear hb); (try clear hb2); (try clear hk); (try clear hi)))
    go_meet
    case rel => exact ⟨_, (true), (by first | rfl | (simp; done) | (simp [*]; done)), H', ⟨by first | omega | exact Nat.le_refl _⟩, ⟨by (with_reducible repeat (first | apply Kd.R_alloc | apply Kd.R_drewN | apply Kd.R_drew)); exact HO197.out⟩, ⟨by (with_reducible repeat (first | refine blk_drewN ?_ _ | refine blk_drew ?_ | refine blk_alloc ?_ _)); exact BK193.out⟩, ⟨by (with_reducible repeat (first | refine blk_drewN ?_ _ | refine blk_drew ?_ | refine blk_alloc ?_ _)); exact BK194.out⟩, ⟨by repeat (first | (with_reducible first | exact HB.out | apply below_alloc | apply pw_below_drewN | apply below_drew1 | refine below_set ?_ GE193.out | refine below_set ?_ GE194.out) | exact HB.out)⟩⟩
  ·replace c10 := Bool.eq_false_iff.mpr c10
   subst c10
   rw [if_neg (show ¬ (false = true) by decide)] at H
   have H' := Aside0.mk H
   clear H
   have hnb35 := NB193_194.out
   have hnc35 := NB194_193.out
   have hcz36_0 := cz_ BK193 0 (.int .i64 a0_0)
   have hcz36_1 := cz_ BK193 1 (.slice A0_1 l0_1.length c0_1)
   have hfz36_0 := blk_frozen BK193.out 0
   have hfz36_1 := blk_frozen BK193.out 1
   go_wp2_with (first | ((with_reducible refine gate_callee (f := 25) rfl ?_); refine gl_ (some 11) Try.func25 #[.agg #[.int .i64 a0_0, .slice A0_1 l0_1.length c0_1]] ?_; (with_reducible refine (spec_GraphOk.calls k a0_0 _ _ l0_1 false _ ?side1 ?side2 A9.out).mono ?_); (case side1 => exact cb_ HR0_1 HB); (case side2 => exact HC0_1.out); rintro e w37 ⟨rfl, hb⟩; refine ⟨_, rfl, ?_⟩; replace HO197 := rb_ HO197 hb; replace BK193 := Aside0.mk (bb_ BK193 hb); replace BK194 := Aside0.mk (bb_ BK194 hb); replace HB := Aside0.mk (bt_ HB hb); (try clear hb); (try clear hb2); (try clear hk); (try clear hi)))
   go_meet
   case rel => exact ⟨_, (true), (by first | rfl | (simp; done) | (simp [*]; done)), H', ⟨by first | omega | exact Nat.le_refl _⟩, ⟨by (with_reducible repeat (first | apply Kd.R_alloc | apply Kd.R_drewN | apply Kd.R_drew)); exact HO197.out⟩, ⟨by (with_reducible repeat (first | refine blk_drewN ?_ _ | refine blk_drew ?_ | refine blk_alloc ?_ _)); exact BK193.out⟩, ⟨by (with_reducible repeat (first | refine blk_drewN ?_ _ | refine blk_drew ?_ | refine blk_alloc ?_ _)); exact BK194.out⟩, ⟨by repeat (first | (with_reducible first | exact HB.out | apply below_alloc | apply pw_below_drewN | apply below_drew1 | refine below_set ?_ GE193.out | refine below_set ?_ GE194.out) | exact HB.out)⟩⟩
 case rest =>
  clear HC4
  try clear c1
  try clear c2
  try clear p2
  try clear c3
  try clear c10
  try clear c12
  try clear c13
  try clear c13b0
  try clear c13b1
  try clear c15
  try clear c21
  try clear c23
  try clear c25
  try clear c30
  try clear c35
  try clear hcz16_0
  try clear hcz16_1
  try clear hcz18_0
  try clear hcz18_1
  try clear hcz20_0
  try clear hcz20_1
  try clear hcz21_0
  try clear hcz21_1
  try clear hcz24_0
  try clear hcz24_1
  try clear hcz26_0
  try clear hcz26_1
  try clear hcz28_0
  try clear hcz28_1
  try clear hcz29_0
  try clear hcz29_1
  try clear hcz31_0
  try clear hcz31_1
  try clear hcz33_0
  try clear hcz33_1
  try clear hcz36_0
  try clear hcz36_1
  try clear hfz16_0
  try clear hfz16_1
  try clear hfz18_0
  try clear hfz18_1
  try clear hfz20_0
  try clear hfz20_1
  try clear hfz21_0
  try clear hfz21_1
  try clear hfz24_0
  try clear hfz24_1
  try clear hfz26_0
  try clear hfz26_1
  try clear hfz28_0
  try clear hfz28_1
  try clear hfz29_0
  try clear hfz29_1
  try clear hfz31_0
  try clear hfz31_1
  try clear hfz33_0
  try clear hfz33_1
  try clear hfz36_0
  try clear hfz36_1
  obtain ⟨kq, x30_3, rfl, HA, HJ3, HO_7, BK193, BK194, HB⟩ := hcut
  cases kq with
  | zero => exact absurd HA.out (by simp [spec_Changed.j0])
  | succ kj3 =>
   have H := HA.out
   clear HA
   simp only [spec_Changed.j0] at H
   by_cases c38 : x30_3 = true
   ·subst c38
    rw [if_pos rfl] at H
    obtain rfl := Option.some.inj H
    go_wp2
    go_ret
    exact ⟨_, by first | rfl | (simp [errW_none, errW_some] <;> rfl) | (simp [*, errW_none, errW_some] <;> rfl), by first | exact Kd.R_nil _ _ _ _ _ | exact Kd.N_nil _ _ _ _ _ | exact Kd.V_nil _ _ _ _ _ | exact Kd.Q_nil _ _ _ _ _ | exact Kd.S_nil _ _ _ _ _, by repeat (first | (with_reducible first | exact HB.out | apply below_alloc | apply pw_below_drewN | apply below_drew1 | refine below_set ?_ GE193.out | refine below_set ?_ GE194.out) | exact HB.out)⟩
   ·replace c38 := Bool.eq_false_iff.mpr c38
    subst c38
    rw [if_neg (show ¬ (false = true) by decide)] at H
    have H' := Aside0.mk H
    clear H
    go_wp2
    go_loopg [7, 8] kj3 (fun kq v7 v8 w' => ∃ (x7_2 : List Int) (x8_2 : Int), v8 = .int .i64 x8_2 ∧ Aside0 (spec_Changed.l0 kq a2 x7_2 x8_2 a0_0 l0_1 a1_0 l1_1 = some r) ∧ Aside0 (kq ≤ kj3) ∧ Aside0 (Kd.R (Kd.int .i64) 3 w' w.heap.size (fun _ => True) v7 x7_2) ∧ Aside0 (w'.heap[gb193]? = some (.cells #[.int .i64 a0_0, (.slice A0_1 l0_1.length c0_1)] 30 (0, 0))) ∧ Aside0 (w'.heap[gb194]? = some (.cells #[.int .i64 a1_0, (.slice A1_1 l1_1.length c1_1)] 30 (0, 0))) ∧ Aside0 (Below w.heap.size w w'))
    case atStart => exact ⟨(y195), (0), (by first | rfl | (simp; done) | (simp [*]; done)), H', ⟨Nat.le_refl _⟩, ⟨by (with_reducible repeat (first | apply Kd.R_alloc | apply Kd.R_drewN | apply Kd.R_drew)); exact HO_7.out⟩, ⟨by (with_reducible repeat (first | refine blk_drewN ?_ _ | refine blk_drew ?_ | refine blk_alloc ?_ _)); exact BK193.out⟩, ⟨by (with_reducible repeat (first | refine blk_drewN ?_ _ | refine blk_drew ?_ | refine blk_alloc ?_ _)); exact BK194.out⟩, ⟨by repeat (first | (with_reducible first | exact HB.out | apply below_alloc | apply pw_below_drewN | apply below_drew1 | refine below_set ?_ GE193.out | refine below_set ?_ GE194.out) | exact HB.out)⟩⟩
    case round =>
     clear H'
     try clear c1
     try clear c2
     try clear p2
     try clear c3
     try clear c10
     try clear c12
     try clear c13
     try clear c13b0
     try clear c13b1
     try clear c15
     try clear c21
     try clear c23
     try clear c25
     try clear c30
     try clear c35
     try clear c38
     try clear hcz16_0
     try clear hcz16_1
     try clear hcz18_0
     try clear hcz18_1
     try clear hcz20_0
     try clear hcz20_1
     try clear hcz21_0
     try clear hcz21_1
     try clear hcz24_0
     try clear hcz24_1
     try clear hcz26_0
     try clear hcz26_1
     try clear hcz28_0
     try clear hcz28_1
     try clear hcz29_0
     try clear hcz29_1
     try clear hcz31_0
     try clear hcz31_1
     try clear hcz33_0
     try clear hcz33_1
     try clear hcz36_0
     try clear hcz36_1
     try clear hfz16_0
     try clear hfz16_1
     try clear hfz18_0
     try clear hfz18_1
     try clear hfz20_0
     try clear hfz20_1
     try clear hfz21_0
     try clear hfz21_1
     try clear hfz24_0
     try clear hfz24_1
     try clear hfz26_0
     try clear hfz26_1
     try clear hfz28_0
     try clear hfz28_1
     try clear hfz29_0
     try clear hfz29_1
     try clear hfz31_0
     try clear hfz31_1
     try clear hfz33_0
     try clear hfz33_1
     try clear hfz36_0
     try clear hfz36_1
     try clear p2
     obtain ⟨x7_2, x8_2, rfl, HA, HK2, HO_7, BK193, BK194, HB⟩ := hrel
     cases gk with
     | zero => exact absurd HA.out (by simp [spec_Changed.l0])
     | succ k2 =>
      have H := HA.out
      clear HA
      simp only [spec_Changed.l0] at H
      by_cases c39 : x8_2 < a0_0
      ·rw [if_pos c39] at H
       have c39b0 : decide (x8_2 < a0_0) = true := decide_eq_true c39
       clear c39
       replace H := Option.bind_eq_some_iff.mp H
       obtain ⟨t201, A400, H⟩ := H
       have A40 := Aside0.mk A400
       clear A400
       replace H := Option.bind_eq_some_iff.mp H
       obtain ⟨t204, A410, H⟩ := H
       have A41 := Aside0.mk A410
       clear A410
       replace H := Option.bind_eq_some_iff.mp H
       obtain ⟨t207, A420, H⟩ := H
       have A42 := Aside0.mk A420
       clear A420
       by_cases c43 : t207 = true
       ·subst c43
        rw [if_pos rfl] at H
        have H' := Aside0.mk H
        clear H
        have hnb44 := NB193_194.out
        have hnc44 := NB194_193.out
        have hcz45_0 := cz_ BK193 0 (.int .i64 a0_0)
        have hcz45_1 := cz_ BK193 1 (.slice A0_1 l0_1.length c0_1)
        have hfz45_0 := blk_frozen BK193.out 0
        have hfz45_1 := blk_frozen BK193.out 1
        try go_wp2
        replace HO_7 := Aside0.mk (Kd.R_drew HO_7.out)
        replace BK193 := Aside0.mk (blk_drew BK193.out)
        replace BK194 := Aside0.mk (blk_drew BK194.out)
        replace HB := Aside0.mk (below_drew1 HB.out)
        refine start_ (n := 10) (S := fun w' => w'.cell? ⟨gb193, 0, none⟩ = some (.int .i64 a0_0) ∧ w'.cell? ⟨gb193, 1, none⟩ = some (.slice A0_1 l0_1.length c0_1) ∧ w'.cell? ⟨gb194, 0, none⟩ = some (.int .i64 a1_0) ∧ w'.cell? ⟨gb194, 1, none⟩ = some (.slice A1_1 l1_1.length c1_1)) (ds := []) ba7_0 (by kernel_rfl) rfl rfl ⟨(blk_cell BK193.out 0).trans rfl, (blk_cell BK193.out 1).trans rfl, (blk_cell BK194.out 0).trans rfl, (blk_cell BK194.out 1).trans rfl⟩ (fun hHeld => ?_); refine with_tabW spec_Changed.tab7 spec_Changed.bits7 (fun HT_ HW_ => ?_)
        generalize wr.drew = w46 at HO_7 BK193 BK194 HB hHeld ⊢
        refine pz_ 1 38 ba7_1 HT_ ?_
        refine pz_ 2 39 ba7_2 HT_ ?_
        refine pz_ 5 42 ba7_3 HT_ ?_
        refine pz_ 6 43 ba7_4 HT_ ?_
        refine pt_ 0 37 ba7_5 HT_ HW_ hHeld ?_
        refine pt_ 4 41 ba7_6 HT_ HW_ hHeld ?_
        refine one_ (i := 3) (N := some 40) ba7_7 rfl rfl (one_of HT_.out (by kernel_rfl)) (by decide) (fun K hK => ?_)
        refine gz_ Try.func53 #[.agg #[.int .i64 a0_0, .slice A0_1 l0_1.length c0_1], .int .i64 a2, .int .i64 x8_2] ?_
        with_reducible refine (spec_HopsTo.calls k2 a0_0 _ _ l0_1 a2 x8_2 t201 _ ?side1 ?side2 A40.out).mono ?_
        (case side1 => exact cb_ HR0_1 HB)
        (case side2 => exact HC0_1.out)
        rintro e w47 ⟨v202, rfl, ho0, hb⟩
        refine ⟨_, rfl, ?_⟩
        have HO203 := Aside0.mk (Kd.R_lower (Kd.R_new' ho0 (Kd.R_lt (hd_ HO_7))) (bz_ HB))
        replace HO_7 := Aside0.mk (Kd.R_elder' (hd_ HO_7) (Kd.R_base ho0) hb)
        replace BK193 := Aside0.mk (bb_ BK193 hb)
        replace BK194 := Aside0.mk (bb_ BK194 hb)
        replace HB := Aside0.mk (bt_ HB hb)
        (try clear hb)
        (try clear hb2)
        (try clear hk)
        (try clear hi)
        (try clear ho0)
        refine hK.out _ _ ⟨(blk_cell BK193.out 0).trans rfl, (blk_cell BK193.out 1).trans rfl, (blk_cell BK194.out 0).trans rfl, (blk_cell BK194.out 1).trans rfl⟩ (fun hHeld => ?_)
        clear hK K
        refine nz_ 40 ?_
        refine one_ (i := 7) (N := some 44) ba7_8 rfl rfl (one_of HT_.out (by kernel_rfl)) (by decide) (fun K hK => ?_)
        refine gz_ Try.func53 #[.agg #[.int .i64 a1_0, .slice A1_1 l1_1.length c1_1], .int .i64 a2, .int .i64 x8_2] ?_
        with_reducible refine (spec_HopsTo.calls k2 a1_0 _ _ l1_1 a2 x8_2 t204 _ ?side1 ?side2 A41.out).mono ?_
        (case side1 => exact cb_ HR1_1 HB)
        (case side2 => exact HC1_1.out)
        rintro e w48 ⟨v205, rfl, ho0, hb⟩
        refine ⟨_, rfl, ?_⟩
        have HO206 := Aside0.mk (Kd.R_lower (Kd.R_new' (Kd.R_new' ho0 (Kd.R_lt (hd_ HO_7))) (Kd.R_lt (hd_ HO203))) (bz_ HB))
        replace HO_7 := Aside0.mk (Kd.R_elder' (hd_ HO_7) (Kd.R_base ho0) hb)
        replace HO203 := Aside0.mk (Kd.R_elder' (hd_ HO203) (Kd.R_base ho0) hb)
        replace BK193 := Aside0.mk (bb_ BK193 hb)
        replace BK194 := Aside0.mk (bb_ BK194 hb)
        replace HB := Aside0.mk (bt_ HB hb)
        (try clear hb)
        (try clear hb2)
        (try clear hk)
        (try clear hi)
        (try clear ho0)
        obtain ⟨Ao49, co49, eo49⟩ := Kd.R_slice HO203.out
        (first | subst eo49 | (injection eo49 with f1_ f2_ f3_; have f4_ := f1_.symm; have f5_ := f3_.symm; clear f1_ f2_ f3_; subst f4_; subst f5_))
        obtain ⟨Ao50, co50, eo50⟩ := Kd.R_slice HO206.out
        (first | subst eo50 | (injection eo50 with f1_ f2_ f3_; have f4_ := f1_.symm; have f5_ := f3_.symm; clear f1_ f2_ f3_; subst f4_; subst f5_))
        refine hK.out _ _ ⟨(blk_cell BK193.out 0).trans rfl, (blk_cell BK193.out 1).trans rfl, (blk_cell BK194.out 0).trans rfl, (blk_cell BK194.out 1).trans rfl⟩ (fun hHeld => ?_)
        clear hK K
        refine nz_ 44 ?_
        refine one_ (i := 8) (N := some 45) ba7_9 rfl rfl (one_of HT_.out (by kernel_rfl)) (by decide) (fun K hK => ?_)
        refine gz_ Try.func59 #[.slice Ao49 t201.length co49, .slice Ao50 t204.length co50] ?_
        with_reducible refine (spec_l04Same.calls k2 _ _ t201 _ _ t204 true _ ?side1 ?side2 ?side3 ?side4 A42.out).mono ?_
        (case side1 => exact rc_ HO203)
        (case side2 => exact (Kd.R_reads' HO203.out).2.1)
        (case side3 => exact rc_ HO206)
        (case side4 => exact (Kd.R_reads' HO206.out).2.1)
        rintro e w' ⟨rfl, ⟨nd, rfl⟩⟩
        refine ⟨_, rfl, ?_⟩
        refine hK.out _ _ ⟨(blk_cell BK193.out 0).trans rfl, (blk_cell BK193.out 1).trans rfl, (blk_cell BK194.out 0).trans rfl, (blk_cell BK194.out 1).trans rfl⟩ (fun hHeld => ?_)
        clear hK K
        refine nz_ 45 ?_
        refine pz_ 9 46 ba7_10 HT_ ?_
        refine done_ (done_of HT_.out (by kernel_rfl)) ?_
        try go_wp2
        go_roundg k2
        case measure => have := HJ3.out; have := HK2.out; omega
        case rel => exact ⟨(x7_2), (wrap64 (x8_2 + 1)), (by first | rfl | (simp; done) | (simp [*]; done)), H', ⟨by have := HJ3.out; have := HK2.out; omega⟩, ⟨by (with_reducible repeat (first | apply Kd.R_alloc | apply Kd.R_drewN | apply Kd.R_drew)); exact Kd.R_mono HO_7.out (fun _ hk => trivial)⟩, ⟨by (with_reducible repeat (first | refine blk_drewN ?_ _ | refine blk_drew ?_ | refine blk_alloc ?_ _)); exact BK193.out⟩, ⟨by (with_reducible repeat (first | refine blk_drewN ?_ _ | refine blk_drew ?_ | refine blk_alloc ?_ _)); exact BK194.out⟩, ⟨by repeat (first | (with_reducible first | exact HB.out | apply below_alloc | apply pw_below_drewN | apply below_drew1 | refine below_set ?_ GE193.out | refine below_set ?_ GE194.out) | exact HB.out)⟩⟩
       ·replace c43 := Bool.eq_false_iff.mpr c43
        subst c43
        rw [if_neg (show ¬ (false = true) by decide)] at H
        by_cases c51 : x7_2.length < 17592186044416
        ·rw [if_pos c51] at H
         have LMc51 := Aside0.mk c51
         clear c51
         obtain ⟨y208, hy208⟩ : ∃ y_ : List Int, y_ = (x7_2 ++ [x8_2]) := ⟨_, rfl⟩
         replace H : (spec_Changed.l0 k2 a2 y208 (wrap64 (x8_2 + 1)) a0_0 l0_1 a1_0 l1_1) = some r := by first | (rw [hy208]; with_reducible exact H) | (have H2_ := (Option.bind_some _ _).symm.trans H; rw [hy208]; with_reducible exact H2_) | (have H2_ := (Option.bind_some _ _).symm.trans H; with_reducible exact H2_) | with_reducible exact H | (rw [hy208]; exact H) | exact H
         have Ny208 := Aside0.mk hy208
         clear hy208
         have H' := Aside0.mk H
         clear H
         have hnb52 := NB193_194.out
         have hnc52 := NB194_193.out
         have hcz53_0 := cz_ BK193 0 (.int .i64 a0_0)
         have hcz53_1 := cz_ BK193 1 (.slice A0_1 l0_1.length c0_1)
         have hfz53_0 := blk_frozen BK193.out 0
         have hfz53_1 := blk_frozen BK193.out 1
         try go_wp2
         replace HO_7 := Aside0.mk (Kd.R_drew HO_7.out)
         replace BK193 := Aside0.mk (blk_drew BK193.out)
         replace BK194 := Aside0.mk (blk_drew BK194.out)
         replace HB := Aside0.mk (below_drew1 HB.out)
         refine start_ (n := 10) (S := fun w' => w'.cell? ⟨gb193, 0, none⟩ = some (.int .i64 a0_0) ∧ w'.cell? ⟨gb193, 1, none⟩ = some (.slice A0_1 l0_1.length c0_1) ∧ w'.cell? ⟨gb194, 0, none⟩ = some (.int .i64 a1_0) ∧ w'.cell? ⟨gb194, 1, none⟩ = some (.slice A1_1 l1_1.length c1_1)) (ds := []) ba7_0 (by kernel_rfl) rfl rfl ⟨(blk_cell BK193.out 0).trans rfl, (blk_cell BK193.out 1).trans rfl, (blk_cell BK194.out 0).trans rfl, (blk_cell BK194.out 1).trans rfl⟩ (fun hHeld => ?_); refine with_tabW spec_Changed.tab7 spec_Changed.bits7 (fun HT_ HW_ => ?_)
         generalize wr.drew = w54 at HO_7 BK193 BK194 HB hHeld ⊢
         refine pz_ 1 38 ba7_1 HT_ ?_
         refine pz_ 2 39 ba7_2 HT_ ?_
         refine pz_ 5 42 ba7_3 HT_ ?_
         refine pz_ 6 43 ba7_4 HT_ ?_
         refine pt_ 0 37 ba7_5 HT_ HW_ hHeld ?_
         refine pt_ 4 41 ba7_6 HT_ HW_ hHeld ?_
         refine one_ (i := 3) (N := some 40) ba7_7 rfl rfl (one_of HT_.out (by kernel_rfl)) (by decide) (fun K hK => ?_)
         refine gz_ Try.func53 #[.agg #[.int .i64 a0_0, .slice A0_1 l0_1.length c0_1], .int .i64 a2, .int .i64 x8_2] ?_
         with_reducible refine (spec_HopsTo.calls k2 a0_0 _ _ l0_1 a2 x8_2 t201 _ ?side1 ?side2 A40.out).mono ?_
         (case side1 => exact cb_ HR0_1 HB)
         (case side2 => exact HC0_1.out)
         rintro e w55 ⟨v202, rfl, ho0, hb⟩
         refine ⟨_, rfl, ?_⟩
         have HO203 := Aside0.mk (Kd.R_lower (Kd.R_new' ho0 (Kd.R_lt (hd_ HO_7))) (bz_ HB))
         replace HO_7 := Aside0.mk (Kd.R_elder' (hd_ HO_7) (Kd.R_base ho0) hb)
         replace BK193 := Aside0.mk (bb_ BK193 hb)
         replace BK194 := Aside0.mk (bb_ BK194 hb)
         replace HB := Aside0.mk (bt_ HB hb)
         (try clear hb)
         (try clear hb2)
         (try clear hk)
         (try clear hi)
         (try clear ho0)
         refine hK.out _ _ ⟨(blk_cell BK193.out 0).trans rfl, (blk_cell BK193.out 1).trans rfl, (blk_cell BK194.out 0).trans rfl, (blk_cell BK194.out 1).trans rfl⟩ (fun hHeld => ?_)
         clear hK K
         refine nz_ 40 ?_
         refine one_ (i := 7) (N := some 44) ba7_8 rfl rfl (one_of HT_.out (by kernel_rfl)) (by decide) (fun K hK => ?_)
         refine gz_ Try.func53 #[.agg #[.int .i64 a1_0, .slice A1_1 l1_1.length c1_1], .int .i64 a2, .int .i64 x8_2] ?_
         with_reducible refine (spec_HopsTo.calls k2 a1_0 _ _ l1_1 a2 x8_2 t204 _ ?side1 ?side2 A41.out).mono ?_
         (case side1 => exact cb_ HR1_1 HB)
         (case side2 => exact HC1_1.out)
         rintro e w56 ⟨v205, rfl, ho0, hb⟩
         refine ⟨_, rfl, ?_⟩
         have HO206 := Aside0.mk (Kd.R_lower (Kd.R_new' (Kd.R_new' ho0 (Kd.R_lt (hd_ HO_7))) (Kd.R_lt (hd_ HO203))) (bz_ HB))
         replace HO_7 := Aside0.mk (Kd.R_elder' (hd_ HO_7) (Kd.R_base ho0) hb)
         replace HO203 := Aside0.mk (Kd.R_elder' (hd_ HO203) (Kd.R_base ho0) hb)
         replace BK193 := Aside0.mk (bb_ BK193 hb)
         replace BK194 := Aside0.mk (bb_ BK194 hb)
         replace HB := Aside0.mk (bt_ HB hb)
         (try clear hb)
         (try clear hb2)
         (try clear hk)
         (try clear hi)
         (try clear ho0)
         obtain ⟨Ao57, co57, eo57⟩ := Kd.R_slice HO203.out
         (first | subst eo57 | (injection eo57 with f1_ f2_ f3_; have f4_ := f1_.symm; have f5_ := f3_.symm; clear f1_ f2_ f3_; subst f4_; subst f5_))
         obtain ⟨Ao58, co58, eo58⟩ := Kd.R_slice HO206.out
         (first | subst eo58 | (injection eo58 with f1_ f2_ f3_; have f4_ := f1_.symm; have f5_ := f3_.symm; clear f1_ f2_ f3_; subst f4_; subst f5_))
         refine hK.out _ _ ⟨(blk_cell BK193.out 0).trans rfl, (blk_cell BK193.out 1).trans rfl, (blk_cell BK194.out 0).trans rfl, (blk_cell BK194.out 1).trans rfl⟩ (fun hHeld => ?_)
         clear hK K
         refine nz_ 44 ?_
         refine one_ (i := 8) (N := some 45) ba7_9 rfl rfl (one_of HT_.out (by kernel_rfl)) (by decide) (fun K hK => ?_)
         refine gz_ Try.func59 #[.slice Ao57 t201.length co57, .slice Ao58 t204.length co58] ?_
         with_reducible refine (spec_l04Same.calls k2 _ _ t201 _ _ t204 false _ ?side1 ?side2 ?side3 ?side4 A42.out).mono ?_
         (case side1 => exact rc_ HO203)
         (case side2 => exact (Kd.R_reads' HO203.out).2.1)
         (case side3 => exact rc_ HO206)
         (case side4 => exact (Kd.R_reads' HO206.out).2.1)
         rintro e w' ⟨rfl, ⟨nd, rfl⟩⟩
         refine ⟨_, rfl, ?_⟩
         refine hK.out _ _ ⟨(blk_cell BK193.out 0).trans rfl, (blk_cell BK193.out 1).trans rfl, (blk_cell BK194.out 0).trans rfl, (blk_cell BK194.out 1).trans rfl⟩ (fun hHeld => ?_)
         clear hK K
         refine nz_ 45 ?_
         refine pz_ 9 46 ba7_10 HT_ ?_
         refine done_ (done_of HT_.out (by kernel_rfl)) ?_
         try go_wp2_with (first | ((with_reducible refine gate_builtin (b := .append) (xs := #[.tmp 47, .tmp 49]) rfl ?_); at_builtin; refine Kd.R_append (Kd.int .i64) (w0 := w) w.heap.size rfl (.tmp 47) (.tmp 49) 26 3 (.int .i64 0) 8 rfl Try.underlying26 info3 rfl (by decide) (by omega) u7 x7_2 x8_2 [.int .i64 x8_2] (fun k_ => some k_ ≠ (.slice Ao57 t201.length co57 : Value).ownBlock ∧ some k_ ≠ (.slice Ao58 t204.length co58 : Value).ownBlock) (fun _ => False) rfl rfl ?aP (fun _ hk => hk.elim) ?aF ?aO ?aB ?aS ?aL ?_; (case aP => exact rfl); (case aB => exact (by repeat (first | (with_reducible first | exact HB.out | apply below_alloc | apply pw_below_drewN | apply below_drew1 | refine below_set ?_ GE193.out | refine below_set ?_ GE194.out) | exact HB.out))); (case aF => exact (fun k_ hk => ⟨Kd.fresh' (Kd.R_lt (hd_ HO203)) k_ hk, Kd.fresh' (Kd.R_lt (hd_ HO206)) k_ hk⟩)); (case aO => exact (by (with_reducible repeat (first | apply Kd.R_alloc | apply Kd.R_drewN | apply Kd.R_drew)); exact Kd.R_mono HO_7.out (fun _ hk => by first | exact ⟨hk.1.2, hk.2⟩ | grind))); (case aS => exact (bz_ HB)); (case aL => have := LMc51.out; omega); intro v209 w59 ho hb hg hat; rw [← Ny208.out] at ho; have HO210 := Aside0.mk ho; replace BK193 := Aside0.mk (blk_grown (g := gb193) (o := .cells #[.int .i64 a0_0, .slice A0_1 l0_1.length c0_1] 30 (0, 0)) (by (with_reducible repeat (first | refine blk_drewN ?_ _ | refine blk_drew ?_ | refine blk_alloc ?_ _)); exact BK193.out) hg (Kd.R_ne HO_7.out BK193.out (by decide))); replace BK194 := Aside0.mk (blk_grown (g := gb194) (o := .cells #[.int .i64 a1_0, .slice A1_1 l1_1.length c1_1] 30 (0, 0)) (by (with_reducible repeat (first | refine blk_drewN ?_ _ | refine blk_drew ?_ | refine blk_alloc ?_ _)); exact BK194.out) hg (Kd.R_ne HO_7.out BK194.out (by decide))); replace HO203 := Aside0.mk (Kd.R_after (ok := (fun k_ => some k_ ≠ (.slice Ao58 t204.length co58 : Value).ownBlock)) (by (with_reducible repeat (first | apply Kd.R_alloc | apply Kd.R_drewN | apply Kd.R_drew)); exact Kd.R_mono HO203.out (fun _ hk => by first | exact ⟨hk.2, hk.1.2⟩ | grind)) hg hat); replace HO206 := Aside0.mk (Kd.R_after (ok := (fun k_ => some k_ ≠ (.slice Ao57 t201.length co57 : Value).ownBlock)) (by (with_reducible repeat (first | apply Kd.R_alloc | apply Kd.R_drewN | apply Kd.R_drew)); exact Kd.R_mono HO206.out (fun _ hk => by first | exact ⟨hk.2, hk.1.2⟩ | grind)) hg hat); replace HB := Aside0.mk (hb); clear HO_7; clear ho hb hg hat))
         go_roundg k2
         case measure => have := HJ3.out; have := HK2.out; omega
         case rel => exact ⟨(y208), (wrap64 (x8_2 + 1)), (by first | rfl | (simp; done) | (simp [*]; done)), H', ⟨by have := HJ3.out; have := HK2.out; omega⟩, ⟨by (with_reducible repeat (first | apply Kd.R_alloc | apply Kd.R_drewN | apply Kd.R_drew)); exact Kd.R_mono HO210.out (fun _ hk => trivial)⟩, ⟨by (with_reducible repeat (first | refine blk_drewN ?_ _ | refine blk_drew ?_ | refine blk_alloc ?_ _)); exact BK193.out⟩, ⟨by (with_reducible repeat (first | refine blk_drewN ?_ _ | refine blk_drew ?_ | refine blk_alloc ?_ _)); exact BK194.out⟩, ⟨by repeat (first | (with_reducible first | exact HB.out | apply below_alloc | apply pw_below_drewN | apply below_drew1 | refine below_set ?_ GE193.out | refine below_set ?_ GE194.out) | exact HB.out)⟩⟩
        ·rw [if_neg c51] at H
         exact absurd H (by simp)
      ·rw [if_neg c39] at H
       have c39b0 : decide (x8_2 < a0_0) = false := decide_eq_false c39
       clear c39
       obtain rfl := Option.some.inj H
       have hnb60 := NB193_194.out
       have hnc60 := NB194_193.out
       have hcz61_0 := cz_ BK193 0 (.int .i64 a0_0)
       have hcz61_1 := cz_ BK193 1 (.slice A0_1 l0_1.length c0_1)
       have hfz61_0 := blk_frozen BK193.out 0
       have hfz61_1 := blk_frozen BK193.out 1
       go_wp2
       go_ret
       exact ⟨_, by first | rfl | (simp [errW_none, errW_some] <;> rfl) | (simp [*, errW_none, errW_some] <;> rfl), by (with_reducible repeat (first | apply Kd.R_alloc | apply Kd.R_drewN | apply Kd.R_drew)); exact HO_7.out, by repeat (first | (with_reducible first | exact HB.out | apply below_alloc | apply pw_below_drewN | apply below_drew1 | refine below_set ?_ GE193.out | refine below_set ?_ GE194.out) | exact HB.out)⟩

/-! ### impl_within: function 54 -/
def impl_within.f (a0 : Int) (a1 : Int) (a2 : Int) : Option (Bool) := if a0 ≥ a1 then (some (decide (a0 ≤ a2))) else (some false)
set_option maxHeartbeats 8000000 in
set_option maxRecDepth 100000 in
theorem impl_within.calls (a0 : Int) (a1 : Int) (a2 : Int) (r : Bool) (w : World) (h : impl_within.f a0 a1 a2 = some r) :
  Calls Try.prog 54 #[.int .i64 a0, .int .i64 a1, .int .i64 a2] w fun e w' => e = .returned (.bool r) ∧ Drawn0 w w' := by
 have H : (if a0 ≥ a1 then (some (decide (a0 ≤ a2))) else (some false)) = some r := h
 clear h
 by_cases c4 : a0 ≥ a1
 ·rw [if_pos c4] at H
  have c4b0 : decide (a1 ≤ a0) = true := decide_eq_true c4
  clear c4
  obtain rfl := Option.some.inj H
  go_enter Try.func54, Try.ntmps54
  go_wp2
  go_ret
  exact ⟨by first | rfl | (simp; done) | (simp [*]; done), by repeat (first | exact Drawn0.refl _ | apply Drawn0.step)⟩
 ·rw [if_neg c4] at H
  have c4b0 : decide (a1 ≤ a0) = false := decide_eq_false c4
  clear c4
  obtain rfl := Option.some.inj H
  go_enter Try.func54, Try.ntmps54
  go_wp2
  go_ret
  exact ⟨by first | rfl | (simp; done) | (simp [*]; done), by repeat (first | exact Drawn0.refl _ | apply Drawn0.step)⟩

/-! ### impl_Graph_isNode: function 48 -/
def impl_Graph_isNode.f (a0_0 : Int) (l0_1 : List (S76)) (a1 : Int) : Option (Bool) := (impl_within.f a1 0 (wrap64 (a0_0 - 1))).bind fun t212 => (some t212)
set_option maxHeartbeats 8000000 in
set_option maxRecDepth 100000 in
theorem impl_Graph_isNode.calls (a0_0 : Int) (A0_1 : Option Addr) (c0_1 : Nat) (l0_1 : List (S76)) (a1 : Int) (r : Bool) (w : World) (hr0_1 : Kd.C k76 w A0_1 l0_1.length l0_1) (hc0_1 : l0_1.length ≤ c0_1) (h : impl_Graph_isNode.f a0_0 l0_1 a1 = some r) :
  Calls Try.prog 48 #[.agg #[.int .i64 a0_0, .slice A0_1 l0_1.length c0_1], .int .i64 a1] w fun e w' => e = .returned (.bool r) ∧ Below w.heap.size w w' := by
 have hu30 := Try.underlying30
 have HR0_1 := Aside0.mk hr0_1
 have HC0_1 := Aside0.mk hc0_1
 clear hr0_1 hc0_1
 have HB := Aside0.mk (Below.refl w.heap.size w)
 have H : ((impl_within.f a1 0 (wrap64 (a0_0 - 1))).bind fun t212 => (some t212)) = some r := h
 clear h
 replace H := Option.bind_eq_some_iff.mp H
 obtain ⟨t212, A30, H⟩ := H
 have A3 := Aside0.mk A30
 clear A30
 obtain rfl := Option.some.inj H
 go_enter Try.func48, Try.ntmps48
 go_wp2_with (first | ((with_reducible refine gate_dst (N := 2) rfl ?_); refine box_event ?hg (N := 2) ?hd (cs := #[.int .i64 a0_0, .slice A0_1 l0_1.length c0_1]) (t := 30) ?hr ?_; (case hd => rfl); (case hg => rfl); (case hr => first | (go_simp; done) | (go_simp; rfl)); intro gb211 hg w4 hbox hb; have BK211 := Aside0.mk hbox; have GW211 := ge_ HB hg; have GE211 := ge_ HB hg; replace HB := Aside0.mk (bt_ HB hb); clear hb hbox hg; have hcz5_0 := cz_ BK211 0 (.int .i64 a0_0); have hcz5_1 := cz_ BK211 1 (.slice A0_1 l0_1.length c0_1); have hfz5_0 := blk_frozen BK211.out 0; have hfz5_1 := blk_frozen BK211.out 1) | ((with_reducible refine gate_callee (f := 54) rfl ?_); refine gl_ (some 9) Try.func54 #[.int .i64 a1, .int .i64 0, .int .i64 (wrap64 (a0_0 - 1))] ?_; (with_reducible refine (impl_within.calls a1 0 (wrap64 (a0_0 - 1)) t212 _ A3.out).mono ?_); rintro e w' ⟨rfl, ⟨nd, rfl⟩⟩; refine ⟨_, rfl, ?_⟩))
 go_ret
 exact ⟨by first | rfl | (simp [errW_none, errW_some] <;> rfl) | (simp [*, errW_none, errW_some] <;> rfl), by repeat (first | (with_reducible first | exact HB.out | apply below_alloc | apply pw_below_drewN | apply below_drew1 | refine below_set ?_ GE211.out) | exact HB.out)⟩

/-! ### impl_compareEdges: function 76 -/
def impl_compareEdges.f (a0_0 : Int) (a0_1 : Int) (a0_2 : Int) (a1_0 : Int) (a1_1 : Int) (a1_2 : Int) : Option (Int) := if a0_0 = a1_0 then (some (wrap64 (a0_1 - a1_1))) else (some (wrap64 (a0_0 - a1_0)))
set_option maxHeartbeats 8000000 in
set_option maxRecDepth 100000 in
theorem impl_compareEdges.calls (a0_0 : Int) (a0_1 : Int) (a0_2 : Int) (a1_0 : Int) (a1_1 : Int) (a1_2 : Int) (r : Int) (w : World) (h : impl_compareEdges.f a0_0 a0_1 a0_2 a1_0 a1_1 a1_2 = some r) :
  Calls Try.prog 76 #[.agg #[.int .i64 a0_0, .int .i64 a0_1, .int .i64 a0_2], .agg #[.int .i64 a1_0, .int .i64 a1_1, .int .i64 a1_2]] w fun e w' => e = .returned (.int .i64 r) ∧ Below w.heap.size w w' := by
 have hu76 := Try.underlying76
 have HB := Aside0.mk (Below.refl w.heap.size w)
 have H : (if a0_0 = a1_0 then (some (wrap64 (a0_1 - a1_1))) else (some (wrap64 (a0_0 - a1_0)))) = some r := h
 clear h
 by_cases c3 : a0_0 = a1_0
 ·rw [if_pos c3] at H
  have c3b0 : (a0_0 == a1_0) = true := beq_iff_eq.mpr c3
  have c3b1 : (a0_0 != a1_0) = false := bne_eq_false_iff_eq.mpr c3
  clear c3
  obtain rfl := Option.some.inj H
  go_enter Try.func76, Try.ntmps76
  go_wp2_with (first | ((with_reducible refine gate_dst (N := 2) rfl ?_); refine box_event ?hg (N := 2) ?hd (cs := #[.int .i64 a0_0, .int .i64 a0_1, .int .i64 a0_2]) (t := 76) ?hr ?_; (case hd => rfl); (case hg => rfl); (case hr => first | (go_simp; done) | (go_simp; rfl)); intro gb213 hg w4 hbox hb; have BK213 := Aside0.mk hbox; have GW213 := ge_ HB hg; have GE213 := ge_ HB hg; replace HB := Aside0.mk (bt_ HB hb); clear hb hbox hg) | ((with_reducible refine gate_dst (N := 3) rfl ?_); refine box_event ?hg (N := 3) ?hd (cs := #[.int .i64 a1_0, .int .i64 a1_1, .int .i64 a1_2]) (t := 76) ?hr ?_; (case hd => rfl); (case hg => rfl); (case hr => first | (go_simp; done) | (go_simp; rfl)); intro gb214 hg w5 hbox hb; have BK214 := Aside0.mk hbox; have GW214 := ge_ HB hg; have GE214 := ge_ HB hg; have NB213_214 := nl_ BK213 hg; have NB214_213 := ng_ BK213 hg; replace HB := Aside0.mk (bt_ HB hb); replace BK213 := Aside0.mk (bb_ BK213 hb); clear hb hbox hg; have hnb6 := NB213_214.out; have hnc6 := NB214_213.out; have hcz7_0 := cz_ BK213 0 (.int .i64 a0_0); have hcz7_1 := cz_ BK213 1 (.int .i64 a0_1); have hcz7_2 := cz_ BK213 2 (.int .i64 a0_2); have hfz7_0 := blk_frozen BK213.out 0; have hfz7_1 := blk_frozen BK213.out 1; have hfz7_2 := blk_frozen BK213.out 2; have hcz8_0 := cz_ BK214 0 (.int .i64 a1_0); have hcz8_1 := cz_ BK214 1 (.int .i64 a1_1); have hcz8_2 := cz_ BK214 2 (.int .i64 a1_2); have hfz8_0 := blk_frozen BK214.out 0; have hfz8_1 := blk_frozen BK214.out 1; have hfz8_2 := blk_frozen BK214.out 2))
  go_ret
  exact ⟨by first | rfl | (simp [errW_none, errW_some] <;> rfl) | (simp [*, errW_none, errW_some] <;> rfl), by repeat (first | (with_reducible first | exact HB.out | apply below_alloc | apply pw_below_drewN | apply below_drew1 | refine below_set ?_ GE213.out | refine below_set ?_ GE214.out) | exact HB.out)⟩
 ·rw [if_neg c3] at H
  have c3b0 : (a0_0 == a1_0) = false := beq_eq_false_iff_ne.mpr c3
  have c3b1 : (a0_0 != a1_0) = true := bne_iff_ne.mpr c3
  obtain rfl := Option.some.inj H
  go_enter Try.func76, Try.ntmps76
  go_wp2_with (first | ((with_reducible refine gate_dst (N := 2) rfl ?_); refine box_event ?hg (N := 2) ?hd (cs := #[.int .i64 a0_0, .int .i64 a0_1, .int .i64 a0_2]) (t := 76) ?hr ?_; (case hd => rfl); (case hg => rfl); (case hr => first | (go_simp; done) | (go_simp; rfl)); intro gb213 hg w9 hbox hb; have BK213 := Aside0.mk hbox; have GW213 := ge_ HB hg; have GE213 := ge_ HB hg; replace HB := Aside0.mk (bt_ HB hb); clear hb hbox hg) | ((with_reducible refine gate_dst (N := 3) rfl ?_); refine box_event ?hg (N := 3) ?hd (cs := #[.int .i64 a1_0, .int .i64 a1_1, .int .i64 a1_2]) (t := 76) ?hr ?_; (case hd => rfl); (case hg => rfl); (case hr => first | (go_simp; done) | (go_simp; rfl)); intro gb214 hg w10 hbox hb; have BK214 := Aside0.mk hbox; have GW214 := ge_ HB hg; have GE214 := ge_ HB hg; have NB213_214 := nl_ BK213 hg; have NB214_213 := ng_ BK213 hg; replace HB := Aside0.mk (bt_ HB hb); replace BK213 := Aside0.mk (bb_ BK213 hb); clear hb hbox hg; have hnb11 := NB213_214.out; have hnc11 := NB214_213.out; have hcz12_0 := cz_ BK213 0 (.int .i64 a0_0); have hcz12_1 := cz_ BK213 1 (.int .i64 a0_1); have hcz12_2 := cz_ BK213 2 (.int .i64 a0_2); have hfz12_0 := blk_frozen BK213.out 0; have hfz12_1 := blk_frozen BK213.out 1; have hfz12_2 := blk_frozen BK213.out 2; have hcz13_0 := cz_ BK214 0 (.int .i64 a1_0); have hcz13_1 := cz_ BK214 1 (.int .i64 a1_1); have hcz13_2 := cz_ BK214 2 (.int .i64 a1_2); have hfz13_0 := blk_frozen BK214.out 0; have hfz13_1 := blk_frozen BK214.out 1; have hfz13_2 := blk_frozen BK214.out 2))
  go_ret
  exact ⟨by first | rfl | (simp [errW_none, errW_some] <;> rfl) | (simp [*, errW_none, errW_some] <;> rfl), by repeat (first | (with_reducible first | exact HB.out | apply below_alloc | apply pw_below_drewN | apply below_drew1 | refine below_set ?_ GE213.out | refine below_set ?_ GE214.out) | exact HB.out)⟩

end Go.Proofs.Ythmahcohcphljaa.QFnExactChanged
