/- Contracts of functions that the law reaches: what each call returns and what it leaves in memory. Made by this session over the print of the kit. -/
import Derived.Test.YtjepmdngbafonaaQFnAggregatex0
import Derived.Test.YtjepmdngbafonaaQFnAggregatex2
import Derived.Test.YtjepmdngbafonaaQFnAggregatex10
import Derived.Test.YtjepmdngbafonaaQFnAggregatex18
namespace Go.Proofs.Ytjepmdngbafonaa.QFnAggregate
open Go.RowKit Go.Proofs.YtjepmdngbafonaaB.PrintWords Go.Proofs.YtjepmdngbafonaaB.PrintLast Go.Proofs.YtjepmdngbafonaaB.PrintMore
attribute [local go_sem] max2_int min2_int max_two min_two max_three min_three max_four min_four   -- for this text's walks alone
set_option linter.unusedVariables false
set_option linter.unusedSimpArgs false
def ba19_0 : Array Bool := #[false, false, false, false, false, false, false, false]
def ba19_1 : Array Bool := #[false, true, false, false, false, false, false, false]
def ba19_2 : Array Bool := #[false, true, false, true, false, false, false, false]
def ba19_3 : Array Bool := #[false, true, false, true, true, false, false, false]
def ba19_4 : Array Bool := #[true, true, false, true, true, false, false, false]
def ba19_5 : Array Bool := #[true, true, true, true, true, false, false, false]
def ba19_6 : Array Bool := #[true, true, true, true, true, true, false, false]
def ba19_7 : Array Bool := #[true, true, true, true, true, true, true, false]
def ba19_8 : Array Bool := #[true, true, true, true, true, true, true, true]

/-! ### impl_shortest2: function 79 -/
def impl_shortest2.f : Nat → Int → Int → List Int → List Int → List (S28) → Option ((List (S28)))
 | 0, _, _, _, _, _ => none
 | k + 1, a0_0, a0_1, l1_0, l1_1, l2 => (impl_Cover_1.f a0_0 a0_1 l1_0 l1_1).bind fun t529 => (if t529 = 0 then (some l2) else ((impl_Prefix_size.f a0_0 a0_1).bind fun t530 => (if t529 = t530 then (if l2.length < 8796093022208 then (some (l2 ++ [(⟨a0_0, a0_1⟩ : S28)])) else (none)) else ((impl_Prefix_halves.f a0_0 a0_1).bind fun bt534 => ((impl_shortest2.f k bt534.1 bt534.2.1 l1_0 l1_1 l2).bind fun t540 => ((impl_shortest2.f k bt534.2.2.1 bt534.2.2.2 l1_0 l1_1 t540).bind fun t543 => (some t543)))))))
theorem impl_shortest2.mono_l : ∀ k, (∀ y0 y1 y2 y3 y4, LeO (impl_shortest2.f k y0 y1 y2 y3 y4) (impl_shortest2.f (k + 1) y0 y1 y2 y3 y4))
 | 0 => fun _ _ _ _ _ r h => by simp [impl_shortest2.f] at h
 | k + 1 => by
  have ih0 := impl_shortest2.mono_l k
  ·intro y0 y1 y2 y3 y4
   unfold impl_shortest2.f
   repeat' first
   | (with_reducible exact ih0 _ _ _ _ _)
   | (with_reducible exact LeO.refl _)
   | (with_reducible exact LeO.none _)
   | (with_reducible refine LeO.ite ?_ ?_)
   | (with_reducible refine LeO.bind ?_ (fun _ => ?_))
   | exact ih0 _ _ _ _ _
   | exact LeO.none _
   | refine LeO.ite ?_ ?_
   | refine LeO.bind ?_ (fun _ => ?_)
theorem impl_shortest2.mono : ∀ a0 a1 a2 a3 a4 k, LeO (impl_shortest2.f k a0 a1 a2 a3 a4) (impl_shortest2.f (k + 1) a0 a1 a2 a3 a4) := by
 intro a0 a1 a2 a3 a4 k
 have ih0 := impl_shortest2.mono_l k
 exact ih0 a0 a1 a2 a3 a4
def impl_shortest2.T7 : Bool × List (List Nat × List Nat) := (true, [([], []), ([], []), ([], []), ([], []), ([], []), ([2, 3, 4], [2, 3, 4]), ([0, 1, 5, 5], [0, 1, 5]), ([6, 6, 0, 1, 2, 3, 4, 5, 6], [6])])
def impl_shortest2.B7 : List Nat := [0, 0, 0, 0, 0, 28, 63, 127]
theorem impl_shortest2.tab7 : rtab .any (opsOf Try.f79 7) = impl_shortest2.T7 := by kernel_rfl
theorem impl_shortest2.bits7 : waitsOk impl_shortest2.T7.2 impl_shortest2.B7 = true := by kernel_rfl
set_option maxHeartbeats 8000000 in
set_option maxRecDepth 100000 in
theorem impl_shortest2.calls (k : Nat) : ∀ (a0_0 : Int) (a0_1 : Int) (A1_0 : Option Addr) (l1_0 : List Int) (A1_1 : Option Addr) (l1_1 : List Int) (P2_ : Nat → Prop) (u9000_ : Value) (l2 : List (S28)) (r : List (S28)) (w0 w : World) (hB : Below w0.heap.size w0 w) (hr1_0 : ∀ W_, Kept w W_ (fun k_ => P2_ k_) → Kd.C (Kd.int .i64) W_ A1_0 l1_0.length l1_0) (hr1_1 : ∀ W_, Kept w W_ (fun k_ => P2_ k_) → Kd.C (Kd.int .i64) W_ A1_1 l1_1.length l1_1) (ho2 : Kd.R k28 28 w w0.heap.size P2_ u9000_ l2) (h : impl_shortest2.f k a0_0 a0_1 l1_0 l1_1 l2 = some r),
  Calls Try.prog 79 #[.agg #[.int .i64 a0_0, .int .i64 a0_1], .func (.func 85) #[] #[.pointer A1_0, .pointer A1_1], u9000_] w fun e w' => ∃ v0_ : Value, e = .returned (v0_) ∧ Kd.R k28 28 w' w0.heap.size (fun k_ => (P2_ k_ ∨ w.heap.size ≤ k_)) v0_ r ∧ Below w0.heap.size w0 w' ∧ Kept w w' (fun k_ => P2_ k_) := by
 induction k using Nat.strongRecOn with
 | _ k ih =>
 intro a0_0 a0_1 A1_0 l1_0 A1_1 l1_1 P2_ u9000_ l2 r w0 w hB hr1_0 hr1_1 ho2 h
 cases k with
 | zero => exact absurd h (by simp [impl_shortest2.f])
 | succ k =>
 simp only [impl_shortest2.f] at h
 have hu28 := Try.underlying28
 have HR1_0 := Aside0.mk hr1_0
 clear hr1_0
 have HR1_1 := Aside0.mk hr1_1
 clear hr1_1
 have HO2 := Aside0.mk (show Kd.R k28 28 w w0.heap.size (fun k_ => (P2_ k_ ∨ w.heap.size ≤ k_)) u9000_ l2 from Kd.R_mono ho2 (fun k_ hk => (.inl hk)))
 have HK := Aside0.mk (Kept.refl w (fun k_ => P2_ k_))
 have HW0 := Aside0.mk hB.size
 have HB := Aside0.mk hB
 clear hB
 have H : ((impl_Cover_1.f a0_0 a0_1 l1_0 l1_1).bind fun t529 => (if t529 = 0 then (some l2) else ((impl_Prefix_size.f a0_0 a0_1).bind fun t530 => (if t529 = t530 then (if l2.length < 8796093022208 then (some (l2 ++ [(⟨a0_0, a0_1⟩ : S28)])) else (none)) else ((impl_Prefix_halves.f a0_0 a0_1).bind fun bt534 => ((impl_shortest2.f k bt534.1 bt534.2.1 l1_0 l1_1 l2).bind fun t540 => ((impl_shortest2.f k bt534.2.2.1 bt534.2.2.2 l1_0 l1_1 t540).bind fun t543 => (some t543)))))))) = some r := h
 clear h
 replace H := Option.bind_eq_some_iff.mp H
 obtain ⟨t529, A40, H⟩ := H
 have A4 := Aside0.mk A40
 clear A40
 by_cases c5 : t529 = 0
 ·rw [if_pos c5] at H
  have c5b0 : (t529 == 0) = true := beq_iff_eq.mpr c5
  have c5b1 : (t529 != 0) = false := bne_eq_false_iff_eq.mpr c5
  clear c5
  obtain rfl := Option.some.inj H
  go_enter Try.func79, Try.ntmps79
  go_wp2_with (first | ((with_reducible refine gate_dst (N := 3) rfl ?_); refine box_event ?hg (N := 3) ?hd (cs := #[.int .i64 a0_0, .int .i64 a0_1]) (t := 28) ?hr ?_; (case hd => rfl); (case hg => rfl); (case hr => first | (go_simp; done) | (go_simp; rfl)); intro gb528 hg w6 hbox hb; have BK528 := Aside0.mk hbox; have GW528 := Aside0.mk ((by rw [hg]; exact (by first | exact HK.out.1 | exact (show Kept w _ (fun k_ => P2_ k_) from by repeat (first | (with_reducible first | exact HK.out | apply Kept.alloc | apply Kept.drewN | apply Kept.drew) | exact HK.out)).1) : w.heap.size ≤ gb528)); have GE528 := Aside0.mk ((by rw [hg]; exact (bz_ HB) : w0.heap.size ≤ gb528)); replace HO2 := Aside0.mk (Kd.R_below (Kd.R_elderB (hd_ HO2) gb528 (Nat.le_of_eq hg.symm)) hb); replace HK := Aside0.mk (Kept.below (S := (fun k_ => P2_ k_)) (by repeat (first | (with_reducible first | exact HK.out | apply Kept.alloc | apply Kept.drewN | apply Kept.drew) | exact HK.out)) hb); replace HB := Aside0.mk (bt_ HB hb); clear hb hbox hg; have hcz7_0 := cz_ BK528 0 (.int .i64 a0_0); have hcz7_1 := cz_ BK528 1 (.int .i64 a0_1); have hfz7_0 := blk_frozen BK528.out 0; have hfz7_1 := blk_frozen BK528.out 1) | ((with_reducible refine gate_dst (N := 11) rfl ?_); refine goesTc_ (some 11) rfl rfl Try.func85 (by kernel_rfl) rfl #[.agg #[.int .i64 a0_0, .int .i64 a0_1], .pointer A1_0, .pointer A1_1] rfl (by (try simp only [List.map_toArray, List.map_cons, List.map_nil]); first | done | rfl | (simp only [List.length_drop, List.length_take]; rfl)) ?_; (with_reducible refine (impl_Cover_1.calls a0_0 a0_1 _ l1_0 _ l1_1 t529 _ ?side1 ?side2 A4.out).mono ?_); (case side1 => exact Kd.C_kept_now HR1_0.out (by repeat (first | (with_reducible first | exact HK.out | apply Kept.alloc | apply Kept.drewN | apply Kept.drew | refine Kept.setCell ?_ (.inr GW528.out) _) | exact HK.out))); (case side2 => exact Kd.C_kept_now HR1_1.out (by repeat (first | (with_reducible first | exact HK.out | apply Kept.alloc | apply Kept.drewN | apply Kept.drew | refine Kept.setCell ?_ (.inr GW528.out) _) | exact HK.out))); rintro e w8 ⟨rfl, hb⟩; refine ⟨_, rfl, ?_⟩; replace HO2 := rb_ HO2 hb; replace BK528 := Aside0.mk (bb_ BK528 hb); replace HK := Aside0.mk (Kept.below (S := (fun k_ => P2_ k_)) (by repeat (first | (with_reducible first | exact HK.out | apply Kept.alloc | apply Kept.drewN | apply Kept.drew | refine Kept.setCell ?_ (.inr GW528.out) _) | exact HK.out)) hb); replace HB := Aside0.mk (bt_ HB hb); (try clear hb); (try clear hb2); (try clear hk); (try clear hi)))
  go_ret
  exact ⟨_, by first | rfl | (simp [errW_none, errW_some] <;> rfl) | (simp [*, errW_none, errW_some] <;> rfl), by (with_reducible repeat (first | apply Kd.R_alloc | apply Kd.R_drewN | apply Kd.R_drew)); exact Kd.R_mono HO2.out (fun _ hk => hk.1), by repeat (first | (with_reducible first | exact HB.out | apply below_alloc | apply pw_below_drewN | apply below_drew1 | refine below_set ?_ GE528.out) | exact HB.out), by repeat (first | (with_reducible first | exact HK.out | apply Kept.alloc | apply Kept.drewN | apply Kept.drew | refine Kept.setCell ?_ (.inr GW528.out) _) | exact HK.out)⟩
 rw [if_neg c5] at H
 have c5b0 : (t529 == 0) = false := beq_eq_false_iff_ne.mpr c5
 have c5b1 : (t529 != 0) = true := bne_iff_ne.mpr c5
 replace H := Option.bind_eq_some_iff.mp H
 obtain ⟨t530, A90, H⟩ := H
 have A9 := Aside0.mk A90
 clear A90
 by_cases c10 : t529 = t530
 ·rw [if_pos c10] at H
  have c10b0 : (t529 == t530) = true := beq_iff_eq.mpr c10
  have c10b1 : (t529 != t530) = false := bne_eq_false_iff_eq.mpr c10
  clear c10
  by_cases c11 : l2.length < 8796093022208
  rotate_left
  ·rw [if_neg c11] at H
   exact absurd H (by simp)
  rw [if_pos c11] at H
  have LMc11 := Aside0.mk c11
  clear c11
  obtain ⟨y531, hy531⟩ : ∃ y_ : List (S28), y_ = (l2 ++ [(⟨a0_0, a0_1⟩ : S28)]) := ⟨_, rfl⟩
  replace H : (some y531) = some r := by first | (rw [hy531]; with_reducible exact H) | (have H2_ := (Option.bind_some _ _).symm.trans H; rw [hy531]; with_reducible exact H2_) | (have H2_ := (Option.bind_some _ _).symm.trans H; with_reducible exact H2_) | with_reducible exact H | (rw [hy531]; exact H) | exact H
  have Ny531 := Aside0.mk hy531
  clear hy531
  obtain rfl := Option.some.inj H
  go_enter Try.func79, Try.ntmps79
  go_wp2_with (first | ((with_reducible refine gate_dst (N := 3) rfl ?_); refine box_event ?hg (N := 3) ?hd (cs := #[.int .i64 a0_0, .int .i64 a0_1]) (t := 28) ?hr ?_; (case hd => rfl); (case hg => rfl); (case hr => first | (go_simp; done) | (go_simp; rfl)); intro gb528 hg w12 hbox hb; have BK528 := Aside0.mk hbox; have GW528 := Aside0.mk ((by rw [hg]; exact (by first | exact HK.out.1 | exact (show Kept w _ (fun k_ => P2_ k_) from by repeat (first | (with_reducible first | exact HK.out | apply Kept.alloc | apply Kept.drewN | apply Kept.drew) | exact HK.out)).1) : w.heap.size ≤ gb528)); have GE528 := Aside0.mk ((by rw [hg]; exact (bz_ HB) : w0.heap.size ≤ gb528)); replace HO2 := Aside0.mk (Kd.R_below (Kd.R_elderB (hd_ HO2) gb528 (Nat.le_of_eq hg.symm)) hb); replace HK := Aside0.mk (Kept.below (S := (fun k_ => P2_ k_)) (by repeat (first | (with_reducible first | exact HK.out | apply Kept.alloc | apply Kept.drewN | apply Kept.drew) | exact HK.out)) hb); replace HB := Aside0.mk (bt_ HB hb); clear hb hbox hg; have hcz13_0 := cz_ BK528 0 (.int .i64 a0_0); have hcz13_1 := cz_ BK528 1 (.int .i64 a0_1); have hfz13_0 := blk_frozen BK528.out 0; have hfz13_1 := blk_frozen BK528.out 1) | ((with_reducible refine gate_dst (N := 11) rfl ?_); refine goesTc_ (some 11) rfl rfl Try.func85 (by kernel_rfl) rfl #[.agg #[.int .i64 a0_0, .int .i64 a0_1], .pointer A1_0, .pointer A1_1] rfl (by (try simp only [List.map_toArray, List.map_cons, List.map_nil]); first | done | rfl | (simp only [List.length_drop, List.length_take]; rfl)) ?_; (with_reducible refine (impl_Cover_1.calls a0_0 a0_1 _ l1_0 _ l1_1 t529 _ ?side1 ?side2 A4.out).mono ?_); (case side1 => exact Kd.C_kept_now HR1_0.out (by repeat (first | (with_reducible first | exact HK.out | apply Kept.alloc | apply Kept.drewN | apply Kept.drew | refine Kept.setCell ?_ (.inr GW528.out) _) | exact HK.out))); (case side2 => exact Kd.C_kept_now HR1_1.out (by repeat (first | (with_reducible first | exact HK.out | apply Kept.alloc | apply Kept.drewN | apply Kept.drew | refine Kept.setCell ?_ (.inr GW528.out) _) | exact HK.out))); rintro e w14 ⟨rfl, hb⟩; refine ⟨_, rfl, ?_⟩; replace HO2 := rb_ HO2 hb; replace BK528 := Aside0.mk (bb_ BK528 hb); replace HK := Aside0.mk (Kept.below (S := (fun k_ => P2_ k_)) (by repeat (first | (with_reducible first | exact HK.out | apply Kept.alloc | apply Kept.drewN | apply Kept.drew | refine Kept.setCell ?_ (.inr GW528.out) _) | exact HK.out)) hb); replace HB := Aside0.mk (bt_ HB hb); (try clear hb); (try clear hb2); (try clear hk); (try clear hi); have hcz15_0 := cz_ BK528 0 (.int .i64 a0_0); have hcz15_1 := cz_ BK528 1 (.int .i64 a0_1); have hfz15_0 := blk_frozen BK528.out 0; have hfz15_1 := blk_frozen BK528.out 1) | ((with_reducible refine gate_callee (f := 69) rfl ?_); refine gl_ (some 17) Try.func69 #[.agg #[.int .i64 a0_0, .int .i64 a0_1]] ?_; (with_reducible refine (impl_Prefix_size.calls a0_0 a0_1 t530 _ A9.out).mono ?_); rintro e w16 ⟨rfl, hb⟩; refine ⟨_, rfl, ?_⟩; replace HO2 := rb_ HO2 hb; replace BK528 := Aside0.mk (bb_ BK528 hb); replace HK := Aside0.mk (Kept.below (S := (fun k_ => P2_ k_)) (by repeat (first | (with_reducible first | exact HK.out | apply Kept.alloc | apply Kept.drewN | apply Kept.drew | refine Kept.setCell ?_ (.inr GW528.out) _) | exact HK.out)) hb); replace HB := Aside0.mk (bt_ HB hb); (try clear hb); (try clear hb2); (try clear hk); (try clear hi); have hcz17_0 := cz_ BK528 0 (.int .i64 a0_0); have hcz17_1 := cz_ BK528 1 (.int .i64 a0_1); have hfz17_0 := blk_frozen BK528.out 0; have hfz17_1 := blk_frozen BK528.out 1) | ((with_reducible refine gate_builtin (b := .append) (xs := #[.tmp 19, .tmp 21]) rfl ?_); at_builtin; refine Kd.R_append k28 (w0 := w0) w0.heap.size rfl (.tmp 19) (.tmp 21) 51 28 (.agg #[(.int .i64 0), (.int .i64 0)]) 16 rfl Try.underlying51 info28 rfl (by decide) (by omega) u9000_ l2 (⟨a0_0, a0_1⟩ : S28) [.int .i64 a0_0, .int .i64 a0_1] (fun k_ => (P2_ k_ ∨ w.heap.size ≤ k_) ∧ k_ ≠ gb528) (fun _ => False) rfl rfl ?aP (fun _ hk => hk.elim) ?aF ?aO ?aB ?aS ?aL ?_; (case aP => exact k28_mkM _ _ _ (⟨a0_0, a0_1⟩ : S28)); (case aB => exact (by repeat (first | (with_reducible first | exact HB.out | apply below_alloc | apply pw_below_drewN | apply below_drew1 | refine below_set ?_ GE528.out) | exact HB.out))); (case aF => exact (fun k_ hk => ⟨(.inr (Nat.le_trans (by first | exact HK.out.1 | exact (show Kept w _ (fun k_ => P2_ k_) from by repeat (first | (with_reducible first | exact HK.out | apply Kept.alloc | apply Kept.drewN | apply Kept.drew | refine Kept.setCell ?_ (.inr GW528.out) _) | exact HK.out)).1) hk)), Kd.freshB (g := gb528) (o := .cells #[.int .i64 a0_0, .int .i64 a0_1] 28 (0, 0)) (by (with_reducible repeat (first | refine blk_drewN ?_ _ | refine blk_drew ?_ | refine blk_alloc ?_ _)); exact BK528.out) k_ hk⟩)); (case aO => exact (hd_ HO2)); (case aS => exact (bz_ HB)); (case aL => have := LMc11.out; omega); intro v532 w18 ho hb hg hat; rw [← Ny531.out] at ho; have HO533 := Aside0.mk ho; replace BK528 := Aside0.mk (blk_grown (g := gb528) (o := .cells #[.int .i64 a0_0, .int .i64 a0_1] 28 (0, 0)) (by (with_reducible repeat (first | refine blk_drewN ?_ _ | refine blk_drew ?_ | refine blk_alloc ?_ _)); exact BK528.out) hg (Kd.R_away HO2.out (fun _ hk => hk.2))); replace HB := Aside0.mk (hb); replace HK := Aside0.mk (Kept.of_grown (S := (fun k_ => P2_ k_)) hg (by repeat (first | (with_reducible first | exact HK.out | apply Kept.alloc | apply Kept.drewN | apply Kept.drew | refine Kept.setCell ?_ (.inr GW528.out) _) | exact HK.out)) (fun k_ e_ => (HO2.out.1 k_ e_).1)); clear HO2; clear ho hb hg hat))
  go_ret
  exact ⟨_, by first | rfl | (simp [errW_none, errW_some] <;> rfl) | (simp [*, errW_none, errW_some] <;> rfl), by (with_reducible repeat (first | apply Kd.R_alloc | apply Kd.R_drewN | apply Kd.R_drew)); exact Kd.R_mono HO533.out (fun _ hk => hk.1), by repeat (first | (with_reducible first | exact HB.out | apply below_alloc | apply pw_below_drewN | apply below_drew1 | refine below_set ?_ GE528.out) | exact HB.out), by repeat (first | (with_reducible first | exact HK.out | apply Kept.alloc | apply Kept.drewN | apply Kept.drew | refine Kept.setCell ?_ (.inr GW528.out) _) | exact HK.out)⟩
 rw [if_neg c10] at H
 have c10b0 : (t529 == t530) = false := beq_eq_false_iff_ne.mpr c10
 have c10b1 : (t529 != t530) = true := bne_iff_ne.mpr c10
 replace H := Option.bind_eq_some_iff.mp H
 obtain ⟨⟨t534, t535, t536, t537⟩, A190, H⟩ := H
 have A19 := Aside0.mk A190
 clear A190
 replace H := Option.bind_eq_some_iff.mp H
 obtain ⟨t540, A200, H⟩ := H
 have A20 := Aside0.mk A200
 clear A200
 replace H := Option.bind_eq_some_iff.mp H
 obtain ⟨t543, A210, H⟩ := H
 have A21 := Aside0.mk A210
 clear A210
 obtain rfl := Option.some.inj H
 go_enter Try.func79, Try.ntmps79
 try go_wp2_with (first | ((with_reducible refine gate_dst (N := 3) rfl ?_); refine box_event ?hg (N := 3) ?hd (cs := #[.int .i64 a0_0, .int .i64 a0_1]) (t := 28) ?hr ?_; (case hd => rfl); (case hg => rfl); (case hr => first | (go_simp; done) | (go_simp; rfl)); intro gb528 hg w22 hbox hb; have BK528 := Aside0.mk hbox; have GW528 := Aside0.mk ((by rw [hg]; exact (by first | exact HK.out.1 | exact (show Kept w _ (fun k_ => P2_ k_) from by repeat (first | (with_reducible first | exact HK.out | apply Kept.alloc | apply Kept.drewN | apply Kept.drew) | exact HK.out)).1) : w.heap.size ≤ gb528)); have GE528 := Aside0.mk ((by rw [hg]; exact (bz_ HB) : w0.heap.size ≤ gb528)); replace HO2 := Aside0.mk (Kd.R_below (Kd.R_elderB (hd_ HO2) gb528 (Nat.le_of_eq hg.symm)) hb); replace HK := Aside0.mk (Kept.below (S := (fun k_ => P2_ k_)) (by repeat (first | (with_reducible first | exact HK.out | apply Kept.alloc | apply Kept.drewN | apply Kept.drew) | exact HK.out)) hb); replace HB := Aside0.mk (bt_ HB hb); clear hb hbox hg; have hcz23_0 := cz_ BK528 0 (.int .i64 a0_0); have hcz23_1 := cz_ BK528 1 (.int .i64 a0_1); have hfz23_0 := blk_frozen BK528.out 0; have hfz23_1 := blk_frozen BK528.out 1) | ((with_reducible refine gate_dst (N := 11) rfl ?_); refine goesTc_ (some 11) rfl rfl Try.func85 (by kernel_rfl) rfl #[.agg #[.int .i64 a0_0, .int .i64 a0_1], .pointer A1_0, .pointer A1_1] rfl (by (try simp only [List.map_toArray, List.map_cons, List.map_nil]); first | done | rfl | (simp only [List.length_drop, List.length_take]; rfl)) ?_; (with_reducible refine (impl_Cover_1.calls a0_0 a0_1 _ l1_0 _ l1_1 t529 _ ?side1 ?side2 A4.out).mono ?_); (case side1 => exact Kd.C_kept_now HR1_0.out (by repeat (first | (with_reducible first | exact HK.out | apply Kept.alloc | apply Kept.drewN | apply Kept.drew | refine Kept.setCell ?_ (.inr GW528.out) _) | exact HK.out))); (case side2 => exact Kd.C_kept_now HR1_1.out (by repeat (first | (with_reducible first | exact HK.out | apply Kept.alloc | apply Kept.drewN | apply Kept.drew | refine Kept.setCell ?_ (.inr GW528.out) _) | exact HK.out))); rintro e w24 ⟨rfl, hb⟩; refine ⟨_, rfl, ?_⟩; replace HO2 := rb_ HO2 hb; replace BK528 := Aside0.mk (bb_ BK528 hb); replace HK := Aside0.mk (Kept.below (S := (fun k_ => P2_ k_)) (by repeat (first | (with_reducible first | exact HK.out | apply Kept.alloc | apply Kept.drewN | apply Kept.drew | refine Kept.setCell ?_ (.inr GW528.out) _) | exact HK.out)) hb); replace HB := Aside0.mk (bt_ HB hb); (try clear hb); (try clear hb2); (try clear hk); (try clear hi); have hcz25_0 := cz_ BK528 0 (.int .i64 a0_0); have hcz25_1 := cz_ BK528 1 (.int .i64 a0_1); have hfz25_0 := blk_frozen BK528.out 0; have hfz25_1 := blk_frozen BK528.out 1) | ((with_reducible refine gate_callee (f := 69) rfl ?_); refine gl_ (some 17) Try.func69 #[.agg #[.int .i64 a0_0, .int .i64 a0_1]] ?_; (with_reducible refine (impl_Prefix_size.calls a0_0 a0_1 t530 _ A9.out).mono ?_); rintro e w26 ⟨rfl, hb⟩; refine ⟨_, rfl, ?_⟩; replace HO2 := rb_ HO2 hb; replace BK528 := Aside0.mk (bb_ BK528 hb); replace HK := Aside0.mk (Kept.below (S := (fun k_ => P2_ k_)) (by repeat (first | (with_reducible first | exact HK.out | apply Kept.alloc | apply Kept.drewN | apply Kept.drew | refine Kept.setCell ?_ (.inr GW528.out) _) | exact HK.out)) hb); replace HB := Aside0.mk (bt_ HB hb); (try clear hb); (try clear hb2); (try clear hk); (try clear hi); have hcz27_0 := cz_ BK528 0 (.int .i64 a0_0); have hcz27_1 := cz_ BK528 1 (.int .i64 a0_1); have hfz27_0 := blk_frozen BK528.out 0; have hfz27_1 := blk_frozen BK528.out 1) | ((with_reducible refine gate_callee (f := 106) rfl ?_); refine gl_ (some 25) Try.func106 #[.agg #[.int .i64 a0_0, .int .i64 a0_1]] ?_; (with_reducible refine (impl_Prefix_halves.calls a0_0 a0_1 t534 t535 t536 t537 _ A19.out).mono ?_); rintro e w28 ⟨rfl, hb⟩; refine ⟨_, rfl, ?_⟩; replace HO2 := rb_ HO2 hb; replace BK528 := Aside0.mk (bb_ BK528 hb); replace HK := Aside0.mk (Kept.below (S := (fun k_ => P2_ k_)) (by repeat (first | (with_reducible first | exact HK.out | apply Kept.alloc | apply Kept.drewN | apply Kept.drew | refine Kept.setCell ?_ (.inr GW528.out) _) | exact HK.out)) hb); replace HB := Aside0.mk (bt_ HB hb); (try clear hb); (try clear hb2); (try clear hk); (try clear hi)) | ((with_reducible refine gate_dst (N := 7) rfl ?_); refine box_event ?hg (N := 7) ?hd (cs := #[.int .i64 0, .int .i64 0]) (t := 28) ?hr ?_; (case hd => rfl); (case hg => rfl); (case hr => first | (go_simp; done) | (go_simp; rfl)); intro gb538 hg w29 hbox hb; have BK538 := Aside0.mk hbox; have GW538 := Aside0.mk ((by rw [hg]; exact (by first | exact HK.out.1 | exact (show Kept w _ (fun k_ => P2_ k_) from by repeat (first | (with_reducible first | exact HK.out | apply Kept.alloc | apply Kept.drewN | apply Kept.drew | refine Kept.setCell ?_ (.inr GW528.out) _) | exact HK.out)).1) : w.heap.size ≤ gb538)); have GE538 := Aside0.mk ((by rw [hg]; exact (bz_ HB) : w0.heap.size ≤ gb538)); have NB528_538 := nl_ BK528 hg; have NB538_528 := ng_ BK528 hg; replace HO2 := Aside0.mk (Kd.R_below (Kd.R_elderB (hd_ HO2) gb538 (Nat.le_of_eq hg.symm)) hb); replace HK := Aside0.mk (Kept.below (S := (fun k_ => P2_ k_)) (by repeat (first | (with_reducible first | exact HK.out | apply Kept.alloc | apply Kept.drewN | apply Kept.drew | refine Kept.setCell ?_ (.inr GW528.out) _) | exact HK.out)) hb); replace HB := Aside0.mk (bt_ HB hb); replace BK528 := Aside0.mk (bb_ BK528 hb); clear hb hbox hg) | ((with_reducible refine gate_dst (N := 8) rfl ?_); refine box_event ?hg (N := 8) ?hd (cs := #[.int .i64 0, .int .i64 0]) (t := 28) ?hr ?_; (case hd => rfl); (case hg => rfl); (case hr => first | (go_simp; done) | (go_simp; rfl)); intro gb539 hg w30 hbox hb; have BK539 := Aside0.mk hbox; have GW539 := Aside0.mk ((by rw [hg]; exact (by first | exact HK.out.1 | exact (show Kept w _ (fun k_ => P2_ k_) from by repeat (first | (with_reducible first | exact HK.out | apply Kept.alloc | apply Kept.drewN | apply Kept.drew | refine Kept.setCell ?_ (.inr GW528.out) _ | refine Kept.setCell ?_ (.inr GW538.out) _) | exact HK.out)).1) : w.heap.size ≤ gb539)); have GE539 := Aside0.mk ((by rw [hg]; exact (bz_ HB) : w0.heap.size ≤ gb539)); have NB528_539 := nl_ BK528 hg; have NB539_528 := ng_ BK528 hg; have NB538_539 := nl_ BK538 hg; have NB539_538 := ng_ BK538 hg; replace HO2 := Aside0.mk (Kd.R_below (Kd.R_elderB (hd_ HO2) gb539 (Nat.le_of_eq hg.symm)) hb); replace HK := Aside0.mk (Kept.below (S := (fun k_ => P2_ k_)) (by repeat (first | (with_reducible first | exact HK.out | apply Kept.alloc | apply Kept.drewN | apply Kept.drew | refine Kept.setCell ?_ (.inr GW528.out) _ | refine Kept.setCell ?_ (.inr GW538.out) _) | exact HK.out)) hb); replace HB := Aside0.mk (bt_ HB hb); replace BK528 := Aside0.mk (bb_ BK528 hb); replace BK538 := Aside0.mk (bb_ BK538 hb); clear hb hbox hg; have hnb31 := NB538_528.out; have hnc31 := NB528_538.out; have hnb32 := NB538_539.out; have hnc32 := NB539_538.out; have hcz33_0 := cz_ BK538 0 (.int .i64 0); have hcz33_1 := cz_ BK538 1 (.int .i64 0); have hfz33_0 := blk_frozen BK538.out 0; have hfz33_1 := blk_frozen BK538.out 1; have hnb34 := NB539_528.out; have hnc34 := NB528_539.out; have hcz35_0 := cz_ BK539 0 (.int .i64 0); have hcz35_1 := cz_ BK539 1 (.int .i64 0); have hfz35_0 := blk_frozen BK539.out 0; have hfz35_1 := blk_frozen BK539.out 1))
 have n0_ : Aside0 (Kd.R k28 28 ((((w30.setCell ⟨gb538, 0, none⟩ (.int .i64 t534)).setCell ⟨gb538, 1, none⟩ (.int .i64 t535)).setCell ⟨gb539, 0, none⟩ (.int .i64 t536)).setCell ⟨gb539, 1, none⟩ (.int .i64 t537)) w0.heap.size (fun k_ => (P2_ k_ ∨ w.heap.size ≤ k_) ∧ k_ ≠ gb528 ∧ k_ ≠ gb538 ∧ k_ ≠ gb539) u9000_ l2) := ⟨by (with_reducible repeat (first | apply Kd.R_alloc | apply Kd.R_drewN | apply Kd.R_drew)); exact Kd.R_mono (Kd.R_far (p := ⟨gb539, 1, none⟩) (Kd.R_far (p := ⟨gb539, 0, none⟩) (Kd.R_far (p := ⟨gb538, 1, none⟩) (Kd.R_far (p := ⟨gb538, 0, none⟩) (Kd.R_mono (Kd.R_mono HO2.out (fun k_ hk => (⟨hk, hk.1.2⟩ : _ ∧ k_ ≠ gb538))) (fun k_ hk => (⟨hk, hk.1.2⟩ : _ ∧ k_ ≠ gb539))) (fun _ hk => hk.1.2) (.int .i64 t534)) (fun _ hk => hk.1.2) (.int .i64 t535)) (fun _ hk => hk.2) (.int .i64 t536)) (fun _ hk => hk.2) (.int .i64 t537)) (fun _ hk => ⟨hk.1.1.1.1.1, ⟨hk.1.1.1.1.2, ⟨hk.1.1.1.2, hk.1.1.2⟩⟩⟩)⟩
 have n1_ : Aside0 (((((w30.setCell ⟨gb538, 0, none⟩ (.int .i64 t534)).setCell ⟨gb538, 1, none⟩ (.int .i64 t535)).setCell ⟨gb539, 0, none⟩ (.int .i64 t536)).setCell ⟨gb539, 1, none⟩ (.int .i64 t537)).heap[gb528]? = some (.cells #[.int .i64 a0_0, .int .i64 a0_1] 28 (0, 0))) := ⟨by (with_reducible repeat (first | refine blk_drewN ?_ _ | refine blk_drew ?_ | refine blk_alloc ?_ _)); refine blk_far ?_ NB528_539.out _; (with_reducible repeat (first | refine blk_drewN ?_ _ | refine blk_drew ?_ | refine blk_alloc ?_ _)); refine blk_far ?_ NB528_539.out _; (with_reducible repeat (first | refine blk_drewN ?_ _ | refine blk_drew ?_ | refine blk_alloc ?_ _)); refine blk_far ?_ NB528_538.out _; (with_reducible repeat (first | refine blk_drewN ?_ _ | refine blk_drew ?_ | refine blk_alloc ?_ _)); refine blk_far ?_ NB528_538.out _; (with_reducible repeat (first | refine blk_drewN ?_ _ | refine blk_drew ?_ | refine blk_alloc ?_ _)); exact BK528.out⟩
 have n2_ : Aside0 (((((w30.setCell ⟨gb538, 0, none⟩ (.int .i64 t534)).setCell ⟨gb538, 1, none⟩ (.int .i64 t535)).setCell ⟨gb539, 0, none⟩ (.int .i64 t536)).setCell ⟨gb539, 1, none⟩ (.int .i64 t537)).heap[gb538]? = some (.cells #[.int .i64 t534, .int .i64 t535] 28 (0, 0))) := ⟨by (with_reducible repeat (first | refine blk_drewN ?_ _ | refine blk_drew ?_ | refine blk_alloc ?_ _)); refine blk_far ?_ NB538_539.out _; (with_reducible repeat (first | refine blk_drewN ?_ _ | refine blk_drew ?_ | refine blk_alloc ?_ _)); refine blk_far ?_ NB538_539.out _; (with_reducible repeat (first | refine blk_drewN ?_ _ | refine blk_drew ?_ | refine blk_alloc ?_ _)); refine blk_put (cs := #[.int .i64 t534, .int .i64 0]) ?_ 1 _ rfl; (with_reducible repeat (first | refine blk_drewN ?_ _ | refine blk_drew ?_ | refine blk_alloc ?_ _)); refine blk_put (cs := #[.int .i64 0, .int .i64 0]) ?_ 0 _ rfl; (with_reducible repeat (first | refine blk_drewN ?_ _ | refine blk_drew ?_ | refine blk_alloc ?_ _)); exact BK538.out⟩
 have n3_ : Aside0 (((((w30.setCell ⟨gb538, 0, none⟩ (.int .i64 t534)).setCell ⟨gb538, 1, none⟩ (.int .i64 t535)).setCell ⟨gb539, 0, none⟩ (.int .i64 t536)).setCell ⟨gb539, 1, none⟩ (.int .i64 t537)).heap[gb539]? = some (.cells #[.int .i64 t536, .int .i64 t537] 28 (0, 0))) := ⟨by (with_reducible repeat (first | refine blk_drewN ?_ _ | refine blk_drew ?_ | refine blk_alloc ?_ _)); refine blk_put (cs := #[.int .i64 t536, .int .i64 0]) ?_ 1 _ rfl; (with_reducible repeat (first | refine blk_drewN ?_ _ | refine blk_drew ?_ | refine blk_alloc ?_ _)); refine blk_put (cs := #[.int .i64 0, .int .i64 0]) ?_ 0 _ rfl; (with_reducible repeat (first | refine blk_drewN ?_ _ | refine blk_drew ?_ | refine blk_alloc ?_ _)); refine blk_far ?_ NB539_538.out _; (with_reducible repeat (first | refine blk_drewN ?_ _ | refine blk_drew ?_ | refine blk_alloc ?_ _)); refine blk_far ?_ NB539_538.out _; (with_reducible repeat (first | refine blk_drewN ?_ _ | refine blk_drew ?_ | refine blk_alloc ?_ _)); exact BK539.out⟩
 have n4_ : Aside0 (Kept w ((((w30.setCell ⟨gb538, 0, none⟩ (.int .i64 t534)).setCell ⟨gb538, 1, none⟩ (.int .i64 t535)).setCell ⟨gb539, 0, none⟩ (.int .i64 t536)).setCell ⟨gb539, 1, none⟩ (.int .i64 t537)) (fun k_ => P2_ k_)) := ⟨by repeat (first | (with_reducible first | exact HK.out | apply Kept.alloc | apply Kept.drewN | apply Kept.drew | refine Kept.setCell ?_ (.inr GW528.out) _ | refine Kept.setCell ?_ (.inr GW538.out) _ | refine Kept.setCell ?_ (.inr GW539.out) _) | exact HK.out)⟩
 have n5_ : Aside0 (Below w0.heap.size w0 ((((w30.setCell ⟨gb538, 0, none⟩ (.int .i64 t534)).setCell ⟨gb538, 1, none⟩ (.int .i64 t535)).setCell ⟨gb539, 0, none⟩ (.int .i64 t536)).setCell ⟨gb539, 1, none⟩ (.int .i64 t537))) := ⟨by repeat (first | (with_reducible first | exact HB.out | apply below_alloc | apply pw_below_drewN | apply below_drew1 | refine below_set ?_ GE528.out | refine below_set ?_ GE538.out | refine below_set ?_ GE539.out) | exact HB.out)⟩
 (try clear HO2)
 (try clear BK528)
 (try clear BK538)
 (try clear BK539)
 (try clear HK)
 (try clear HB)
 generalize ((((w30.setCell ⟨gb538, 0, none⟩ (.int .i64 t534)).setCell ⟨gb538, 1, none⟩ (.int .i64 t535)).setCell ⟨gb539, 0, none⟩ (.int .i64 t536)).setCell ⟨gb539, 1, none⟩ (.int .i64 t537)) = w36 at n0_ n1_ n2_ n3_ n4_ n5_ ⊢
 have HO2 := n0_
 have BK528 := n1_
 have BK538 := n2_
 have BK539 := n3_
 have HK := n4_
 have HB := n5_
 clear n0_ n1_ n2_ n3_ n4_ n5_
 replace HO2 := Aside0.mk (Kd.R_drew HO2.out)
 replace BK528 := Aside0.mk (blk_drew BK528.out)
 replace BK538 := Aside0.mk (blk_drew BK538.out)
 replace BK539 := Aside0.mk (blk_drew BK539.out)
 replace HK := Aside0.mk (Kept.drew HK.out)
 replace HB := Aside0.mk (below_drew1 HB.out)
 obtain ⟨Ao38, co38, eo38⟩ := Kd.R_slice HO2.out
 (first | subst eo38 | (injection eo38 with f1_ f2_ f3_; have f4_ := f1_.symm; have f5_ := f3_.symm; clear f1_ f2_ f3_; subst f4_; subst f5_))
 refine start_ (n := 8) (S := fun w' => w'.cell? ⟨gb539, 0, none⟩ = some (.int .i64 t536) ∧ w'.cell? ⟨gb539, 1, none⟩ = some (.int .i64 t537) ∧ w'.cell? ⟨gb538, 0, none⟩ = some (.int .i64 t534) ∧ w'.cell? ⟨gb538, 1, none⟩ = some (.int .i64 t535)) (ds := []) ba19_0 (by kernel_rfl) rfl rfl ⟨(blk_cell BK539.out 0).trans rfl, (blk_cell BK539.out 1).trans rfl, (blk_cell BK538.out 0).trans rfl, (blk_cell BK538.out 1).trans rfl⟩ (fun hHeld => ?_); refine with_tabW impl_shortest2.tab7 impl_shortest2.bits7 (fun HT_ HW_ => ?_)
 generalize w36.drew = w37 at HO2 BK528 BK538 BK539 HK HB hHeld ⊢
 refine pz_ 1 29 ba19_1 HT_ ?_
 refine pz_ 3 31 ba19_2 HT_ ?_
 refine pz_ 4 32 ba19_3 HT_ ?_
 refine pt_ 0 28 ba19_4 HT_ HW_ hHeld ?_
 refine pt_ 2 30 ba19_5 HT_ HW_ hHeld ?_
 refine one_ (i := 5) (N := some 33) ba19_6 rfl rfl (one_of HT_.out (by kernel_rfl)) (by decide) (fun K hK => ?_)
 refine gz_ Try.func79 #[.agg #[.int .i64 t534, .int .i64 t535], .func (.func 85) #[] #[.pointer A1_0, .pointer A1_1], .slice Ao38 l2.length co38] ?_
 with_reducible refine (ih k (by omega) t534 t535 _ l1_0 _ l1_1 (fun k_ => some k_ = (.slice Ao38 l2.length co38 : Value).ownBlock) (.slice Ao38 l2.length co38) l2 t540 w0 _ ?side1 ?side2 ?side3 ?side4 A20.out).mono ?_
 (case side1 => exact by_ HB)
 (case side2 => exact Kd.C_kept_call HR1_0.out (by repeat (first | (with_reducible first | exact HK.out | apply Kept.alloc | apply Kept.drewN | apply Kept.drew | refine Kept.setCell ?_ (.inr GW528.out) _ | refine Kept.setCell ?_ (.inr GW538.out) _ | refine Kept.setCell ?_ (.inr GW539.out) _) | exact HK.out)) (fun k_ hs_ => (fun e_ => (HO2.out.1 k_ e_.symm).1) hs_))
 (case side3 => exact Kd.C_kept_call HR1_1.out (by repeat (first | (with_reducible first | exact HK.out | apply Kept.alloc | apply Kept.drewN | apply Kept.drew | refine Kept.setCell ?_ (.inr GW528.out) _ | refine Kept.setCell ?_ (.inr GW538.out) _ | refine Kept.setCell ?_ (.inr GW539.out) _) | exact HK.out)) (fun k_ hs_ => (fun e_ => (HO2.out.1 k_ e_.symm).1) hs_))
 (case side4 => exact Kd.R_tight rfl HO2.out)
 rintro e w39 ⟨v541, rfl, ho0, hb, hkp⟩
 refine ⟨_, rfl, ?_⟩
 have HO542 := Aside0.mk (Kd.R_mono (ok' := fun k_ => (P2_ k_ ∨ w.heap.size ≤ k_) ∧ k_ ≠ gb528 ∧ k_ ≠ gb538 ∧ k_ ≠ gb539) ho0 (fun k_ hk_ => ⟨Or.elim hk_ (fun hs_ => (HO2.out.1 k_ (hs_).symm).1) (fun hn_ => (.inr (Nat.le_trans (by first | exact HK.out.1 | exact (show Kept w _ (fun k_ => P2_ k_) from by repeat (first | (with_reducible first | exact HK.out | apply Kept.alloc | apply Kept.drewN | apply Kept.drew | refine Kept.setCell ?_ (.inr GW528.out) _ | refine Kept.setCell ?_ (.inr GW538.out) _ | refine Kept.setCell ?_ (.inr GW539.out) _) | exact HK.out)).1) hn_))), Or.elim hk_ (fun hs_ => fun e_ => (Kd.R_away HO2.out (fun _ hk => hk.2.1)) (by rw [← e_]; exact hs_)) (fun hn_ => (Kd.freshB (g := gb528) (o := .cells #[.int .i64 a0_0, .int .i64 a0_1] 28 (0, 0)) (by (with_reducible repeat (first | refine blk_drewN ?_ _ | refine blk_drew ?_ | refine blk_alloc ?_ _)); exact BK528.out) k_ hn_)), Or.elim hk_ (fun hs_ => fun e_ => (Kd.R_away HO2.out (fun _ hk => hk.2.2.1)) (by rw [← e_]; exact hs_)) (fun hn_ => (Kd.freshB (g := gb538) (o := .cells #[.int .i64 t534, .int .i64 t535] 28 (0, 0)) (by (with_reducible repeat (first | refine blk_drewN ?_ _ | refine blk_drew ?_ | refine blk_alloc ?_ _)); exact BK538.out) k_ hn_)), Or.elim hk_ (fun hs_ => fun e_ => (Kd.R_away HO2.out (fun _ hk => hk.2.2.2)) (by rw [← e_]; exact hs_)) (fun hn_ => (Kd.freshB (g := gb539) (o := .cells #[.int .i64 t536, .int .i64 t537] 28 (0, 0)) (by (with_reducible repeat (first | refine blk_drewN ?_ _ | refine blk_drew ?_ | refine blk_alloc ?_ _)); exact BK539.out) k_ hn_))⟩))
 replace BK528 := bk_ BK528 hkp (fun hs_ => (fun e_ => (Kd.R_away HO2.out (fun _ hk => hk.2.1)) e_) hs_)
 replace BK538 := bk_ BK538 hkp (fun hs_ => (fun e_ => (Kd.R_away HO2.out (fun _ hk => hk.2.2.1)) e_) hs_)
 replace BK539 := bk_ BK539 hkp (fun hs_ => (fun e_ => (Kd.R_away HO2.out (fun _ hk => hk.2.2.2)) e_) hs_)
 replace HK := Aside0.mk (Kept.then_ (S := (fun k_ => P2_ k_)) (by repeat (first | (with_reducible first | exact HK.out | apply Kept.alloc | apply Kept.drewN | apply Kept.drew | refine Kept.setCell ?_ (.inr GW528.out) _ | refine Kept.setCell ?_ (.inr GW538.out) _ | refine Kept.setCell ?_ (.inr GW539.out) _) | exact HK.out)) hkp (fun k_ hs_ => (fun e_ => (HO2.out.1 k_ e_.symm).1) hs_))
 replace HB := Aside0.mk (hb)
 clear HO2
 (try clear hb)
 (try clear hkp)
 (try clear ho0)
 obtain ⟨Ao40, co40, eo40⟩ := Kd.R_slice HO542.out
 (first | subst eo40 | (injection eo40 with f1_ f2_ f3_; have f4_ := f1_.symm; have f5_ := f3_.symm; clear f1_ f2_ f3_; subst f4_; subst f5_))
 refine hK.out _ _ ⟨(blk_cell BK539.out 0).trans rfl, (blk_cell BK539.out 1).trans rfl, (blk_cell BK538.out 0).trans rfl, (blk_cell BK538.out 1).trans rfl⟩ (fun hHeld => ?_)
 clear hK K
 refine nz_ 33 ?_
 refine one_ (i := 6) (N := some 34) ba19_7 rfl rfl (one_of HT_.out (by kernel_rfl)) (by decide) (fun K hK => ?_)
 refine gz_ Try.func79 #[.agg #[.int .i64 t536, .int .i64 t537], .func (.func 85) #[] #[.pointer A1_0, .pointer A1_1], .slice Ao40 t540.length co40] ?_
 with_reducible refine (ih k (by omega) t536 t537 _ l1_0 _ l1_1 (fun k_ => some k_ = (.slice Ao40 t540.length co40 : Value).ownBlock) (.slice Ao40 t540.length co40) t540 t543 w0 _ ?side1 ?side2 ?side3 ?side4 A21.out).mono ?_
 (case side1 => exact by_ HB)
 (case side2 => exact Kd.C_kept_call HR1_0.out (by repeat (first | (with_reducible first | exact HK.out | apply Kept.alloc | apply Kept.drewN | apply Kept.drew | refine Kept.setCell ?_ (.inr GW528.out) _ | refine Kept.setCell ?_ (.inr GW538.out) _ | refine Kept.setCell ?_ (.inr GW539.out) _) | exact HK.out)) (fun k_ hs_ => (fun e_ => (HO542.out.1 k_ e_.symm).1) hs_))
 (case side3 => exact Kd.C_kept_call HR1_1.out (by repeat (first | (with_reducible first | exact HK.out | apply Kept.alloc | apply Kept.drewN | apply Kept.drew | refine Kept.setCell ?_ (.inr GW528.out) _ | refine Kept.setCell ?_ (.inr GW538.out) _ | refine Kept.setCell ?_ (.inr GW539.out) _) | exact HK.out)) (fun k_ hs_ => (fun e_ => (HO542.out.1 k_ e_.symm).1) hs_))
 (case side4 => exact Kd.R_tight rfl HO542.out)
 rintro e w41 ⟨v544, rfl, ho0, hb, hkp⟩
 refine ⟨_, rfl, ?_⟩
 have HO545 := Aside0.mk (Kd.R_mono (ok' := fun k_ => (P2_ k_ ∨ w.heap.size ≤ k_) ∧ k_ ≠ gb528 ∧ k_ ≠ gb538 ∧ k_ ≠ gb539) ho0 (fun k_ hk_ => ⟨Or.elim hk_ (fun hs_ => (HO542.out.1 k_ (hs_).symm).1) (fun hn_ => (.inr (Nat.le_trans (by first | exact HK.out.1 | exact (show Kept w _ (fun k_ => P2_ k_) from by repeat (first | (with_reducible first | exact HK.out | apply Kept.alloc | apply Kept.drewN | apply Kept.drew | refine Kept.setCell ?_ (.inr GW528.out) _ | refine Kept.setCell ?_ (.inr GW538.out) _ | refine Kept.setCell ?_ (.inr GW539.out) _) | exact HK.out)).1) hn_))), Or.elim hk_ (fun hs_ => fun e_ => (Kd.R_away HO542.out (fun _ hk => hk.2.1)) (by rw [← e_]; exact hs_)) (fun hn_ => (Kd.freshB (g := gb528) (o := .cells #[.int .i64 a0_0, .int .i64 a0_1] 28 (0, 0)) (by (with_reducible repeat (first | refine blk_drewN ?_ _ | refine blk_drew ?_ | refine blk_alloc ?_ _)); exact BK528.out) k_ hn_)), Or.elim hk_ (fun hs_ => fun e_ => (Kd.R_away HO542.out (fun _ hk => hk.2.2.1)) (by rw [← e_]; exact hs_)) (fun hn_ => (Kd.freshB (g := gb538) (o := .cells #[.int .i64 t534, .int .i64 t535] 28 (0, 0)) (by (with_reducible repeat (first | refine blk_drewN ?_ _ | refine blk_drew ?_ | refine blk_alloc ?_ _)); exact BK538.out) k_ hn_)), Or.elim hk_ (fun hs_ => fun e_ => (Kd.R_away HO542.out (fun _ hk => hk.2.2.2)) (by rw [← e_]; exact hs_)) (fun hn_ => (Kd.freshB (g := gb539) (o := .cells #[.int .i64 t536, .int .i64 t537] 28 (0, 0)) (by (with_reducible repeat (first | refine blk_drewN ?_ _ | refine blk_drew ?_ | refine blk_alloc ?_ _)); exact BK539.out) k_ hn_))⟩))
 replace BK528 := bk_ BK528 hkp (fun hs_ => (fun e_ => (Kd.R_away HO542.out (fun _ hk => hk.2.1)) e_) hs_)
 replace BK538 := bk_ BK538 hkp (fun hs_ => (fun e_ => (Kd.R_away HO542.out (fun _ hk => hk.2.2.1)) e_) hs_)
 replace BK539 := bk_ BK539 hkp (fun hs_ => (fun e_ => (Kd.R_away HO542.out (fun _ hk => hk.2.2.2)) e_) hs_)
 replace HK := Aside0.mk (Kept.then_ (S := (fun k_ => P2_ k_)) (by repeat (first | (with_reducible first | exact HK.out | apply Kept.alloc | apply Kept.drewN | apply Kept.drew | refine Kept.setCell ?_ (.inr GW528.out) _ | refine Kept.setCell ?_ (.inr GW538.out) _ | refine Kept.setCell ?_ (.inr GW539.out) _) | exact HK.out)) hkp (fun k_ hs_ => (fun e_ => (HO542.out.1 k_ e_.symm).1) hs_))
 replace HB := Aside0.mk (hb)
 clear HO542
 (try clear hb)
 (try clear hkp)
 (try clear ho0)
 refine hK.out _ _ ⟨(blk_cell BK539.out 0).trans rfl, (blk_cell BK539.out 1).trans rfl, (blk_cell BK538.out 0).trans rfl, (blk_cell BK538.out 1).trans rfl⟩ (fun hHeld => ?_)
 clear hK K
 refine nz_ 34 ?_
 refine pz_ 7 6 ba19_8 HT_ ?_
 refine done_ (done_of HT_.out (by kernel_rfl)) ?_
 try go_wp2
 go_ret
 exact ⟨_, by first | rfl | (simp [errW_none, errW_some] <;> rfl) | (simp [*, errW_none, errW_some] <;> rfl), by (with_reducible repeat (first | apply Kd.R_alloc | apply Kd.R_drewN | apply Kd.R_drew)); exact Kd.R_mono HO545.out (fun _ hk => hk.1), by repeat (first | (with_reducible first | exact HB.out | apply below_alloc | apply pw_below_drewN | apply below_drew1 | refine below_set ?_ GE528.out | refine below_set ?_ GE538.out | refine below_set ?_ GE539.out) | exact HB.out), by repeat (first | (with_reducible first | exact HK.out | apply Kept.alloc | apply Kept.drewN | apply Kept.drew | refine Kept.setCell ?_ (.inr GW528.out) _ | refine Kept.setCell ?_ (.inr GW538.out) _ | refine Kept.setCell ?_ (.inr GW539.out) _) | exact HK.out)⟩

/-! ### impl_Cover: function 40 -/
def impl_Cover.f (k : Nat) (a0 : Int) (a1 : Int) : Option ((List (S28)) × Bool) := (impl_isAddr.f a0).bind fun t548 => (if t548 = true then ((impl_isAddr.f a1).bind fun t549 => (if t549 = true then (if a1 < a0 then (some (([] : List (S28)), false)) else ((impl_shortest2.f k 0 0 [a1] [a0] ([] : List (S28))).bind fun t550 => (some (t550, true)))) else (some (([] : List (S28)), false)))) else (some (([] : List (S28)), false)))
theorem impl_Cover.mono : ∀ a0 a1 k, LeO (impl_Cover.f k a0 a1) (impl_Cover.f (k + 1) a0 a1) := by
 intro a0 a1 k
 unfold impl_Cover.f
 repeat' first
   | (with_reducible exact impl_shortest2.mono _ _ _ _ _ _)
   | (with_reducible exact LeO.refl _)
   | (with_reducible exact LeO.none _)
   | (with_reducible refine LeO.ite ?_ ?_)
   | (with_reducible refine LeO.bind ?_ (fun _ => ?_))
   | exact impl_shortest2.mono _ _ _ _ _ _
   | exact LeO.none _
   | refine LeO.ite ?_ ?_
   | refine LeO.bind ?_ (fun _ => ?_)
set_option maxHeartbeats 8000000 in
set_option maxRecDepth 100000 in
theorem impl_Cover.calls (k : Nat) (a0 : Int) (a1 : Int) (r1 : List (S28)) (r2 : Bool) (w : World) (h : impl_Cover.f k a0 a1 = some (r1, r2)) :
  Calls Try.prog 40 #[.int .i64 a0, .int .i64 a1] w fun e w' => ∃ v0_ : Value, e = .returned (.tuple #[v0_, .bool r2]) ∧ Kd.R k28 28 w' w.heap.size (fun _ => True) v0_ r1 ∧ Below w.heap.size w w' := by
 have hu28 := Try.underlying28
 have HB := Aside0.mk (Below.refl w.heap.size w)
 have H : ((impl_isAddr.f a0).bind fun t548 => (if t548 = true then ((impl_isAddr.f a1).bind fun t549 => (if t549 = true then (if a1 < a0 then (some (([] : List (S28)), false)) else ((impl_shortest2.f k 0 0 [a1] [a0] ([] : List (S28))).bind fun t550 => (some (t550, true)))) else (some (([] : List (S28)), false)))) else (some (([] : List (S28)), false)))) = some (r1, r2) := h
 clear h
 replace H := Option.bind_eq_some_iff.mp H
 obtain ⟨t548, A30, H⟩ := H
 have A3 := Aside0.mk A30
 clear A30
 by_cases c4 : t548 = true
 rotate_left
 ·replace c4 := Bool.eq_false_iff.mpr c4
  subst c4
  rw [if_neg (show ¬ (false = true) by decide)] at H
  simp only [Option.some.injEq, Prod.mk.injEq] at H
  obtain ⟨rfl, rfl⟩ := H
  go_enter Try.func40, Try.ntmps40
  go_wp2_with (first | ((with_reducible refine gate_dst (N := 2) rfl ?_); refine box_event ?hg (N := 2) ?hd (cs := #[.int .i64 a0]) (t := 3) ?hr ?_; (case hd => rfl); (case hg => rfl); (case hr => first | (go_simp; done) | (go_simp; rfl)); intro gb546 hg w25 hbox hb; have BK546 := Aside0.mk hbox; have GW546 := ge_ HB hg; have GE546 := ge_ HB hg; replace HB := Aside0.mk (bt_ HB hb); clear hb hbox hg) | ((with_reducible refine gate_dst (N := 3) rfl ?_); refine box_event ?hg (N := 3) ?hd (cs := #[.int .i64 a1]) (t := 3) ?hr ?_; (case hd => rfl); (case hg => rfl); (case hr => first | (go_simp; done) | (go_simp; rfl)); intro gb547 hg w26 hbox hb; have BK547 := Aside0.mk hbox; have GW547 := ge_ HB hg; have GE547 := ge_ HB hg; have NB546_547 := nl_ BK546 hg; have NB547_546 := ng_ BK546 hg; replace HB := Aside0.mk (bt_ HB hb); replace BK546 := Aside0.mk (bb_ BK546 hb); clear hb hbox hg; have hnb27 := NB546_547.out; have hnc27 := NB547_546.out; have hcz28_0 := cz_ BK546 0 (.int .i64 a0); have hfz28_0 := blk_frozen BK546.out 0) | ((with_reducible refine gate_callee (f := 84) rfl ?_); refine gl_ (some 7) Try.func84 #[.int .i64 a0] ?_; (with_reducible refine (impl_isAddr.calls a0 false _ A3.out).mono ?_); rintro e w' ⟨rfl, ⟨nd, rfl⟩⟩; refine ⟨_, rfl, ?_⟩))
  go_ret2
  exact ⟨_, by first | rfl | (simp [errW_none, errW_some] <;> rfl) | (simp [*, errW_none, errW_some] <;> rfl), by first | exact Kd.R_nil _ _ _ _ _ | exact Kd.N_nil _ _ _ _ _ | exact Kd.V_nil _ _ _ _ _ | exact Kd.Q_nil _ _ _ _ _ | exact Kd.S_nil _ _ _ _ _, by repeat (first | (with_reducible first | exact HB.out | apply below_alloc | apply pw_below_drewN | apply below_drew1 | refine below_set ?_ GE546.out | refine below_set ?_ GE547.out) | exact HB.out)⟩
 subst c4
 rw [if_pos rfl] at H
 replace H := Option.bind_eq_some_iff.mp H
 obtain ⟨t549, A50, H⟩ := H
 have A5 := Aside0.mk A50
 clear A50
 by_cases c6 : t549 = true
 rotate_left
 ·replace c6 := Bool.eq_false_iff.mpr c6
  subst c6
  rw [if_neg (show ¬ (false = true) by decide)] at H
  simp only [Option.some.injEq, Prod.mk.injEq] at H
  obtain ⟨rfl, rfl⟩ := H
  go_enter Try.func40, Try.ntmps40
  go_wp2_with (first | ((with_reducible refine gate_dst (N := 2) rfl ?_); refine box_event ?hg (N := 2) ?hd (cs := #[.int .i64 a0]) (t := 3) ?hr ?_; (case hd => rfl); (case hg => rfl); (case hr => first | (go_simp; done) | (go_simp; rfl)); intro gb546 hg w20 hbox hb; have BK546 := Aside0.mk hbox; have GW546 := ge_ HB hg; have GE546 := ge_ HB hg; replace HB := Aside0.mk (bt_ HB hb); clear hb hbox hg) | ((with_reducible refine gate_dst (N := 3) rfl ?_); refine box_event ?hg (N := 3) ?hd (cs := #[.int .i64 a1]) (t := 3) ?hr ?_; (case hd => rfl); (case hg => rfl); (case hr => first | (go_simp; done) | (go_simp; rfl)); intro gb547 hg w21 hbox hb; have BK547 := Aside0.mk hbox; have GW547 := ge_ HB hg; have GE547 := ge_ HB hg; have NB546_547 := nl_ BK546 hg; have NB547_546 := ng_ BK546 hg; replace HB := Aside0.mk (bt_ HB hb); replace BK546 := Aside0.mk (bb_ BK546 hb); clear hb hbox hg; have hnb22 := NB546_547.out; have hnc22 := NB547_546.out; have hcz23_0 := cz_ BK546 0 (.int .i64 a0); have hfz23_0 := blk_frozen BK546.out 0) | ((with_reducible refine gate_callee (f := 84) rfl ?_); refine gl_ (some 7) Try.func84 #[.int .i64 a0] ?_; (with_reducible refine (impl_isAddr.calls a0 true _ A3.out).mono ?_); rintro e w' ⟨rfl, ⟨nd, rfl⟩⟩; refine ⟨_, rfl, ?_⟩; have hcz24_0 := cz_ BK547 0 (.int .i64 a1); have hfz24_0 := blk_frozen BK547.out 0) | (go_at_call 84; (with_reducible refine (impl_isAddr.calls a1 false _ A5.out).mono ?_); rintro e w' ⟨rfl, ⟨nd, rfl⟩⟩))
  go_ret2
  exact ⟨_, by first | rfl | (simp [errW_none, errW_some] <;> rfl) | (simp [*, errW_none, errW_some] <;> rfl), by first | exact Kd.R_nil _ _ _ _ _ | exact Kd.N_nil _ _ _ _ _ | exact Kd.V_nil _ _ _ _ _ | exact Kd.Q_nil _ _ _ _ _ | exact Kd.S_nil _ _ _ _ _, by repeat (first | (with_reducible first | exact HB.out | apply below_alloc | apply pw_below_drewN | apply below_drew1 | refine below_set ?_ GE546.out | refine below_set ?_ GE547.out) | exact HB.out)⟩
 subst c6
 rw [if_pos rfl] at H
 by_cases c7 : a1 < a0
 ·rw [if_pos c7] at H
  have c7b0 : decide (a1 < a0) = true := decide_eq_true c7
  clear c7
  simp only [Option.some.injEq, Prod.mk.injEq] at H
  obtain ⟨rfl, rfl⟩ := H
  go_enter Try.func40, Try.ntmps40
  go_wp2_with (first | ((with_reducible refine gate_dst (N := 2) rfl ?_); refine box_event ?hg (N := 2) ?hd (cs := #[.int .i64 a0]) (t := 3) ?hr ?_; (case hd => rfl); (case hg => rfl); (case hr => first | (go_simp; done) | (go_simp; rfl)); intro gb546 hg w8 hbox hb; have BK546 := Aside0.mk hbox; have GW546 := ge_ HB hg; have GE546 := ge_ HB hg; replace HB := Aside0.mk (bt_ HB hb); clear hb hbox hg) | ((with_reducible refine gate_dst (N := 3) rfl ?_); refine box_event ?hg (N := 3) ?hd (cs := #[.int .i64 a1]) (t := 3) ?hr ?_; (case hd => rfl); (case hg => rfl); (case hr => first | (go_simp; done) | (go_simp; rfl)); intro gb547 hg w9 hbox hb; have BK547 := Aside0.mk hbox; have GW547 := ge_ HB hg; have GE547 := ge_ HB hg; have NB546_547 := nl_ BK546 hg; have NB547_546 := ng_ BK546 hg; replace HB := Aside0.mk (bt_ HB hb); replace BK546 := Aside0.mk (bb_ BK546 hb); clear hb hbox hg; have hnb10 := NB546_547.out; have hnc10 := NB547_546.out; have hcz11_0 := cz_ BK546 0 (.int .i64 a0); have hfz11_0 := blk_frozen BK546.out 0) | ((with_reducible refine gate_callee (f := 84) rfl ?_); refine gl_ (some 7) Try.func84 #[.int .i64 a0] ?_; (with_reducible refine (impl_isAddr.calls a0 true _ A3.out).mono ?_); rintro e w' ⟨rfl, ⟨nd, rfl⟩⟩; refine ⟨_, rfl, ?_⟩; have hcz12_0 := cz_ BK547 0 (.int .i64 a1); have hfz12_0 := blk_frozen BK547.out 0) | (go_at_call 84; (with_reducible refine (impl_isAddr.calls a1 true _ A5.out).mono ?_); rintro e w' ⟨rfl, ⟨nd, rfl⟩⟩))
  go_ret2
  exact ⟨_, by first | rfl | (simp [errW_none, errW_some] <;> rfl) | (simp [*, errW_none, errW_some] <;> rfl), by first | exact Kd.R_nil _ _ _ _ _ | exact Kd.N_nil _ _ _ _ _ | exact Kd.V_nil _ _ _ _ _ | exact Kd.Q_nil _ _ _ _ _ | exact Kd.S_nil _ _ _ _ _, by repeat (first | (with_reducible first | exact HB.out | apply below_alloc | apply pw_below_drewN | apply below_drew1 | refine below_set ?_ GE546.out | refine below_set ?_ GE547.out) | exact HB.out)⟩
 rw [if_neg c7] at H
 have c7b0 : decide (a1 < a0) = false := decide_eq_false c7
 clear c7
 replace H := Option.bind_eq_some_iff.mp H
 obtain ⟨t550, A130, H⟩ := H
 have A13 := Aside0.mk A130
 clear A130
 simp only [Option.some.injEq, Prod.mk.injEq] at H
 obtain ⟨rfl, rfl⟩ := H
 go_enter Try.func40, Try.ntmps40
 go_wp2_with (first | ((with_reducible refine gate_dst (N := 2) rfl ?_); refine box_event ?hg (N := 2) ?hd (cs := #[.int .i64 a0]) (t := 3) ?hr ?_; (case hd => rfl); (case hg => rfl); (case hr => first | (go_simp; done) | (go_simp; rfl)); intro gb546 hg w14 hbox hb; have BK546 := Aside0.mk hbox; have GW546 := ge_ HB hg; have GE546 := ge_ HB hg; replace HB := Aside0.mk (bt_ HB hb); clear hb hbox hg) | ((with_reducible refine gate_dst (N := 3) rfl ?_); refine box_event ?hg (N := 3) ?hd (cs := #[.int .i64 a1]) (t := 3) ?hr ?_; (case hd => rfl); (case hg => rfl); (case hr => first | (go_simp; done) | (go_simp; rfl)); intro gb547 hg w15 hbox hb; have BK547 := Aside0.mk hbox; have GW547 := ge_ HB hg; have GE547 := ge_ HB hg; have NB546_547 := nl_ BK546 hg; have NB547_546 := ng_ BK546 hg; replace HB := Aside0.mk (bt_ HB hb); replace BK546 := Aside0.mk (bb_ BK546 hb); clear hb hbox hg; have hnb16 := NB546_547.out; have hnc16 := NB547_546.out; have hcz17_0 := cz_ BK546 0 (.int .i64 a0); have hfz17_0 := blk_frozen BK546.out 0) | ((with_reducible refine gate_callee (f := 84) rfl ?_); refine gl_ (some 7) Try.func84 #[.int .i64 a0] ?_; (with_reducible refine (impl_isAddr.calls a0 true _ A3.out).mono ?_); rintro e w' ⟨rfl, ⟨nd, rfl⟩⟩; refine ⟨_, rfl, ?_⟩; have hcz18_0 := cz_ BK547 0 (.int .i64 a1); have hfz18_0 := blk_frozen BK547.out 0) | (go_at_call 84; (with_reducible refine (impl_isAddr.calls a1 true _ A5.out).mono ?_); rintro e w' ⟨rfl, ⟨nd, rfl⟩⟩) | ((with_reducible refine gate_callee (f := 79) rfl ?_); refine gl_ (some 21) Try.func79 #[.agg #[.int .i64 0, .int .i64 0], .func (.func 85) #[] #[.pointer (some ⟨gb547, 0, none⟩), .pointer (some ⟨gb546, 0, none⟩)], .slice none 0 0] ?_; (refine (impl_shortest2.calls k 0 0 _ [a1] _ [a0] (fun k_ => some k_ = (.slice none 0 0 : Value).ownBlock) (.slice none 0 0) ([] : List (S28)) t550 w _ ?side1 ?side2 ?side3 ?side4 A13.out).mono ?_); (case side1 => exact by_ HB); (case side2 => exact C_box1_kept (cs := [.int .i64 a1]) (by (with_reducible repeat (first | refine blk_drewN ?_ _ | refine blk_drew ?_ | refine blk_alloc ?_ _)); exact BK547.out) (fun hs_ => (fun e_ => by simp [Value.ownBlock] at e_) hs_) (fun W_ hk_ => rfl)); (case side3 => exact C_box1_kept (cs := [.int .i64 a0]) (by (with_reducible repeat (first | refine blk_drewN ?_ _ | refine blk_drew ?_ | refine blk_alloc ?_ _)); exact BK546.out) (fun hs_ => (fun e_ => by simp [Value.ownBlock] at e_) hs_) (fun W_ hk_ => rfl)); (case side4 => exact Kd.R_nil _ _ _ _ _); rintro e w19 ⟨v551, rfl, ho0, hb, hkp⟩; refine ⟨_, rfl, ?_⟩; have HO552 := Aside0.mk (Kd.R_mono (ok' := fun k_ => True) ho0 (fun k_ hk_ => trivial)); replace BK546 := bk_ BK546 hkp (fun hs_ => (fun e_ => by simp [Value.ownBlock] at e_) hs_); replace BK547 := bk_ BK547 hkp (fun hs_ => (fun e_ => by simp [Value.ownBlock] at e_) hs_); replace HB := Aside0.mk (hb); (try clear hb); (try clear hkp); (try clear ho0)))
 go_ret2
 exact ⟨_, by first | rfl | (simp [errW_none, errW_some] <;> rfl) | (simp [*, errW_none, errW_some] <;> rfl), by (with_reducible repeat (first | apply Kd.R_alloc | apply Kd.R_drewN | apply Kd.R_drew)); exact HO552.out, by repeat (first | (with_reducible first | exact HB.out | apply below_alloc | apply pw_below_drewN | apply below_drew1 | refine below_set ?_ GE546.out | refine below_set ?_ GE547.out) | exact HB.out)⟩

end Go.Proofs.Ytjepmdngbafonaa.QFnAggregate
