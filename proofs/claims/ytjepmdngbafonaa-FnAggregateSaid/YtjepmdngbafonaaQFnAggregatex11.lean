/- Contracts of functions that the law reaches: what each call returns and what it leaves in memory. Made by this session over the print of the kit. -/
import Derived.Test.YtjepmdngbafonaaQFnAggregatex0
import Derived.Test.YtjepmdngbafonaaQFnAggregatex2
import Derived.Test.YtjepmdngbafonaaQFnAggregatex10
namespace Go.Proofs.Ytjepmdngbafonaa.QFnAggregate
open Go.RowKit Go.Proofs.YtjepmdngbafonaaB.PrintWords Go.Proofs.YtjepmdngbafonaaB.PrintLast Go.Proofs.YtjepmdngbafonaaB.PrintMore
attribute [local go_sem] max2_int min2_int max_two min_two max_three min_three max_four min_four   -- for this text's walks alone
set_option linter.unusedVariables false
set_option linter.unusedSimpArgs false
def ba11_0 : Array Bool := #[false, false, false, false, false, false, false, false]
def ba11_1 : Array Bool := #[false, true, false, false, false, false, false, false]
def ba11_2 : Array Bool := #[false, true, false, true, false, false, false, false]
def ba11_3 : Array Bool := #[false, true, false, true, true, false, false, false]
def ba11_4 : Array Bool := #[true, true, false, true, true, false, false, false]
def ba11_5 : Array Bool := #[true, true, true, true, true, false, false, false]
def ba11_6 : Array Bool := #[true, true, true, true, true, true, false, false]
def ba11_7 : Array Bool := #[true, true, true, true, true, true, true, false]
def ba11_8 : Array Bool := #[true, true, true, true, true, true, true, true]

/-! ### impl_shortest: function 79 -/
def impl_shortest.f : Nat → Int → Int → List (List (S28)) → List (S28) → Option ((List (S28)))
 | 0, _, _, _, _ => none
 | k + 1, a0_0, a0_1, l1_0, l2 => (impl_Aggregate_2.f k a0_0 a0_1 l1_0).bind fun t253 => (if t253 = 0 then (some l2) else ((impl_Prefix_size.f a0_0 a0_1).bind fun t254 => (if t253 = t254 then (if l2.length < 8796093022208 then (some (l2 ++ [(⟨a0_0, a0_1⟩ : S28)])) else (none)) else ((impl_Prefix_halves.f a0_0 a0_1).bind fun bt258 => ((impl_shortest.f k bt258.1 bt258.2.1 l1_0 l2).bind fun t264 => ((impl_shortest.f k bt258.2.2.1 bt258.2.2.2 l1_0 t264).bind fun t267 => (some t267)))))))
theorem impl_shortest.mono_l : ∀ k, (∀ y0 y1 y2 y3, LeO (impl_shortest.f k y0 y1 y2 y3) (impl_shortest.f (k + 1) y0 y1 y2 y3))
 | 0 => fun _ _ _ _ r h => by simp [impl_shortest.f] at h
 | k + 1 => by
  have ih0 := impl_shortest.mono_l k
  ·intro y0 y1 y2 y3
   unfold impl_shortest.f
   repeat' first
   | (with_reducible exact ih0 _ _ _ _)
   | (with_reducible exact impl_Aggregate_2.mono _ _ _ _)
   | (with_reducible exact LeO.refl _)
   | (with_reducible exact LeO.none _)
   | (with_reducible refine LeO.ite ?_ ?_)
   | (with_reducible refine LeO.bind ?_ (fun _ => ?_))
   | exact ih0 _ _ _ _
   | exact impl_Aggregate_2.mono _ _ _ _
   | exact LeO.none _
   | refine LeO.ite ?_ ?_
   | refine LeO.bind ?_ (fun _ => ?_)
theorem impl_shortest.mono : ∀ a0 a1 a2 a3 k, LeO (impl_shortest.f k a0 a1 a2 a3) (impl_shortest.f (k + 1) a0 a1 a2 a3) := by
 intro a0 a1 a2 a3 k
 have ih0 := impl_shortest.mono_l k
 exact ih0 a0 a1 a2 a3
def impl_shortest.T7 : Bool × List (List Nat × List Nat) := (true, [([], []), ([], []), ([], []), ([], []), ([], []), ([2, 3, 4], [2, 3, 4]), ([0, 1, 5, 5], [0, 1, 5]), ([6, 6, 0, 1, 2, 3, 4, 5, 6], [6])])
def impl_shortest.B7 : List Nat := [0, 0, 0, 0, 0, 28, 63, 127]
theorem impl_shortest.tab7 : rtab .any (opsOf Try.f79 7) = impl_shortest.T7 := by kernel_rfl
theorem impl_shortest.bits7 : waitsOk impl_shortest.T7.2 impl_shortest.B7 = true := by kernel_rfl
set_option maxHeartbeats 8000000 in
set_option maxRecDepth 100000 in
theorem impl_shortest.calls (k : Nat) : ∀ (a0_0 : Int) (a0_1 : Int) (A1_0 : Option Addr) (l1_0 : List (List (S28))) (P2_ : Nat → Prop) (u9000_ : Value) (l2 : List (S28)) (r : List (S28)) (w0 w : World) (hB : Below w0.heap.size w0 w) (hr1_0 : ∀ W_, Kept w W_ (fun k_ => P2_ k_) → Kd.C (Kd.slice 28 k28) W_ A1_0 l1_0.length l1_0) (ho2 : Kd.R k28 28 w w0.heap.size P2_ u9000_ l2) (h : impl_shortest.f k a0_0 a0_1 l1_0 l2 = some r),
  Calls Try.prog 79 #[.agg #[.int .i64 a0_0, .int .i64 a0_1], .func (.func 80) #[] #[.pointer A1_0], u9000_] w fun e w' => ∃ v0_ : Value, e = .returned (v0_) ∧ Kd.R k28 28 w' w0.heap.size (fun k_ => (P2_ k_ ∨ w.heap.size ≤ k_)) v0_ r ∧ Below w0.heap.size w0 w' ∧ Kept w w' (fun k_ => P2_ k_) := by
 induction k using Nat.strongRecOn with
 | _ k ih =>
 intro a0_0 a0_1 A1_0 l1_0 P2_ u9000_ l2 r w0 w hB hr1_0 ho2 h
 cases k with
 | zero => exact absurd h (by simp [impl_shortest.f])
 | succ k =>
 simp only [impl_shortest.f] at h
 have hu28 := Try.underlying28
 have HR1_0 := Aside0.mk hr1_0
 clear hr1_0
 have HO2 := Aside0.mk (show Kd.R k28 28 w w0.heap.size (fun k_ => (P2_ k_ ∨ w.heap.size ≤ k_)) u9000_ l2 from Kd.R_mono ho2 (fun k_ hk => (.inl hk)))
 have HK := Aside0.mk (Kept.refl w (fun k_ => P2_ k_))
 have HW0 := Aside0.mk hB.size
 have HB := Aside0.mk hB
 clear hB
 have H : ((impl_Aggregate_2.f k a0_0 a0_1 l1_0).bind fun t253 => (if t253 = 0 then (some l2) else ((impl_Prefix_size.f a0_0 a0_1).bind fun t254 => (if t253 = t254 then (if l2.length < 8796093022208 then (some (l2 ++ [(⟨a0_0, a0_1⟩ : S28)])) else (none)) else ((impl_Prefix_halves.f a0_0 a0_1).bind fun bt258 => ((impl_shortest.f k bt258.1 bt258.2.1 l1_0 l2).bind fun t264 => ((impl_shortest.f k bt258.2.2.1 bt258.2.2.2 l1_0 t264).bind fun t267 => (some t267)))))))) = some r := h
 clear h
 replace H := Option.bind_eq_some_iff.mp H
 obtain ⟨t253, A40, H⟩ := H
 have A4 := Aside0.mk A40
 clear A40
 by_cases c5 : t253 = 0
 ·rw [if_pos c5] at H
  have c5b0 : (t253 == 0) = true := beq_iff_eq.mpr c5
  have c5b1 : (t253 != 0) = false := bne_eq_false_iff_eq.mpr c5
  clear c5
  obtain rfl := Option.some.inj H
  go_enter Try.func79, Try.ntmps79
  go_wp2_with (first | ((with_reducible refine gate_dst (N := 3) rfl ?_); refine box_event ?hg (N := 3) ?hd (cs := #[.int .i64 a0_0, .int .i64 a0_1]) (t := 28) ?hr ?_; (case hd => rfl); (case hg => rfl); (case hr => first | (go_simp; done) | (go_simp; rfl)); intro gb252 hg w6 hbox hb; have BK252 := Aside0.mk hbox; have GW252 := Aside0.mk ((by rw [hg]; exact (by first | exact HK.out.1 | exact (show Kept w _ (fun k_ => P2_ k_) from by repeat (first | (with_reducible first | exact HK.out | apply Kept.alloc | apply Kept.drewN | apply Kept.drew) | exact HK.out)).1) : w.heap.size ≤ gb252)); have GE252 := Aside0.mk ((by rw [hg]; exact (bz_ HB) : w0.heap.size ≤ gb252)); replace HO2 := Aside0.mk (Kd.R_below (Kd.R_elderB (hd_ HO2) gb252 (Nat.le_of_eq hg.symm)) hb); replace HK := Aside0.mk (Kept.below (S := (fun k_ => P2_ k_)) (by repeat (first | (with_reducible first | exact HK.out | apply Kept.alloc | apply Kept.drewN | apply Kept.drew) | exact HK.out)) hb); replace HB := Aside0.mk (bt_ HB hb); clear hb hbox hg; have hcz7_0 := cz_ BK252 0 (.int .i64 a0_0); have hcz7_1 := cz_ BK252 1 (.int .i64 a0_1); have hfz7_0 := blk_frozen BK252.out 0; have hfz7_1 := blk_frozen BK252.out 1) | ((with_reducible refine gate_dst (N := 11) rfl ?_); refine goesTc_ (some 11) rfl rfl Try.func80 (by kernel_rfl) rfl #[.agg #[.int .i64 a0_0, .int .i64 a0_1], .pointer A1_0] rfl (by (try simp only [List.map_toArray, List.map_cons, List.map_nil]); first | done | rfl | (simp only [List.length_drop, List.length_take]; rfl)) ?_; (with_reducible refine (impl_Aggregate_2.calls k a0_0 a0_1 _ l1_0 t253 _ ?side1 A4.out).mono ?_); (case side1 => exact Kd.C_kept_now HR1_0.out (by repeat (first | (with_reducible first | exact HK.out | apply Kept.alloc | apply Kept.drewN | apply Kept.drew | refine Kept.setCell ?_ (.inr GW252.out) _) | exact HK.out))); rintro e w8 ⟨rfl, hb⟩; refine ⟨_, rfl, ?_⟩; replace HO2 := rb_ HO2 hb; replace BK252 := Aside0.mk (bb_ BK252 hb); replace HK := Aside0.mk (Kept.below (S := (fun k_ => P2_ k_)) (by repeat (first | (with_reducible first | exact HK.out | apply Kept.alloc | apply Kept.drewN | apply Kept.drew | refine Kept.setCell ?_ (.inr GW252.out) _) | exact HK.out)) hb); replace HB := Aside0.mk (bt_ HB hb); (try clear hb); (try clear hb2); (try clear hk); (try clear hi)))
  go_ret
  exact ⟨_, by first | rfl | (simp [errW_none, errW_some] <;> rfl) | (simp [*, errW_none, errW_some] <;> rfl), by (with_reducible repeat (first | apply Kd.R_alloc | apply Kd.R_drewN | apply Kd.R_drew)); exact Kd.R_mono HO2.out (fun _ hk => hk.1), by repeat (first | (with_reducible first | exact HB.out | apply below_alloc | apply pw_below_drewN | apply below_drew1 | refine below_set ?_ GE252.out) | exact HB.out), by repeat (first | (with_reducible first | exact HK.out | apply Kept.alloc | apply Kept.drewN | apply Kept.drew | refine Kept.setCell ?_ (.inr GW252.out) _) | exact HK.out)⟩
 rw [if_neg c5] at H
 have c5b0 : (t253 == 0) = false := beq_eq_false_iff_ne.mpr c5
 have c5b1 : (t253 != 0) = true := bne_iff_ne.mpr c5
 replace H := Option.bind_eq_some_iff.mp H
 obtain ⟨t254, A90, H⟩ := H
 have A9 := Aside0.mk A90
 clear A90
 by_cases c10 : t253 = t254
 ·rw [if_pos c10] at H
  have c10b0 : (t253 == t254) = true := beq_iff_eq.mpr c10
  have c10b1 : (t253 != t254) = false := bne_eq_false_iff_eq.mpr c10
  clear c10
  by_cases c11 : l2.length < 8796093022208
  rotate_left
  ·rw [if_neg c11] at H
   exact absurd H (by simp)
  rw [if_pos c11] at H
  have LMc11 := Aside0.mk c11
  clear c11
  obtain ⟨y255, hy255⟩ : ∃ y_ : List (S28), y_ = (l2 ++ [(⟨a0_0, a0_1⟩ : S28)]) := ⟨_, rfl⟩
  replace H : (some y255) = some r := by first | (rw [hy255]; with_reducible exact H) | (have H2_ := (Option.bind_some _ _).symm.trans H; rw [hy255]; with_reducible exact H2_) | (have H2_ := (Option.bind_some _ _).symm.trans H; with_reducible exact H2_) | with_reducible exact H | (rw [hy255]; exact H) | exact H
  have Ny255 := Aside0.mk hy255
  clear hy255
  obtain rfl := Option.some.inj H
  go_enter Try.func79, Try.ntmps79
  go_wp2_with (first | ((with_reducible refine gate_dst (N := 3) rfl ?_); refine box_event ?hg (N := 3) ?hd (cs := #[.int .i64 a0_0, .int .i64 a0_1]) (t := 28) ?hr ?_; (case hd => rfl); (case hg => rfl); (case hr => first | (go_simp; done) | (go_simp; rfl)); intro gb252 hg w12 hbox hb; have BK252 := Aside0.mk hbox; have GW252 := Aside0.mk ((by rw [hg]; exact (by first | exact HK.out.1 | exact (show Kept w _ (fun k_ => P2_ k_) from by repeat (first | (with_reducible first | exact HK.out | apply Kept.alloc | apply Kept.drewN | apply Kept.drew) | exact HK.out)).1) : w.heap.size ≤ gb252)); have GE252 := Aside0.mk ((by rw [hg]; exact (bz_ HB) : w0.heap.size ≤ gb252)); replace HO2 := Aside0.mk (Kd.R_below (Kd.R_elderB (hd_ HO2) gb252 (Nat.le_of_eq hg.symm)) hb); replace HK := Aside0.mk (Kept.below (S := (fun k_ => P2_ k_)) (by repeat (first | (with_reducible first | exact HK.out | apply Kept.alloc | apply Kept.drewN | apply Kept.drew) | exact HK.out)) hb); replace HB := Aside0.mk (bt_ HB hb); clear hb hbox hg; have hcz13_0 := cz_ BK252 0 (.int .i64 a0_0); have hcz13_1 := cz_ BK252 1 (.int .i64 a0_1); have hfz13_0 := blk_frozen BK252.out 0; have hfz13_1 := blk_frozen BK252.out 1) | ((with_reducible refine gate_dst (N := 11) rfl ?_); refine goesTc_ (some 11) rfl rfl Try.func80 (by kernel_rfl) rfl #[.agg #[.int .i64 a0_0, .int .i64 a0_1], .pointer A1_0] rfl (by (try simp only [List.map_toArray, List.map_cons, List.map_nil]); first | done | rfl | (simp only [List.length_drop, List.length_take]; rfl)) ?_; (with_reducible refine (impl_Aggregate_2.calls k a0_0 a0_1 _ l1_0 t253 _ ?side1 A4.out).mono ?_); (case side1 => exact Kd.C_kept_now HR1_0.out (by repeat (first | (with_reducible first | exact HK.out | apply Kept.alloc | apply Kept.drewN | apply Kept.drew | refine Kept.setCell ?_ (.inr GW252.out) _) | exact HK.out))); rintro e w14 ⟨rfl, hb⟩; refine ⟨_, rfl, ?_⟩; replace HO2 := rb_ HO2 hb; replace BK252 := Aside0.mk (bb_ BK252 hb); replace HK := Aside0.mk (Kept.below (S := (fun k_ => P2_ k_)) (by repeat (first | (with_reducible first | exact HK.out | apply Kept.alloc | apply Kept.drewN | apply Kept.drew | refine Kept.setCell ?_ (.inr GW252.out) _) | exact HK.out)) hb); replace HB := Aside0.mk (bt_ HB hb); (try clear hb); (try clear hb2); (try clear hk); (try clear hi); have hcz15_0 := cz_ BK252 0 (.int .i64 a0_0); have hcz15_1 := cz_ BK252 1 (.int .i64 a0_1); have hfz15_0 := blk_frozen BK252.out 0; have hfz15_1 := blk_frozen BK252.out 1) | ((with_reducible refine gate_callee (f := 69) rfl ?_); refine gl_ (some 17) Try.func69 #[.agg #[.int .i64 a0_0, .int .i64 a0_1]] ?_; (with_reducible refine (impl_Prefix_size.calls a0_0 a0_1 t254 _ A9.out).mono ?_); rintro e w16 ⟨rfl, hb⟩; refine ⟨_, rfl, ?_⟩; replace HO2 := rb_ HO2 hb; replace BK252 := Aside0.mk (bb_ BK252 hb); replace HK := Aside0.mk (Kept.below (S := (fun k_ => P2_ k_)) (by repeat (first | (with_reducible first | exact HK.out | apply Kept.alloc | apply Kept.drewN | apply Kept.drew | refine Kept.setCell ?_ (.inr GW252.out) _) | exact HK.out)) hb); replace HB := Aside0.mk (bt_ HB hb); (try clear hb); (try clear hb2); (try clear hk); (try clear hi); have hcz17_0 := cz_ BK252 0 (.int .i64 a0_0); have hcz17_1 := cz_ BK252 1 (.int .i64 a0_1); have hfz17_0 := blk_frozen BK252.out 0; have hfz17_1 := blk_frozen BK252.out 1) | ((with_reducible refine gate_builtin (b := .append) (xs := #[.tmp 19, .tmp 21]) rfl ?_); at_builtin; refine Kd.R_append k28 (w0 := w0) w0.heap.size rfl (.tmp 19) (.tmp 21) 51 28 (.agg #[(.int .i64 0), (.int .i64 0)]) 16 rfl Try.underlying51 info28 rfl (by decide) (by omega) u9000_ l2 (⟨a0_0, a0_1⟩ : S28) [.int .i64 a0_0, .int .i64 a0_1] (fun k_ => (P2_ k_ ∨ w.heap.size ≤ k_) ∧ k_ ≠ gb252) (fun _ => False) rfl rfl ?aP (fun _ hk => hk.elim) ?aF ?aO ?aB ?aS ?aL ?_; (case aP => exact k28_mkM _ _ _ (⟨a0_0, a0_1⟩ : S28)); (case aB => exact (by repeat (first | (with_reducible first | exact HB.out | apply below_alloc | apply pw_below_drewN | apply below_drew1 | refine below_set ?_ GE252.out) | exact HB.out))); (case aF => exact (fun k_ hk => ⟨(.inr (Nat.le_trans (by first | exact HK.out.1 | exact (show Kept w _ (fun k_ => P2_ k_) from by repeat (first | (with_reducible first | exact HK.out | apply Kept.alloc | apply Kept.drewN | apply Kept.drew | refine Kept.setCell ?_ (.inr GW252.out) _) | exact HK.out)).1) hk)), Kd.freshB (g := gb252) (o := .cells #[.int .i64 a0_0, .int .i64 a0_1] 28 (0, 0)) (by (with_reducible repeat (first | refine blk_drewN ?_ _ | refine blk_drew ?_ | refine blk_alloc ?_ _)); exact BK252.out) k_ hk⟩)); (case aO => exact (hd_ HO2)); (case aS => exact (bz_ HB)); (case aL => have := LMc11.out; omega); intro v256 w18 ho hb hg hat; rw [← Ny255.out] at ho; have HO257 := Aside0.mk ho; replace BK252 := Aside0.mk (blk_grown (g := gb252) (o := .cells #[.int .i64 a0_0, .int .i64 a0_1] 28 (0, 0)) (by (with_reducible repeat (first | refine blk_drewN ?_ _ | refine blk_drew ?_ | refine blk_alloc ?_ _)); exact BK252.out) hg (Kd.R_away HO2.out (fun _ hk => hk.2))); replace HB := Aside0.mk (hb); replace HK := Aside0.mk (Kept.of_grown (S := (fun k_ => P2_ k_)) hg (by repeat (first | (with_reducible first | exact HK.out | apply Kept.alloc | apply Kept.drewN | apply Kept.drew | refine Kept.setCell ?_ (.inr GW252.out) _) | exact HK.out)) (fun k_ e_ => (HO2.out.1 k_ e_).1)); clear HO2; clear ho hb hg hat))
  go_ret
  exact ⟨_, by first | rfl | (simp [errW_none, errW_some] <;> rfl) | (simp [*, errW_none, errW_some] <;> rfl), by (with_reducible repeat (first | apply Kd.R_alloc | apply Kd.R_drewN | apply Kd.R_drew)); exact Kd.R_mono HO257.out (fun _ hk => hk.1), by repeat (first | (with_reducible first | exact HB.out | apply below_alloc | apply pw_below_drewN | apply below_drew1 | refine below_set ?_ GE252.out) | exact HB.out), by repeat (first | (with_reducible first | exact HK.out | apply Kept.alloc | apply Kept.drewN | apply Kept.drew | refine Kept.setCell ?_ (.inr GW252.out) _) | exact HK.out)⟩
 rw [if_neg c10] at H
 have c10b0 : (t253 == t254) = false := beq_eq_false_iff_ne.mpr c10
 have c10b1 : (t253 != t254) = true := bne_iff_ne.mpr c10
 replace H := Option.bind_eq_some_iff.mp H
 obtain ⟨⟨t258, t259, t260, t261⟩, A190, H⟩ := H
 have A19 := Aside0.mk A190
 clear A190
 replace H := Option.bind_eq_some_iff.mp H
 obtain ⟨t264, A200, H⟩ := H
 have A20 := Aside0.mk A200
 clear A200
 replace H := Option.bind_eq_some_iff.mp H
 obtain ⟨t267, A210, H⟩ := H
 have A21 := Aside0.mk A210
 clear A210
 obtain rfl := Option.some.inj H
 go_enter Try.func79, Try.ntmps79
 try go_wp2_with (first | ((with_reducible refine gate_dst (N := 3) rfl ?_); refine box_event ?hg (N := 3) ?hd (cs := #[.int .i64 a0_0, .int .i64 a0_1]) (t := 28) ?hr ?_; (case hd => rfl); (case hg => rfl); (case hr => first | (go_simp; done) | (go_simp; rfl)); intro gb252 hg w22 hbox hb; have BK252 := Aside0.mk hbox; have GW252 := Aside0.mk ((by rw [hg]; exact (by first | exact HK.out.1 | exact (show Kept w _ (fun k_ => P2_ k_) from by repeat (first | (with_reducible first | exact HK.out | apply Kept.alloc | apply Kept.drewN | apply Kept.drew) | exact HK.out)).1) : w.heap.size ≤ gb252)); have GE252 := Aside0.mk ((by rw [hg]; exact (bz_ HB) : w0.heap.size ≤ gb252)); replace HO2 := Aside0.mk (Kd.R_below (Kd.R_elderB (hd_ HO2) gb252 (Nat.le_of_eq hg.symm)) hb); replace HK := Aside0.mk (Kept.below (S := (fun k_ => P2_ k_)) (by repeat (first | (with_reducible first | exact HK.out | apply Kept.alloc | apply Kept.drewN | apply Kept.drew) | exact HK.out)) hb); replace HB := Aside0.mk (bt_ HB hb); clear hb hbox hg; have hcz23_0 := cz_ BK252 0 (.int .i64 a0_0); have hcz23_1 := cz_ BK252 1 (.int .i64 a0_1); have hfz23_0 := blk_frozen BK252.out 0; have hfz23_1 := blk_frozen BK252.out 1) | ((with_reducible refine gate_dst (N := 11) rfl ?_); refine goesTc_ (some 11) rfl rfl Try.func80 (by kernel_rfl) rfl #[.agg #[.int .i64 a0_0, .int .i64 a0_1], .pointer A1_0] rfl (by (try simp only [List.map_toArray, List.map_cons, List.map_nil]); first | done | rfl | (simp only [List.length_drop, List.length_take]; rfl)) ?_; (with_reducible refine (impl_Aggregate_2.calls k a0_0 a0_1 _ l1_0 t253 _ ?side1 A4.out).mono ?_); (case side1 => exact Kd.C_kept_now HR1_0.out (by repeat (first | (with_reducible first | exact HK.out | apply Kept.alloc | apply Kept.drewN | apply Kept.drew | refine Kept.setCell ?_ (.inr GW252.out) _) | exact HK.out))); rintro e w24 ⟨rfl, hb⟩; refine ⟨_, rfl, ?_⟩; replace HO2 := rb_ HO2 hb; replace BK252 := Aside0.mk (bb_ BK252 hb); replace HK := Aside0.mk (Kept.below (S := (fun k_ => P2_ k_)) (by repeat (first | (with_reducible first | exact HK.out | apply Kept.alloc | apply Kept.drewN | apply Kept.drew | refine Kept.setCell ?_ (.inr GW252.out) _) | exact HK.out)) hb); replace HB := Aside0.mk (bt_ HB hb); (try clear hb); (try clear hb2); (try clear hk); (try clear hi); have hcz25_0 := cz_ BK252 0 (.int .i64 a0_0); have hcz25_1 := cz_ BK252 1 (.int .i64 a0_1); have hfz25_0 := blk_frozen BK252.out 0; have hfz25_1 := blk_frozen BK252.out 1) | ((with_reducible refine gate_callee (f := 69) rfl ?_); refine gl_ (some 17) Try.func69 #[.agg #[.int .i64 a0_0, .int .i64 a0_1]] ?_; (with_reducible refine (impl_Prefix_size.calls a0_0 a0_1 t254 _ A9.out).mono ?_); rintro e w26 ⟨rfl, hb⟩; refine ⟨_, rfl, ?_⟩; replace HO2 := rb_ HO2 hb; replace BK252 := Aside0.mk (bb_ BK252 hb); replace HK := Aside0.mk (Kept.below (S := (fun k_ => P2_ k_)) (by repeat (first | (with_reducible first | exact HK.out | apply Kept.alloc | apply Kept.drewN | apply Kept.drew | refine Kept.setCell ?_ (.inr GW252.out) _) | exact HK.out)) hb); replace HB := Aside0.mk (bt_ HB hb); (try clear hb); (try clear hb2); (try clear hk); (try clear hi); have hcz27_0 := cz_ BK252 0 (.int .i64 a0_0); have hcz27_1 := cz_ BK252 1 (.int .i64 a0_1); have hfz27_0 := blk_frozen BK252.out 0; have hfz27_1 := blk_frozen BK252.out 1) | ((with_reducible refine gate_callee (f := 106) rfl ?_); refine gl_ (some 25) Try.func106 #[.agg #[.int .i64 a0_0, .int .i64 a0_1]] ?_; (with_reducible refine (impl_Prefix_halves.calls a0_0 a0_1 t258 t259 t260 t261 _ A19.out).mono ?_); rintro e w28 ⟨rfl, hb⟩; refine ⟨_, rfl, ?_⟩; replace HO2 := rb_ HO2 hb; replace BK252 := Aside0.mk (bb_ BK252 hb); replace HK := Aside0.mk (Kept.below (S := (fun k_ => P2_ k_)) (by repeat (first | (with_reducible first | exact HK.out | apply Kept.alloc | apply Kept.drewN | apply Kept.drew | refine Kept.setCell ?_ (.inr GW252.out) _) | exact HK.out)) hb); replace HB := Aside0.mk (bt_ HB hb); (try clear hb); (try clear hb2); (try clear hk); (try clear hi)) | ((with_reducible refine gate_dst (N := 7) rfl ?_); refine box_event ?hg (N := 7) ?hd (cs := #[.int .i64 0, .int .i64 0]) (t := 28) ?hr ?_; (case hd => rfl); (case hg => rfl); (case hr => first | (go_simp; done) | (go_simp; rfl)); intro gb262 hg w29 hbox hb; have BK262 := Aside0.mk hbox; have GW262 := Aside0.mk ((by rw [hg]; exact (by first | exact HK.out.1 | exact (show Kept w _ (fun k_ => P2_ k_) from by repeat (first | (with_reducible first | exact HK.out | apply Kept.alloc | apply Kept.drewN | apply Kept.drew | refine Kept.setCell ?_ (.inr GW252.out) _) | exact HK.out)).1) : w.heap.size ≤ gb262)); have GE262 := Aside0.mk ((by rw [hg]; exact (bz_ HB) : w0.heap.size ≤ gb262)); have NB252_262 := nl_ BK252 hg; have NB262_252 := ng_ BK252 hg; replace HO2 := Aside0.mk (Kd.R_below (Kd.R_elderB (hd_ HO2) gb262 (Nat.le_of_eq hg.symm)) hb); replace HK := Aside0.mk (Kept.below (S := (fun k_ => P2_ k_)) (by repeat (first | (with_reducible first | exact HK.out | apply Kept.alloc | apply Kept.drewN | apply Kept.drew | refine Kept.setCell ?_ (.inr GW252.out) _) | exact HK.out)) hb); replace HB := Aside0.mk (bt_ HB hb); replace BK252 := Aside0.mk (bb_ BK252 hb); clear hb hbox hg) | ((with_reducible refine gate_dst (N := 8) rfl ?_); refine box_event ?hg (N := 8) ?hd (cs := #[.int .i64 0, .int .i64 0]) (t := 28) ?hr ?_; (case hd => rfl); (case hg => rfl); (case hr => first | (go_simp; done) | (go_simp; rfl)); intro gb263 hg w30 hbox hb; have BK263 := Aside0.mk hbox; have GW263 := Aside0.mk ((by rw [hg]; exact (by first | exact HK.out.1 | exact (show Kept w _ (fun k_ => P2_ k_) from by repeat (first | (with_reducible first | exact HK.out | apply Kept.alloc | apply Kept.drewN | apply Kept.drew | refine Kept.setCell ?_ (.inr GW252.out) _ | refine Kept.setCell ?_ (.inr GW262.out) _) | exact HK.out)).1) : w.heap.size ≤ gb263)); have GE263 := Aside0.mk ((by rw [hg]; exact (bz_ HB) : w0.heap.size ≤ gb263)); have NB252_263 := nl_ BK252 hg; have NB263_252 := ng_ BK252 hg; have NB262_263 := nl_ BK262 hg; have NB263_262 := ng_ BK262 hg; replace HO2 := Aside0.mk (Kd.R_below (Kd.R_elderB (hd_ HO2) gb263 (Nat.le_of_eq hg.symm)) hb); replace HK := Aside0.mk (Kept.below (S := (fun k_ => P2_ k_)) (by repeat (first | (with_reducible first | exact HK.out | apply Kept.alloc | apply Kept.drewN | apply Kept.drew | refine Kept.setCell ?_ (.inr GW252.out) _ | refine Kept.setCell ?_ (.inr GW262.out) _) | exact HK.out)) hb); replace HB := Aside0.mk (bt_ HB hb); replace BK252 := Aside0.mk (bb_ BK252 hb); replace BK262 := Aside0.mk (bb_ BK262 hb); clear hb hbox hg; have hnb31 := NB262_252.out; have hnc31 := NB252_262.out; have hnb32 := NB262_263.out; have hnc32 := NB263_262.out; have hcz33_0 := cz_ BK262 0 (.int .i64 0); have hcz33_1 := cz_ BK262 1 (.int .i64 0); have hfz33_0 := blk_frozen BK262.out 0; have hfz33_1 := blk_frozen BK262.out 1; have hnb34 := NB263_252.out; have hnc34 := NB252_263.out; have hcz35_0 := cz_ BK263 0 (.int .i64 0); have hcz35_1 := cz_ BK263 1 (.int .i64 0); have hfz35_0 := blk_frozen BK263.out 0; have hfz35_1 := blk_frozen BK263.out 1))
 have n0_ : Aside0 (Kd.R k28 28 ((((w30.setCell ⟨gb262, 0, none⟩ (.int .i64 t258)).setCell ⟨gb262, 1, none⟩ (.int .i64 t259)).setCell ⟨gb263, 0, none⟩ (.int .i64 t260)).setCell ⟨gb263, 1, none⟩ (.int .i64 t261)) w0.heap.size (fun k_ => (P2_ k_ ∨ w.heap.size ≤ k_) ∧ k_ ≠ gb252 ∧ k_ ≠ gb262 ∧ k_ ≠ gb263) u9000_ l2) := ⟨by (with_reducible repeat (first | apply Kd.R_alloc | apply Kd.R_drewN | apply Kd.R_drew)); exact Kd.R_mono (Kd.R_far (p := ⟨gb263, 1, none⟩) (Kd.R_far (p := ⟨gb263, 0, none⟩) (Kd.R_far (p := ⟨gb262, 1, none⟩) (Kd.R_far (p := ⟨gb262, 0, none⟩) (Kd.R_mono (Kd.R_mono HO2.out (fun k_ hk => (⟨hk, hk.1.2⟩ : _ ∧ k_ ≠ gb262))) (fun k_ hk => (⟨hk, hk.1.2⟩ : _ ∧ k_ ≠ gb263))) (fun _ hk => hk.1.2) (.int .i64 t258)) (fun _ hk => hk.1.2) (.int .i64 t259)) (fun _ hk => hk.2) (.int .i64 t260)) (fun _ hk => hk.2) (.int .i64 t261)) (fun _ hk => ⟨hk.1.1.1.1.1, ⟨hk.1.1.1.1.2, ⟨hk.1.1.1.2, hk.1.1.2⟩⟩⟩)⟩
 have n1_ : Aside0 (((((w30.setCell ⟨gb262, 0, none⟩ (.int .i64 t258)).setCell ⟨gb262, 1, none⟩ (.int .i64 t259)).setCell ⟨gb263, 0, none⟩ (.int .i64 t260)).setCell ⟨gb263, 1, none⟩ (.int .i64 t261)).heap[gb252]? = some (.cells #[.int .i64 a0_0, .int .i64 a0_1] 28 (0, 0))) := ⟨by (with_reducible repeat (first | refine blk_drewN ?_ _ | refine blk_drew ?_ | refine blk_alloc ?_ _)); refine blk_far ?_ NB252_263.out _; (with_reducible repeat (first | refine blk_drewN ?_ _ | refine blk_drew ?_ | refine blk_alloc ?_ _)); refine blk_far ?_ NB252_263.out _; (with_reducible repeat (first | refine blk_drewN ?_ _ | refine blk_drew ?_ | refine blk_alloc ?_ _)); refine blk_far ?_ NB252_262.out _; (with_reducible repeat (first | refine blk_drewN ?_ _ | refine blk_drew ?_ | refine blk_alloc ?_ _)); refine blk_far ?_ NB252_262.out _; (with_reducible repeat (first | refine blk_drewN ?_ _ | refine blk_drew ?_ | refine blk_alloc ?_ _)); exact BK252.out⟩
 have n2_ : Aside0 (((((w30.setCell ⟨gb262, 0, none⟩ (.int .i64 t258)).setCell ⟨gb262, 1, none⟩ (.int .i64 t259)).setCell ⟨gb263, 0, none⟩ (.int .i64 t260)).setCell ⟨gb263, 1, none⟩ (.int .i64 t261)).heap[gb262]? = some (.cells #[.int .i64 t258, .int .i64 t259] 28 (0, 0))) := ⟨by (with_reducible repeat (first | refine blk_drewN ?_ _ | refine blk_drew ?_ | refine blk_alloc ?_ _)); refine blk_far ?_ NB262_263.out _; (with_reducible repeat (first | refine blk_drewN ?_ _ | refine blk_drew ?_ | refine blk_alloc ?_ _)); refine blk_far ?_ NB262_263.out _; (with_reducible repeat (first | refine blk_drewN ?_ _ | refine blk_drew ?_ | refine blk_alloc ?_ _)); refine blk_put (cs := #[.int .i64 t258, .int .i64 0]) ?_ 1 _ rfl; (with_reducible repeat (first | refine blk_drewN ?_ _ | refine blk_drew ?_ | refine blk_alloc ?_ _)); refine blk_put (cs := #[.int .i64 0, .int .i64 0]) ?_ 0 _ rfl; (with_reducible repeat (first | refine blk_drewN ?_ _ | refine blk_drew ?_ | refine blk_alloc ?_ _)); exact BK262.out⟩
 have n3_ : Aside0 (((((w30.setCell ⟨gb262, 0, none⟩ (.int .i64 t258)).setCell ⟨gb262, 1, none⟩ (.int .i64 t259)).setCell ⟨gb263, 0, none⟩ (.int .i64 t260)).setCell ⟨gb263, 1, none⟩ (.int .i64 t261)).heap[gb263]? = some (.cells #[.int .i64 t260, .int .i64 t261] 28 (0, 0))) := ⟨by (with_reducible repeat (first | refine blk_drewN ?_ _ | refine blk_drew ?_ | refine blk_alloc ?_ _)); refine blk_put (cs := #[.int .i64 t260, .int .i64 0]) ?_ 1 _ rfl; (with_reducible repeat (first | refine blk_drewN ?_ _ | refine blk_drew ?_ | refine blk_alloc ?_ _)); refine blk_put (cs := #[.int .i64 0, .int .i64 0]) ?_ 0 _ rfl; (with_reducible repeat (first | refine blk_drewN ?_ _ | refine blk_drew ?_ | refine blk_alloc ?_ _)); refine blk_far ?_ NB263_262.out _; (with_reducible repeat (first | refine blk_drewN ?_ _ | refine blk_drew ?_ | refine blk_alloc ?_ _)); refine blk_far ?_ NB263_262.out _; (with_reducible repeat (first | refine blk_drewN ?_ _ | refine blk_drew ?_ | refine blk_alloc ?_ _)); exact BK263.out⟩
 have n4_ : Aside0 (Kept w ((((w30.setCell ⟨gb262, 0, none⟩ (.int .i64 t258)).setCell ⟨gb262, 1, none⟩ (.int .i64 t259)).setCell ⟨gb263, 0, none⟩ (.int .i64 t260)).setCell ⟨gb263, 1, none⟩ (.int .i64 t261)) (fun k_ => P2_ k_)) := ⟨by repeat (first | (with_reducible first | exact HK.out | apply Kept.alloc | apply Kept.drewN | apply Kept.drew | refine Kept.setCell ?_ (.inr GW252.out) _ | refine Kept.setCell ?_ (.inr GW262.out) _ | refine Kept.setCell ?_ (.inr GW263.out) _) | exact HK.out)⟩
 have n5_ : Aside0 (Below w0.heap.size w0 ((((w30.setCell ⟨gb262, 0, none⟩ (.int .i64 t258)).setCell ⟨gb262, 1, none⟩ (.int .i64 t259)).setCell ⟨gb263, 0, none⟩ (.int .i64 t260)).setCell ⟨gb263, 1, none⟩ (.int .i64 t261))) := ⟨by repeat (first | (with_reducible first | exact HB.out | apply below_alloc | apply pw_below_drewN | apply below_drew1 | refine below_set ?_ GE252.out | refine below_set ?_ GE262.out | refine below_set ?_ GE263.out) | exact HB.out)⟩
 (try clear HO2)
 (try clear BK252)
 (try clear BK262)
 (try clear BK263)
 (try clear HK)
 (try clear HB)
 generalize ((((w30.setCell ⟨gb262, 0, none⟩ (.int .i64 t258)).setCell ⟨gb262, 1, none⟩ (.int .i64 t259)).setCell ⟨gb263, 0, none⟩ (.int .i64 t260)).setCell ⟨gb263, 1, none⟩ (.int .i64 t261)) = w36 at n0_ n1_ n2_ n3_ n4_ n5_ ⊢
 have HO2 := n0_
 have BK252 := n1_
 have BK262 := n2_
 have BK263 := n3_
 have HK := n4_
 have HB := n5_
 clear n0_ n1_ n2_ n3_ n4_ n5_
 replace HO2 := Aside0.mk (Kd.R_drew HO2.out)
 replace BK252 := Aside0.mk (blk_drew BK252.out)
 replace BK262 := Aside0.mk (blk_drew BK262.out)
 replace BK263 := Aside0.mk (blk_drew BK263.out)
 replace HK := Aside0.mk (Kept.drew HK.out)
 replace HB := Aside0.mk (below_drew1 HB.out)
 obtain ⟨Ao38, co38, eo38⟩ := Kd.R_slice HO2.out
 (first | subst eo38 | (injection eo38 with f1_ f2_ f3_; have f4_ := f1_.symm; have f5_ := f3_.symm; clear f1_ f2_ f3_; subst f4_; subst f5_))
 refine start_ (n := 8) (S := fun w' => w'.cell? ⟨gb263, 0, none⟩ = some (.int .i64 t260) ∧ w'.cell? ⟨gb263, 1, none⟩ = some (.int .i64 t261) ∧ w'.cell? ⟨gb262, 0, none⟩ = some (.int .i64 t258) ∧ w'.cell? ⟨gb262, 1, none⟩ = some (.int .i64 t259)) (ds := []) ba11_0 (by kernel_rfl) rfl rfl ⟨(blk_cell BK263.out 0).trans rfl, (blk_cell BK263.out 1).trans rfl, (blk_cell BK262.out 0).trans rfl, (blk_cell BK262.out 1).trans rfl⟩ (fun hHeld => ?_); refine with_tabW impl_shortest.tab7 impl_shortest.bits7 (fun HT_ HW_ => ?_)
 generalize w36.drew = w37 at HO2 BK252 BK262 BK263 HK HB hHeld ⊢
 refine pz_ 1 29 ba11_1 HT_ ?_
 refine pz_ 3 31 ba11_2 HT_ ?_
 refine pz_ 4 32 ba11_3 HT_ ?_
 refine pt_ 0 28 ba11_4 HT_ HW_ hHeld ?_
 refine pt_ 2 30 ba11_5 HT_ HW_ hHeld ?_
 refine one_ (i := 5) (N := some 33) ba11_6 rfl rfl (one_of HT_.out (by kernel_rfl)) (by decide) (fun K hK => ?_)
 refine gz_ Try.func79 #[.agg #[.int .i64 t258, .int .i64 t259], .func (.func 80) #[] #[.pointer A1_0], .slice Ao38 l2.length co38] ?_
 with_reducible refine (ih k (by omega) t258 t259 _ l1_0 (fun k_ => some k_ = (.slice Ao38 l2.length co38 : Value).ownBlock) (.slice Ao38 l2.length co38) l2 t264 w0 _ ?side1 ?side2 ?side3 A20.out).mono ?_
 (case side1 => exact by_ HB)
 (case side2 => exact Kd.C_kept_call HR1_0.out (by repeat (first | (with_reducible first | exact HK.out | apply Kept.alloc | apply Kept.drewN | apply Kept.drew | refine Kept.setCell ?_ (.inr GW252.out) _ | refine Kept.setCell ?_ (.inr GW262.out) _ | refine Kept.setCell ?_ (.inr GW263.out) _) | exact HK.out)) (fun k_ hs_ => (fun e_ => (HO2.out.1 k_ e_.symm).1) hs_))
 (case side3 => exact Kd.R_tight rfl HO2.out)
 rintro e w39 ⟨v265, rfl, ho0, hb, hkp⟩
 refine ⟨_, rfl, ?_⟩
 have HO266 := Aside0.mk (Kd.R_mono (ok' := fun k_ => (P2_ k_ ∨ w.heap.size ≤ k_) ∧ k_ ≠ gb252 ∧ k_ ≠ gb262 ∧ k_ ≠ gb263) ho0 (fun k_ hk_ => ⟨Or.elim hk_ (fun hs_ => (HO2.out.1 k_ (hs_).symm).1) (fun hn_ => (.inr (Nat.le_trans (by first | exact HK.out.1 | exact (show Kept w _ (fun k_ => P2_ k_) from by repeat (first | (with_reducible first | exact HK.out | apply Kept.alloc | apply Kept.drewN | apply Kept.drew | refine Kept.setCell ?_ (.inr GW252.out) _ | refine Kept.setCell ?_ (.inr GW262.out) _ | refine Kept.setCell ?_ (.inr GW263.out) _) | exact HK.out)).1) hn_))), Or.elim hk_ (fun hs_ => fun e_ => (Kd.R_away HO2.out (fun _ hk => hk.2.1)) (by rw [← e_]; exact hs_)) (fun hn_ => (Kd.freshB (g := gb252) (o := .cells #[.int .i64 a0_0, .int .i64 a0_1] 28 (0, 0)) (by (with_reducible repeat (first | refine blk_drewN ?_ _ | refine blk_drew ?_ | refine blk_alloc ?_ _)); exact BK252.out) k_ hn_)), Or.elim hk_ (fun hs_ => fun e_ => (Kd.R_away HO2.out (fun _ hk => hk.2.2.1)) (by rw [← e_]; exact hs_)) (fun hn_ => (Kd.freshB (g := gb262) (o := .cells #[.int .i64 t258, .int .i64 t259] 28 (0, 0)) (by (with_reducible repeat (first | refine blk_drewN ?_ _ | refine blk_drew ?_ | refine blk_alloc ?_ _)); exact BK262.out) k_ hn_)), Or.elim hk_ (fun hs_ => fun e_ => (Kd.R_away HO2.out (fun _ hk => hk.2.2.2)) (by rw [← e_]; exact hs_)) (fun hn_ => (Kd.freshB (g := gb263) (o := .cells #[.int .i64 t260, .int .i64 t261] 28 (0, 0)) (by (with_reducible repeat (first | refine blk_drewN ?_ _ | refine blk_drew ?_ | refine blk_alloc ?_ _)); exact BK263.out) k_ hn_))⟩))
 replace BK252 := bk_ BK252 hkp (fun hs_ => (fun e_ => (Kd.R_away HO2.out (fun _ hk => hk.2.1)) e_) hs_)
 replace BK262 := bk_ BK262 hkp (fun hs_ => (fun e_ => (Kd.R_away HO2.out (fun _ hk => hk.2.2.1)) e_) hs_)
 replace BK263 := bk_ BK263 hkp (fun hs_ => (fun e_ => (Kd.R_away HO2.out (fun _ hk => hk.2.2.2)) e_) hs_)
 replace HK := Aside0.mk (Kept.then_ (S := (fun k_ => P2_ k_)) (by repeat (first | (with_reducible first | exact HK.out | apply Kept.alloc | apply Kept.drewN | apply Kept.drew | refine Kept.setCell ?_ (.inr GW252.out) _ | refine Kept.setCell ?_ (.inr GW262.out) _ | refine Kept.setCell ?_ (.inr GW263.out) _) | exact HK.out)) hkp (fun k_ hs_ => (fun e_ => (HO2.out.1 k_ e_.symm).1) hs_))
 replace HB := Aside0.mk (hb)
 clear HO2
 (try clear hb)
 (try clear hkp)
 (try clear ho0)
 obtain ⟨Ao40, co40, eo40⟩ := Kd.R_slice HO266.out
 (first | subst eo40 | (injection eo40 with f1_ f2_ f3_; have f4_ := f1_.symm; have f5_ := f3_.symm; clear f1_ f2_ f3_; subst f4_; subst f5_))
 refine hK.out _ _ ⟨(blk_cell BK263.out 0).trans rfl, (blk_cell BK263.out 1).trans rfl, (blk_cell BK262.out 0).trans rfl, (blk_cell BK262.out 1).trans rfl⟩ (fun hHeld => ?_)
 clear hK K
 refine nz_ 33 ?_
 refine one_ (i := 6) (N := some 34) ba11_7 rfl rfl (one_of HT_.out (by kernel_rfl)) (by decide) (fun K hK => ?_)
 refine gz_ Try.func79 #[.agg #[.int .i64 t260, .int .i64 t261], .func (.func 80) #[] #[.pointer A1_0], .slice Ao40 t264.length co40] ?_
 with_reducible refine (ih k (by omega) t260 t261 _ l1_0 (fun k_ => some k_ = (.slice Ao40 t264.length co40 : Value).ownBlock) (.slice Ao40 t264.length co40) t264 t267 w0 _ ?side1 ?side2 ?side3 A21.out).mono ?_
 (case side1 => exact by_ HB)
 (case side2 => exact Kd.C_kept_call HR1_0.out (by repeat (first | (with_reducible first | exact HK.out | apply Kept.alloc | apply Kept.drewN | apply Kept.drew | refine Kept.setCell ?_ (.inr GW252.out) _ | refine Kept.setCell ?_ (.inr GW262.out) _ | refine Kept.setCell ?_ (.inr GW263.out) _) | exact HK.out)) (fun k_ hs_ => (fun e_ => (HO266.out.1 k_ e_.symm).1) hs_))
 (case side3 => exact Kd.R_tight rfl HO266.out)
 rintro e w41 ⟨v268, rfl, ho0, hb, hkp⟩
 refine ⟨_, rfl, ?_⟩
 have HO269 := Aside0.mk (Kd.R_mono (ok' := fun k_ => (P2_ k_ ∨ w.heap.size ≤ k_) ∧ k_ ≠ gb252 ∧ k_ ≠ gb262 ∧ k_ ≠ gb263) ho0 (fun k_ hk_ => ⟨Or.elim hk_ (fun hs_ => (HO266.out.1 k_ (hs_).symm).1) (fun hn_ => (.inr (Nat.le_trans (by first | exact HK.out.1 | exact (show Kept w _ (fun k_ => P2_ k_) from by repeat (first | (with_reducible first | exact HK.out | apply Kept.alloc | apply Kept.drewN | apply Kept.drew | refine Kept.setCell ?_ (.inr GW252.out) _ | refine Kept.setCell ?_ (.inr GW262.out) _ | refine Kept.setCell ?_ (.inr GW263.out) _) | exact HK.out)).1) hn_))), Or.elim hk_ (fun hs_ => fun e_ => (Kd.R_away HO266.out (fun _ hk => hk.2.1)) (by rw [← e_]; exact hs_)) (fun hn_ => (Kd.freshB (g := gb252) (o := .cells #[.int .i64 a0_0, .int .i64 a0_1] 28 (0, 0)) (by (with_reducible repeat (first | refine blk_drewN ?_ _ | refine blk_drew ?_ | refine blk_alloc ?_ _)); exact BK252.out) k_ hn_)), Or.elim hk_ (fun hs_ => fun e_ => (Kd.R_away HO266.out (fun _ hk => hk.2.2.1)) (by rw [← e_]; exact hs_)) (fun hn_ => (Kd.freshB (g := gb262) (o := .cells #[.int .i64 t258, .int .i64 t259] 28 (0, 0)) (by (with_reducible repeat (first | refine blk_drewN ?_ _ | refine blk_drew ?_ | refine blk_alloc ?_ _)); exact BK262.out) k_ hn_)), Or.elim hk_ (fun hs_ => fun e_ => (Kd.R_away HO266.out (fun _ hk => hk.2.2.2)) (by rw [← e_]; exact hs_)) (fun hn_ => (Kd.freshB (g := gb263) (o := .cells #[.int .i64 t260, .int .i64 t261] 28 (0, 0)) (by (with_reducible repeat (first | refine blk_drewN ?_ _ | refine blk_drew ?_ | refine blk_alloc ?_ _)); exact BK263.out) k_ hn_))⟩))
 replace BK252 := bk_ BK252 hkp (fun hs_ => (fun e_ => (Kd.R_away HO266.out (fun _ hk => hk.2.1)) e_) hs_)
 replace BK262 := bk_ BK262 hkp (fun hs_ => (fun e_ => (Kd.R_away HO266.out (fun _ hk => hk.2.2.1)) e_) hs_)
 replace BK263 := bk_ BK263 hkp (fun hs_ => (fun e_ => (Kd.R_away HO266.out (fun _ hk => hk.2.2.2)) e_) hs_)
 replace HK := Aside0.mk (Kept.then_ (S := (fun k_ => P2_ k_)) (by repeat (first | (with_reducible first | exact HK.out | apply Kept.alloc | apply Kept.drewN | apply Kept.drew | refine Kept.setCell ?_ (.inr GW252.out) _ | refine Kept.setCell ?_ (.inr GW262.out) _ | refine Kept.setCell ?_ (.inr GW263.out) _) | exact HK.out)) hkp (fun k_ hs_ => (fun e_ => (HO266.out.1 k_ e_.symm).1) hs_))
 replace HB := Aside0.mk (hb)
 clear HO266
 (try clear hb)
 (try clear hkp)
 (try clear ho0)
 refine hK.out _ _ ⟨(blk_cell BK263.out 0).trans rfl, (blk_cell BK263.out 1).trans rfl, (blk_cell BK262.out 0).trans rfl, (blk_cell BK262.out 1).trans rfl⟩ (fun hHeld => ?_)
 clear hK K
 refine nz_ 34 ?_
 refine pz_ 7 6 ba11_8 HT_ ?_
 refine done_ (done_of HT_.out (by kernel_rfl)) ?_
 try go_wp2
 go_ret
 exact ⟨_, by first | rfl | (simp [errW_none, errW_some] <;> rfl) | (simp [*, errW_none, errW_some] <;> rfl), by (with_reducible repeat (first | apply Kd.R_alloc | apply Kd.R_drewN | apply Kd.R_drew)); exact Kd.R_mono HO269.out (fun _ hk => hk.1), by repeat (first | (with_reducible first | exact HB.out | apply below_alloc | apply pw_below_drewN | apply below_drew1 | refine below_set ?_ GE252.out | refine below_set ?_ GE262.out | refine below_set ?_ GE263.out) | exact HB.out), by repeat (first | (with_reducible first | exact HK.out | apply Kept.alloc | apply Kept.drewN | apply Kept.drew | refine Kept.setCell ?_ (.inr GW252.out) _ | refine Kept.setCell ?_ (.inr GW262.out) _ | refine Kept.setCell ?_ (.inr GW263.out) _) | exact HK.out)⟩

end Go.Proofs.Ytjepmdngbafonaa.QFnAggregate
