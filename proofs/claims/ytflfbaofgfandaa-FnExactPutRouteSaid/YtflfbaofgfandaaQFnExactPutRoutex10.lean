/- Contracts of functions that the law reaches: what each call returns and what it leaves in memory. Made by this session over the print of the kit. -/
import Derived.Test.YtflfbaofgfandaaQFnExactPutRoutex0
import Derived.Test.YtflfbaofgfandaaQFnExactPutRoutex8
namespace Go.Proofs.Ytflfbaofgfandaa.QFnExactPutRoute
open Go.RowKit Go.Proofs.YtflfbaofgfandaaP.PrintWords Go.Proofs.YtflfbaofgfandaaP.PrintLast Go.Proofs.YtflfbaofgfandaaP.PrintMore
attribute [local go_sem] max2_int min2_int max_two min_two max_three min_three max_four min_four   -- for this text's walks alone
set_option linter.unusedVariables false
set_option linter.unusedSimpArgs false
def ba10_0 : Array Bool := #[false, false, false, false, false, false, false, false]
def ba10_1 : Array Bool := #[true, false, false, false, false, false, false, false]
def ba10_2 : Array Bool := #[true, true, false, false, false, false, false, false]
def ba10_3 : Array Bool := #[true, true, true, false, false, false, false, false]
def ba10_4 : Array Bool := #[true, true, true, true, false, false, false, false]
def ba10_5 : Array Bool := #[true, true, true, true, true, false, false, false]
def ba10_6 : Array Bool := #[true, true, true, true, true, true, false, false]
def ba10_7 : Array Bool := #[true, true, true, true, true, true, true, false]
def ba10_8 : Array Bool := #[true, true, true, true, true, true, true, true]
def ba10_9 : Array Bool := #[false, false, false, false, false, false, false, false, false, false, false, false, false, false, false, false]
def ba10_10 : Array Bool := #[true, false, false, false, false, false, false, false, false, false, false, false, false, false, false, false]
def ba10_11 : Array Bool := #[true, true, false, false, false, false, false, false, false, false, false, false, false, false, false, false]
def ba10_12 : Array Bool := #[true, true, true, false, false, false, false, false, false, false, false, false, false, false, false, false]
def ba10_13 : Array Bool := #[true, true, true, true, false, false, false, false, false, false, false, false, false, false, false, false]
def ba10_14 : Array Bool := #[true, true, true, true, true, false, false, false, false, false, false, false, false, false, false, false]
def ba10_15 : Array Bool := #[true, true, true, true, true, true, false, false, false, false, false, false, false, false, false, false]
def ba10_16 : Array Bool := #[true, true, true, true, true, true, true, false, false, false, false, false, false, false, false, false]
def ba10_17 : Array Bool := #[true, true, true, true, true, true, true, true, false, false, false, false, false, false, false, false]
def ba10_18 : Array Bool := #[true, true, true, true, true, true, true, true, true, false, false, false, false, false, false, false]
def ba10_19 : Array Bool := #[true, true, true, true, true, true, true, true, true, true, false, false, false, false, false, false]
def ba10_20 : Array Bool := #[true, true, true, true, true, true, true, true, true, true, true, false, false, false, false, false]
def ba10_21 : Array Bool := #[true, true, true, true, true, true, true, true, true, true, true, true, false, false, false, false]
def ba10_22 : Array Bool := #[true, true, true, true, true, true, true, true, true, true, true, true, true, false, false, false]
def ba10_23 : Array Bool := #[true, true, true, true, true, true, true, true, true, true, true, true, true, true, false, false]
def ba10_24 : Array Bool := #[true, true, true, true, true, true, true, true, true, true, true, true, true, true, true, false]
def ba10_25 : Array Bool := #[true, true, true, true, true, true, true, true, true, true, true, true, true, true, true, true]

/-! ### impl_findRoute_1: function 54 -/
def impl_findRoute_1.f (a0_0 : Int) (a0_1 : Int) (a0_2 : Int) (a1_0 : Int) (a1_1 : Int) : Option (Int) := (impl_comparePrefixes.f a0_0 a0_1 a1_0 a1_1).bind fun t238 => (some t238)
set_option maxHeartbeats 8000000 in
set_option maxRecDepth 100000 in
theorem impl_findRoute_1.calls (a0_0 : Int) (a0_1 : Int) (a0_2 : Int) (a1_0 : Int) (a1_1 : Int) (r : Int) (w : World) (h : impl_findRoute_1.f a0_0 a0_1 a0_2 a1_0 a1_1 = some r) :
  Calls Try.prog 54 #[.agg #[.int .i64 a0_0, .int .i64 a0_1, .int .i64 a0_2], .agg #[.int .i64 a1_0, .int .i64 a1_1]] w fun e w' => e = .returned (.int .i64 r) ∧ Below w.heap.size w w' := by
 have hu43 := Try.underlying43
 have hu34 := Try.underlying34
 have HB := Aside0.mk (Below.refl w.heap.size w)
 have H : ((impl_comparePrefixes.f a0_0 a0_1 a1_0 a1_1).bind fun t238 => (some t238)) = some r := h
 clear h
 replace H := Option.bind_eq_some_iff.mp H
 obtain ⟨t238, A30, H⟩ := H
 have A3 := Aside0.mk A30
 clear A30
 obtain rfl := Option.some.inj H
 go_enter Try.func54, Try.ntmps54
 go_wp2_with (first | ((with_reducible refine gate_dst (N := 2) rfl ?_); refine box_event ?hg (N := 2) ?hd (cs := #[.int .i64 a0_0, .int .i64 a0_1, .int .i64 a0_2]) (t := 43) ?hr ?_; (case hd => rfl); (case hg => rfl); (case hr => first | (go_simp; done) | (go_simp; rfl)); intro gb236 hg w4 hbox hb; have BK236 := Aside0.mk hbox; have GW236 := ge_ HB hg; have GE236 := ge_ HB hg; replace HB := Aside0.mk (bt_ HB hb); clear hb hbox hg) | ((with_reducible refine gate_dst (N := 3) rfl ?_); refine box_event ?hg (N := 3) ?hd (cs := #[.int .i64 a1_0, .int .i64 a1_1]) (t := 34) ?hr ?_; (case hd => rfl); (case hg => rfl); (case hr => first | (go_simp; done) | (go_simp; rfl)); intro gb237 hg w5 hbox hb; have BK237 := Aside0.mk hbox; have GW237 := ge_ HB hg; have GE237 := ge_ HB hg; have NB236_237 := nl_ BK236 hg; have NB237_236 := ng_ BK236 hg; replace HB := Aside0.mk (bt_ HB hb); replace BK236 := Aside0.mk (bb_ BK236 hb); clear hb hbox hg; have hnb6 := NB236_237.out; have hnc6 := NB237_236.out; have hcz7_0 := cz_ BK236 0 (.int .i64 a0_0); have hcz7_1 := cz_ BK236 1 (.int .i64 a0_1); have hcz7_2 := cz_ BK236 2 (.int .i64 a0_2); have hfz7_0 := blk_frozen BK236.out 0; have hfz7_1 := blk_frozen BK236.out 1; have hfz7_2 := blk_frozen BK236.out 2; have hcz8_0 := cz_ BK237 0 (.int .i64 a1_0); have hcz8_1 := cz_ BK237 1 (.int .i64 a1_1); have hfz8_0 := blk_frozen BK237.out 0; have hfz8_1 := blk_frozen BK237.out 1) | ((with_reducible refine gate_callee (f := 52) rfl ?_); refine gl_ (some 8) Try.func52 #[.agg #[.int .i64 a0_0, .int .i64 a0_1], .agg #[.int .i64 a1_0, .int .i64 a1_1]] ?_; (with_reducible refine (impl_comparePrefixes.calls a0_0 a0_1 a1_0 a1_1 t238 _ A3.out).mono ?_); rintro e w9 ⟨rfl, hb⟩; refine ⟨_, rfl, ?_⟩; replace BK236 := Aside0.mk (bb_ BK236 hb); replace BK237 := Aside0.mk (bb_ BK237 hb); replace HB := Aside0.mk (bt_ HB hb); (try clear hb); (try clear hb2); (try clear hk); (try clear hi)))
 go_ret
 exact ⟨by first | rfl | (simp [errW_none, errW_some] <;> rfl) | (simp [*, errW_none, errW_some] <;> rfl), by repeat (first | (with_reducible first | exact HB.out | apply below_alloc | apply pw_below_drewN | apply below_drew1 | refine below_set ?_ GE236.out | refine below_set ?_ GE237.out) | exact HB.out)⟩

/-! ### slices_BinarySearchFunc_impl_Route_impl_Route_impl_Prefix: function 53 -/
def slices_BinarySearchFunc_impl_Route_impl_Route_impl_Prefix.l0 : Nat → List (S43) → Int → Int → Int → Int → Int → Option (Int × Bool)
 | 0, _, _, _, _, _, _ => none
 | k + 1, x0, x8, x9, x10, x240000, x240001 => if x9 < x10 then (if 0 ≤ (wrap64 ((IntKind.u64.wrap (wrap64 (x9 + x10))) / 2)) then (if (wrap64 ((IntKind.u64.wrap (wrap64 (x9 + x10))) / 2)) < (x0.length : Int) then ((impl_findRoute_1.f ((rd_T43 x0 (wrap64 ((IntKind.u64.wrap (wrap64 (x9 + x10))) / 2))).f0.f0) ((rd_T43 x0 (wrap64 ((IntKind.u64.wrap (wrap64 (x9 + x10))) / 2))).f0.f1) ((rd_T43 x0 (wrap64 ((IntKind.u64.wrap (wrap64 (x9 + x10))) / 2))).f1) x240000 x240001).bind fun t241 => (if t241 < 0 then (slices_BinarySearchFunc_impl_Route_impl_Route_impl_Prefix.l0 k x0 x8 (wrap64 ((wrap64 ((IntKind.u64.wrap (wrap64 (x9 + x10))) / 2)) + 1)) x10 x240000 x240001) else (slices_BinarySearchFunc_impl_Route_impl_Route_impl_Prefix.l0 k x0 x8 x9 (wrap64 ((IntKind.u64.wrap (wrap64 (x9 + x10))) / 2)) x240000 x240001))) else (none)) else (none)) else (if x9 < x8 then (if 0 ≤ x9 then (if x9 < (x0.length : Int) then ((impl_findRoute_1.f ((rd_T43 x0 x9).f0.f0) ((rd_T43 x0 x9).f0.f1) ((rd_T43 x0 x9).f1) x240000 x240001).bind fun t243 => (some (x9, (t243 == 0)))) else (none)) else (none)) else (some (x9, false)))
def slices_BinarySearchFunc_impl_Route_impl_Route_impl_Prefix.f (k : Nat) (l0 : List (S43)) (a1_0 : Int) (a1_1 : Int)  : Option (Int × Bool) := slices_BinarySearchFunc_impl_Route_impl_Route_impl_Prefix.l0 k l0 (l0.length : Int) 0 (l0.length : Int) a1_0 a1_1
theorem slices_BinarySearchFunc_impl_Route_impl_Route_impl_Prefix.mono_l : ∀ k, (∀ y0 y1 y2 y3 y4 y5, LeO (slices_BinarySearchFunc_impl_Route_impl_Route_impl_Prefix.l0 k y0 y1 y2 y3 y4 y5) (slices_BinarySearchFunc_impl_Route_impl_Route_impl_Prefix.l0 (k + 1) y0 y1 y2 y3 y4 y5))
 | 0 => fun _ _ _ _ _ _ r h => by simp [slices_BinarySearchFunc_impl_Route_impl_Route_impl_Prefix.l0] at h
 | k + 1 => by
  have ih0 := slices_BinarySearchFunc_impl_Route_impl_Route_impl_Prefix.mono_l k
  ·intro y0 y1 y2 y3 y4 y5
   unfold slices_BinarySearchFunc_impl_Route_impl_Route_impl_Prefix.l0
   repeat' first
   | (with_reducible exact ih0 _ _ _ _ _ _)
   | (with_reducible exact LeO.refl _)
   | (with_reducible exact LeO.none _)
   | (with_reducible refine LeO.ite ?_ ?_)
   | (with_reducible refine LeO.bind ?_ (fun _ => ?_))
   | exact ih0 _ _ _ _ _ _
   | exact LeO.none _
   | refine LeO.ite ?_ ?_
   | refine LeO.bind ?_ (fun _ => ?_)
theorem slices_BinarySearchFunc_impl_Route_impl_Route_impl_Prefix.mono : ∀ a0 a1 a2 k, LeO (slices_BinarySearchFunc_impl_Route_impl_Route_impl_Prefix.f k a0 a1 a2) (slices_BinarySearchFunc_impl_Route_impl_Route_impl_Prefix.f (k + 1) a0 a1 a2) := by
 intro a0 a1 a2 k
 have ih0 := slices_BinarySearchFunc_impl_Route_impl_Route_impl_Prefix.mono_l k
 unfold slices_BinarySearchFunc_impl_Route_impl_Route_impl_Prefix.f
 repeat' first
   | (with_reducible exact ih0 _ _ _ _ _ _)
   | (with_reducible exact LeO.refl _)
   | (with_reducible exact LeO.none _)
   | (with_reducible refine LeO.ite ?_ ?_)
   | (with_reducible refine LeO.bind ?_ (fun _ => ?_))
   | exact ih0 _ _ _ _ _ _
   | exact LeO.none _
   | refine LeO.ite ?_ ?_
   | refine LeO.bind ?_ (fun _ => ?_)
def slices_BinarySearchFunc_impl_Route_impl_Route_impl_Prefix.T5 : Bool × List (List Nat × List Nat) := (true, [([], []), ([], []), ([], []), ([1, 2], [1, 2]), ([3], [3]), ([], []), ([0, 4, 5], [0, 4, 5]), ([6], [6])])
def slices_BinarySearchFunc_impl_Route_impl_Route_impl_Prefix.B5 : List Nat := [0, 0, 0, 6, 14, 0, 63, 127]
theorem slices_BinarySearchFunc_impl_Route_impl_Route_impl_Prefix.tab5 : rtab .any (opsOf Try.f53 5) = slices_BinarySearchFunc_impl_Route_impl_Route_impl_Prefix.T5 := by kernel_rfl
theorem slices_BinarySearchFunc_impl_Route_impl_Route_impl_Prefix.bits5 : waitsOk slices_BinarySearchFunc_impl_Route_impl_Route_impl_Prefix.T5.2 slices_BinarySearchFunc_impl_Route_impl_Route_impl_Prefix.B5 = true := by kernel_rfl
def slices_BinarySearchFunc_impl_Route_impl_Route_impl_Prefix.T8 : Bool × List (List Nat × List Nat) := (true, [([], []), ([], []), ([], []), ([1, 2], [1, 2]), ([3], [3]), ([4], [4]), ([4], [4]), ([4], [4]), ([6, 7, 4], [4, 6, 7]), ([8, 4], [4, 8]), ([4], [4]), ([5, 9, 10, 4, 4], [4, 5, 9, 10]), ([11, 4], [4, 11]), ([4, 12], [4, 12]), ([0, 11, 0], [0]), ([13, 14, 0, 1, 2, 3, 4, 5, 6, 7, 8, 9, 10, 11, 12, 13, 14], [13])])
def slices_BinarySearchFunc_impl_Route_impl_Route_impl_Prefix.B8 : List Nat := [0, 0, 0, 6, 14, 30, 30, 30, 222, 478, 30, 2046, 4094, 8190, 4095, 32767]
theorem slices_BinarySearchFunc_impl_Route_impl_Route_impl_Prefix.tab8 : rtab .any (opsOf Try.f53 8) = slices_BinarySearchFunc_impl_Route_impl_Route_impl_Prefix.T8 := by kernel_rfl
theorem slices_BinarySearchFunc_impl_Route_impl_Route_impl_Prefix.bits8 : waitsOk slices_BinarySearchFunc_impl_Route_impl_Route_impl_Prefix.T8.2 slices_BinarySearchFunc_impl_Route_impl_Route_impl_Prefix.B8 = true := by kernel_rfl
set_option maxHeartbeats 8000000 in
set_option maxRecDepth 100000 in
theorem slices_BinarySearchFunc_impl_Route_impl_Route_impl_Prefix.calls (k : Nat) (A0 : Option Addr) (c0 : Nat) (l0 : List (S43)) (a1_0 : Int) (a1_1 : Int)  (r1 : Int) (r2 : Bool) (w : World) (hr0 : Kd.C k43 w A0 l0.length l0) (hc0 : l0.length ≤ c0) (h : slices_BinarySearchFunc_impl_Route_impl_Route_impl_Prefix.f k l0 a1_0 a1_1 = some (r1, r2)) :
  Calls Try.prog 53 #[.slice A0 l0.length c0, .agg #[.int .i64 a1_0, .int .i64 a1_1], .func (.func 54) #[] #[]] w fun e w' => e = .returned (.tuple #[.int .i64 r1, .bool r2]) ∧ Below w.heap.size w w' := by
 have hu34 := Try.underlying34
 have hu43 := Try.underlying43
 have HR0 := Aside0.mk hr0
 have HC0 := Aside0.mk hc0
 clear hr0 hc0
 have HB := Aside0.mk (Below.refl w.heap.size w)
 have H : (slices_BinarySearchFunc_impl_Route_impl_Route_impl_Prefix.l0 k l0 (l0.length : Int) 0 (l0.length : Int) a1_0 a1_1) = some (r1, r2) := h
 clear h
 have H' := Aside0.mk H
 clear H
 go_enter Try.func53, Try.ntmps53
 go_wp2_with (first | ((with_reducible refine gate_dst (N := 4) rfl ?_); refine box_event ?hg (N := 4) ?hd (cs := #[.int .i64 a1_0, .int .i64 a1_1]) (t := 34) ?hr ?_; (case hd => rfl); (case hg => rfl); (case hr => first | (go_simp; done) | (go_simp; rfl)); intro gb239 hg w4 hbox hb; have BK239 := Aside0.mk hbox; have GW239 := ge_ HB hg; have GE239 := ge_ HB hg; replace HB := Aside0.mk (bt_ HB hb); clear hb hbox hg))
 go_loopg [9, 10] k (fun kq v9 v10 w' => ∃ (x9_1 : Int) (x10_1 : Int), v9 = .int .i64 x9_1 ∧ v10 = .int .i64 x10_1 ∧ Aside0 (slices_BinarySearchFunc_impl_Route_impl_Route_impl_Prefix.l0 kq l0 (l0.length : Int) x9_1 x10_1 a1_0 a1_1 = some (r1, r2)) ∧ Aside0 (kq ≤ k) ∧ Aside0 (w'.heap[gb239]? = some (.cells #[.int .i64 a1_0, .int .i64 a1_1] 34 (0, 0))) ∧ Aside0 (Below w.heap.size w w'))
 case atStart => exact ⟨(0), ((l0.length : Int)), (by first | rfl | (simp; done) | (simp [*]; done)), (by first | rfl | (simp; done) | (simp [*]; done)), H', ⟨Nat.le_refl _⟩, ⟨by (with_reducible repeat (first | refine blk_drewN ?_ _ | refine blk_drew ?_ | refine blk_alloc ?_ _)); exact BK239.out⟩, ⟨by repeat (first | (with_reducible first | exact HB.out | apply below_alloc | apply pw_below_drewN | apply below_drew1 | refine below_set ?_ GE239.out) | exact HB.out)⟩⟩
 case round =>
  clear H'
  try clear p2
  obtain ⟨x9_1, x10_1, rfl, rfl, HA, HK1, BK239, HB⟩ := hrel
  cases gk with
  | zero => exact absurd HA.out (by simp [slices_BinarySearchFunc_impl_Route_impl_Route_impl_Prefix.l0])
  | succ k1 =>
   have H := HA.out
   clear HA
   simp only [slices_BinarySearchFunc_impl_Route_impl_Route_impl_Prefix.l0] at H
   by_cases c5 : x9_1 < x10_1
   ·rw [if_pos c5] at H
    have c5b0 : decide (x9_1 < x10_1) = true := decide_eq_true c5
    clear c5
    obtain ⟨ji6, hji6⟩ : ∃ j_ : Int, (wrap64 ((IntKind.u64.wrap (wrap64 (x9_1 + x10_1))) / 2)) = j_ := ⟨_, rfl⟩
    first | rw [hji6] at H | simp only [hji6] at H
    have hji6w : (IntKind.i64.wrap ((IntKind.u64.wrap (wrap64 (x9_1 + x10_1))) / 2)) = ji6 := (i64_w _).trans hji6
    by_cases c7 : 0 ≤ (ji6)
    ·rw [if_pos c7] at H
     have c7b0 : decide (0 ≤ (ji6)) = true := decide_eq_true c7
     clear c7
     by_cases c8 : (ji6) < (l0.length : Int)
     ·rw [if_pos c8] at H
      have c8b0 : decide ((ji6) < (l0.length : Int)) = true := decide_eq_true c8
      clear c8
      replace H := Option.bind_eq_some_iff.mp H
      obtain ⟨t241, A90, H⟩ := H
      have A9 := Aside0.mk A90
      clear A90
      by_cases c10 : t241 < 0
      ·rw [if_pos c10] at H
       have c10b0 : decide (t241 < 0) = true := decide_eq_true c10
       clear c10
       have H' := Aside0.mk H
       clear H
       try go_wp2
       replace BK239 := Aside0.mk (blk_drew BK239.out)
       replace HB := Aside0.mk (below_drew1 HB.out)
       have p240 : 0 ≤ ((ji6) : Int) := of_decide_eq_true (by first | (with_reducible assumption) | assumption)
       have q240 : (ji6) < (l0.length : Int) := of_decide_eq_true (by first | (with_reducible assumption) | assumption)
       obtain ⟨ad240, e240, hx240_0, hx240_1, hx240_2⟩ := at_T43 HR0.out (ji6) p240 q240
       have hw240_2 := hx240_2
       have hw240_1 := hx240_1
       have hw240_0 := hx240_0
       cases e240
       replace hx240_0 := (HB.out.cell (World.block_lt_of_cell? w _ hx240_0)).trans hx240_0
       replace hx240_1 := (HB.out.cell (World.block_lt_of_cell? w _ hx240_1)).trans hx240_1
       replace hx240_2 := (HB.out.cell (World.block_lt_of_cell? w _ hx240_2)).trans hx240_2
       replace p240 := eq_true p240
       replace q240 := eq_true q240
       refine start_ (n := 8) (S := fun w' => w'.cell? ⟨gb239, 0, none⟩ = some (.int .i64 a1_0) ∧ w'.cell? ⟨gb239, 1, none⟩ = some (.int .i64 a1_1) ∧ w'.cell? (ad240.add (((ji6)).toNat * 3)) = some (.int .i64 ((rd_T43 l0 (ji6)).f0.f0)) ∧ w'.cell? ⟨(ad240.add (((ji6)).toNat * 3)).block, (ad240.add (((ji6)).toNat * 3)).off + 1, none⟩ = some (.int .i64 ((rd_T43 l0 (ji6)).f0.f1)) ∧ w'.cell? ⟨(ad240.add (((ji6)).toNat * 3)).block, (ad240.add (((ji6)).toNat * 3)).off + 2, none⟩ = some (.int .i64 ((rd_T43 l0 (ji6)).f1))) (ds := []) ba10_0 (by kernel_rfl) rfl rfl ⟨(blk_cell BK239.out 0).trans rfl, (blk_cell BK239.out 1).trans rfl, (hc_ HB hw240_0), (hc_ HB hw240_1), (hc_ HB hw240_2)⟩ (fun hHeld => ?_); refine with_tabW slices_BinarySearchFunc_impl_Route_impl_Route_impl_Prefix.tab5 slices_BinarySearchFunc_impl_Route_impl_Route_impl_Prefix.bits5 (fun HT_ HW_ => ?_)
       generalize wr.drew = w11 at BK239 HB hx240_0 hx240_1 hx240_2 hHeld ⊢
       refine pz_ 0 24 ba10_1 HT_ ?_
       refine pz_ 1 25 ba10_2 HT_ ?_
       refine pz_ 2 26 ba10_3 HT_ ?_
       refine pz_ 3 27 ba10_4 HT_ ?_
       refine pt_ 4 28 ba10_5 HT_ HW_ hHeld ?_
       refine pt_ 5 29 ba10_6 HT_ HW_ hHeld ?_
       refine one_ (i := 6) (N := some 30) ba10_7 rfl rfl (one_of HT_.out (by kernel_rfl)) (by decide) (fun K hK => ?_)
       refine goesU_ Try.func54 (by kernel_rfl) rfl #[.agg #[.int .i64 ((rd_T43 l0 (ji6)).f0.f0), .int .i64 ((rd_T43 l0 (ji6)).f0.f1), .int .i64 ((rd_T43 l0 (ji6)).f1)], .agg #[.int .i64 a1_0, .int .i64 a1_1]] (by rfl) rfl rfl (by (try simp only [List.map_toArray, List.map_cons, List.map_nil]); first | done | (simp only [hji6]; rfl) | rfl | (simp only [List.length_drop, List.length_take]; rfl)) ?_
       with_reducible refine (impl_findRoute_1.calls ((rd_T43 l0 (ji6)).f0.f0) ((rd_T43 l0 (ji6)).f0.f1) ((rd_T43 l0 (ji6)).f1) a1_0 a1_1 t241 _ A9.out).mono ?_
       rintro e w12 ⟨rfl, hb⟩
       refine ⟨_, rfl, ?_⟩
       replace BK239 := Aside0.mk (bb_ BK239 hb)
       replace HB := Aside0.mk (bt_ HB hb)
       (try clear hb)
       (try clear hb2)
       (try clear hk)
       (try clear hi)
       refine hK.out _ _ ⟨(blk_cell BK239.out 0).trans rfl, (blk_cell BK239.out 1).trans rfl, (hc_ HB hw240_0), (hc_ HB hw240_1), (hc_ HB hw240_2)⟩ (fun hHeld => ?_)
       clear hK K
       refine nz_ 30 ?_
       refine pz_ 7 31 ba10_8 HT_ ?_
       refine done_ (done_of HT_.out (by kernel_rfl)) ?_
       try go_wp2
       go_roundg k1
       case measure => have := HK1.out; omega
       case rel => exact ⟨(wrap64 ((ji6) + 1)), (x10_1), (by first | rfl | (simp; done) | (simp only [← hji6] <;> (first | rfl | simp)) | (simp [*]; done)), (by first | rfl | (simp; done) | (simp [*]; done)), H', ⟨by have := HK1.out; omega⟩, ⟨by (with_reducible repeat (first | refine blk_drewN ?_ _ | refine blk_drew ?_ | refine blk_alloc ?_ _)); exact BK239.out⟩, ⟨by repeat (first | (with_reducible first | exact HB.out | apply below_alloc | apply pw_below_drewN | apply below_drew1 | refine below_set ?_ GE239.out) | exact HB.out)⟩⟩
      ·rw [if_neg c10] at H
       have c10b0 : decide (t241 < 0) = false := decide_eq_false c10
       clear c10
       have H' := Aside0.mk H
       clear H
       try go_wp2
       replace BK239 := Aside0.mk (blk_drew BK239.out)
       replace HB := Aside0.mk (below_drew1 HB.out)
       have p240 : 0 ≤ ((ji6) : Int) := of_decide_eq_true (by first | (with_reducible assumption) | assumption)
       have q240 : (ji6) < (l0.length : Int) := of_decide_eq_true (by first | (with_reducible assumption) | assumption)
       obtain ⟨ad240, e240, hx240_0, hx240_1, hx240_2⟩ := at_T43 HR0.out (ji6) p240 q240
       have hw240_2 := hx240_2
       have hw240_1 := hx240_1
       have hw240_0 := hx240_0
       cases e240
       replace hx240_0 := (HB.out.cell (World.block_lt_of_cell? w _ hx240_0)).trans hx240_0
       replace hx240_1 := (HB.out.cell (World.block_lt_of_cell? w _ hx240_1)).trans hx240_1
       replace hx240_2 := (HB.out.cell (World.block_lt_of_cell? w _ hx240_2)).trans hx240_2
       replace p240 := eq_true p240
       replace q240 := eq_true q240
       refine start_ (n := 8) (S := fun w' => w'.cell? ⟨gb239, 0, none⟩ = some (.int .i64 a1_0) ∧ w'.cell? ⟨gb239, 1, none⟩ = some (.int .i64 a1_1) ∧ w'.cell? (ad240.add (((ji6)).toNat * 3)) = some (.int .i64 ((rd_T43 l0 (ji6)).f0.f0)) ∧ w'.cell? ⟨(ad240.add (((ji6)).toNat * 3)).block, (ad240.add (((ji6)).toNat * 3)).off + 1, none⟩ = some (.int .i64 ((rd_T43 l0 (ji6)).f0.f1)) ∧ w'.cell? ⟨(ad240.add (((ji6)).toNat * 3)).block, (ad240.add (((ji6)).toNat * 3)).off + 2, none⟩ = some (.int .i64 ((rd_T43 l0 (ji6)).f1))) (ds := []) ba10_0 (by kernel_rfl) rfl rfl ⟨(blk_cell BK239.out 0).trans rfl, (blk_cell BK239.out 1).trans rfl, (hc_ HB hw240_0), (hc_ HB hw240_1), (hc_ HB hw240_2)⟩ (fun hHeld => ?_); refine with_tabW slices_BinarySearchFunc_impl_Route_impl_Route_impl_Prefix.tab5 slices_BinarySearchFunc_impl_Route_impl_Route_impl_Prefix.bits5 (fun HT_ HW_ => ?_)
       generalize wr.drew = w13 at BK239 HB hx240_0 hx240_1 hx240_2 hHeld ⊢
       refine pz_ 0 24 ba10_1 HT_ ?_
       refine pz_ 1 25 ba10_2 HT_ ?_
       refine pz_ 2 26 ba10_3 HT_ ?_
       refine pz_ 3 27 ba10_4 HT_ ?_
       refine pt_ 4 28 ba10_5 HT_ HW_ hHeld ?_
       refine pt_ 5 29 ba10_6 HT_ HW_ hHeld ?_
       refine one_ (i := 6) (N := some 30) ba10_7 rfl rfl (one_of HT_.out (by kernel_rfl)) (by decide) (fun K hK => ?_)
       refine goesU_ Try.func54 (by kernel_rfl) rfl #[.agg #[.int .i64 ((rd_T43 l0 (ji6)).f0.f0), .int .i64 ((rd_T43 l0 (ji6)).f0.f1), .int .i64 ((rd_T43 l0 (ji6)).f1)], .agg #[.int .i64 a1_0, .int .i64 a1_1]] (by rfl) rfl rfl (by (try simp only [List.map_toArray, List.map_cons, List.map_nil]); first | done | (simp only [hji6]; rfl) | rfl | (simp only [List.length_drop, List.length_take]; rfl)) ?_
       with_reducible refine (impl_findRoute_1.calls ((rd_T43 l0 (ji6)).f0.f0) ((rd_T43 l0 (ji6)).f0.f1) ((rd_T43 l0 (ji6)).f1) a1_0 a1_1 t241 _ A9.out).mono ?_
       rintro e w14 ⟨rfl, hb⟩
       refine ⟨_, rfl, ?_⟩
       replace BK239 := Aside0.mk (bb_ BK239 hb)
       replace HB := Aside0.mk (bt_ HB hb)
       (try clear hb)
       (try clear hb2)
       (try clear hk)
       (try clear hi)
       refine hK.out _ _ ⟨(blk_cell BK239.out 0).trans rfl, (blk_cell BK239.out 1).trans rfl, (hc_ HB hw240_0), (hc_ HB hw240_1), (hc_ HB hw240_2)⟩ (fun hHeld => ?_)
       clear hK K
       refine nz_ 30 ?_
       refine pz_ 7 31 ba10_8 HT_ ?_
       refine done_ (done_of HT_.out (by kernel_rfl)) ?_
       try go_wp2
       go_roundg k1
       case measure => have := HK1.out; omega
       case rel => exact ⟨(x9_1), (ji6), (by first | rfl | (simp; done) | (simp [*]; done)), (by first | rfl | (simp; done) | (simp only [← hji6] <;> (first | rfl | simp)) | (simp [*]; done)), H', ⟨by have := HK1.out; omega⟩, ⟨by (with_reducible repeat (first | refine blk_drewN ?_ _ | refine blk_drew ?_ | refine blk_alloc ?_ _)); exact BK239.out⟩, ⟨by repeat (first | (with_reducible first | exact HB.out | apply below_alloc | apply pw_below_drewN | apply below_drew1 | refine below_set ?_ GE239.out) | exact HB.out)⟩⟩
     ·rw [if_neg c8] at H
      exact absurd H (by simp)
    ·rw [if_neg c7] at H
     exact absurd H (by simp)
   ·rw [if_neg c5] at H
    have c5b0 : decide (x9_1 < x10_1) = false := decide_eq_false c5
    clear c5
    by_cases c15 : x9_1 < (l0.length : Int)
    ·rw [if_pos c15] at H
     have c15b0 : decide (x9_1 < (l0.length : Int)) = true := decide_eq_true c15
     clear c15
     by_cases c16 : 0 ≤ x9_1
     ·rw [if_pos c16] at H
      have c16b0 : decide (0 ≤ x9_1) = true := decide_eq_true c16
      clear c16
      by_cases c17 : x9_1 < (l0.length : Int)
      ·rw [if_pos c17] at H
       have c17b0 : decide (x9_1 < (l0.length : Int)) = true := decide_eq_true c17
       clear c17
       replace H := Option.bind_eq_some_iff.mp H
       obtain ⟨t243, A180, H⟩ := H
       have A18 := Aside0.mk A180
       clear A180
       simp only [Option.some.injEq, Prod.mk.injEq] at H
       obtain ⟨rfl, rfl⟩ := H
       try go_wp2
       replace BK239 := Aside0.mk (blk_drew BK239.out)
       replace HB := Aside0.mk (below_drew1 HB.out)
       have p242 : 0 ≤ (x9_1 : Int) := of_decide_eq_true (by first | (with_reducible assumption) | assumption)
       have q242 : x9_1 < (l0.length : Int) := of_decide_eq_true (by first | (with_reducible assumption) | assumption)
       obtain ⟨ad242, e242, hx242_0, hx242_1, hx242_2⟩ := at_T43 HR0.out x9_1 p242 q242
       have hw242_2 := hx242_2
       have hw242_1 := hx242_1
       have hw242_0 := hx242_0
       cases e242
       replace hx242_0 := (HB.out.cell (World.block_lt_of_cell? w _ hx242_0)).trans hx242_0
       replace hx242_1 := (HB.out.cell (World.block_lt_of_cell? w _ hx242_1)).trans hx242_1
       replace hx242_2 := (HB.out.cell (World.block_lt_of_cell? w _ hx242_2)).trans hx242_2
       replace p242 := eq_true p242
       replace q242 := eq_true q242
       refine start_ (n := 16) (S := fun w' => w'.cell? ⟨gb239, 0, none⟩ = some (.int .i64 a1_0) ∧ w'.cell? ⟨gb239, 1, none⟩ = some (.int .i64 a1_1) ∧ w'.cell? (ad242.add ((x9_1).toNat * 3)) = some (.int .i64 ((rd_T43 l0 x9_1).f0.f0)) ∧ w'.cell? ⟨(ad242.add ((x9_1).toNat * 3)).block, (ad242.add ((x9_1).toNat * 3)).off + 1, none⟩ = some (.int .i64 ((rd_T43 l0 x9_1).f0.f1)) ∧ w'.cell? ⟨(ad242.add ((x9_1).toNat * 3)).block, (ad242.add ((x9_1).toNat * 3)).off + 2, none⟩ = some (.int .i64 ((rd_T43 l0 x9_1).f1))) (ds := []) ba10_9 (by kernel_rfl) rfl rfl ⟨(blk_cell BK239.out 0).trans rfl, (blk_cell BK239.out 1).trans rfl, (hc_ HB hw242_0), (hc_ HB hw242_1), (hc_ HB hw242_2)⟩ (fun hHeld => ?_); refine with_tabW slices_BinarySearchFunc_impl_Route_impl_Route_impl_Prefix.tab8 slices_BinarySearchFunc_impl_Route_impl_Route_impl_Prefix.bits8 (fun HT_ HW_ => ?_)
       generalize wr.drew = w19 at BK239 HB hx242_0 hx242_1 hx242_2 hHeld ⊢
       refine pz_ 0 35 ba10_10 HT_ ?_
       refine pz_ 1 36 ba10_11 HT_ ?_
       refine pz_ 2 37 ba10_12 HT_ ?_
       refine pz_ 3 38 ba10_13 HT_ ?_
       refine pz_ 4 39 ba10_14 HT_ ?_
       refine pz_ 5 40 ba10_15 HT_ ?_
       refine pz_ 6 41 ba10_16 HT_ ?_
       refine pz_ 7 42 ba10_17 HT_ ?_
       refine pz_ 8 43 ba10_18 HT_ ?_
       refine pt_ 9 44 ba10_19 HT_ HW_ hHeld ?_
       refine pt_ 10 45 ba10_20 HT_ HW_ hHeld ?_
       refine one_ (i := 11) (N := some 46) ba10_21 rfl rfl (one_of HT_.out (by kernel_rfl)) (by decide) (fun K hK => ?_)
       refine goesU_ Try.func54 (by kernel_rfl) rfl #[.agg #[.int .i64 ((rd_T43 l0 x9_1).f0.f0), .int .i64 ((rd_T43 l0 x9_1).f0.f1), .int .i64 ((rd_T43 l0 x9_1).f1)], .agg #[.int .i64 a1_0, .int .i64 a1_1]] (by rfl) rfl rfl (by (try simp only [List.map_toArray, List.map_cons, List.map_nil]); first | done | rfl | (simp only [List.length_drop, List.length_take]; rfl)) ?_
       with_reducible refine (impl_findRoute_1.calls ((rd_T43 l0 x9_1).f0.f0) ((rd_T43 l0 x9_1).f0.f1) ((rd_T43 l0 x9_1).f1) a1_0 a1_1 t243 _ A18.out).mono ?_
       rintro e w20 ⟨rfl, hb⟩
       refine ⟨_, rfl, ?_⟩
       replace BK239 := Aside0.mk (bb_ BK239 hb)
       replace HB := Aside0.mk (bt_ HB hb)
       (try clear hb)
       (try clear hb2)
       (try clear hk)
       (try clear hi)
       refine hK.out _ _ ⟨(blk_cell BK239.out 0).trans rfl, (blk_cell BK239.out 1).trans rfl, (hc_ HB hw242_0), (hc_ HB hw242_1), (hc_ HB hw242_2)⟩ (fun hHeld => ?_)
       clear hK K
       refine nz_ 46 ?_
       refine pz_ 12 47 ba10_22 HT_ ?_
       refine pz_ 13 48 ba10_23 HT_ ?_
       refine pz_ 14 6 ba10_24 HT_ ?_
       refine pz_ 15 7 ba10_25 HT_ ?_
       refine done_ (done_of HT_.out (by kernel_rfl)) ?_
       try go_wp2
       go_ret2
       exact ⟨by first | rfl | (simp [errW_none, errW_some] <;> rfl) | (simp [*, errW_none, errW_some] <;> rfl), by repeat (first | (with_reducible first | exact HB.out | apply below_alloc | apply pw_below_drewN | apply below_drew1 | refine below_set ?_ GE239.out) | exact HB.out)⟩
      ·rw [if_neg c17] at H
       exact absurd H (by simp)
     ·rw [if_neg c16] at H
      exact absurd H (by simp)
    ·rw [if_neg c15] at H
     have c15b0 : decide (x9_1 < (l0.length : Int)) = false := decide_eq_false c15
     clear c15
     simp only [Option.some.injEq, Prod.mk.injEq] at H
     obtain ⟨rfl, rfl⟩ := H
     try go_wp2
     replace BK239 := Aside0.mk (blk_drew BK239.out)
     replace HB := Aside0.mk (below_drew1 HB.out)
     refine start_ (n := 16) (S := fun w' => True) (ds := []) ba10_9 (by kernel_rfl) rfl rfl trivial (fun hHeld => ?_); refine with_tabW slices_BinarySearchFunc_impl_Route_impl_Route_impl_Prefix.tab8 slices_BinarySearchFunc_impl_Route_impl_Route_impl_Prefix.bits8 (fun HT_ HW_ => ?_)
     generalize wr.drew = w21 at BK239 HB hHeld ⊢
     refine pz_ 0 35 ba10_10 HT_ ?_
     refine pz_ 1 36 ba10_11 HT_ ?_
     refine pz_ 2 37 ba10_12 HT_ ?_
     refine pz_ 3 38 ba10_13 HT_ ?_
     refine pz_ 4 39 ba10_14 HT_ ?_
     refine pu_ 5 40 ba10_15 HT_ ?_
     refine pu_ 6 41 ba10_16 HT_ ?_
     refine pu_ 7 42 ba10_17 HT_ ?_
     refine pu_ 8 43 ba10_18 HT_ ?_
     refine pu_ 9 44 ba10_19 HT_ ?_
     refine pu_ 10 45 ba10_20 HT_ ?_
     refine pu_ 11 46 ba10_21 HT_ ?_
     refine pu_ 12 47 ba10_22 HT_ ?_
     refine pz_ 13 48 ba10_23 HT_ ?_
     refine pz_ 14 6 ba10_24 HT_ ?_
     refine pz_ 15 7 ba10_25 HT_ ?_
     refine done_ (done_of HT_.out (by kernel_rfl)) ?_
     try go_wp2
     go_ret2
     exact ⟨by first | rfl | (simp [errW_none, errW_some] <;> rfl) | (simp [*, errW_none, errW_some] <;> rfl), by repeat (first | (with_reducible first | exact HB.out | apply below_alloc | apply pw_below_drewN | apply below_drew1 | refine below_set ?_ GE239.out) | exact HB.out)⟩

/-! ### impl_findRoute: function 32 -/
def impl_findRoute.f (k : Nat) (l0 : List (S43)) (a1_0 : Int) (a1_1 : Int) : Option (Int × Bool) := (slices_BinarySearchFunc_impl_Route_impl_Route_impl_Prefix.f k l0 a1_0 a1_1).bind fun bt245 => (some (bt245.1, bt245.2))
theorem impl_findRoute.mono : ∀ a0 a1 a2 k, LeO (impl_findRoute.f k a0 a1 a2) (impl_findRoute.f (k + 1) a0 a1 a2) := by
 intro a0 a1 a2 k
 unfold impl_findRoute.f
 repeat' first
   | (with_reducible exact slices_BinarySearchFunc_impl_Route_impl_Route_impl_Prefix.mono _ _ _ _)
   | (with_reducible exact LeO.refl _)
   | (with_reducible exact LeO.none _)
   | (with_reducible refine LeO.ite ?_ ?_)
   | (with_reducible refine LeO.bind ?_ (fun _ => ?_))
   | exact slices_BinarySearchFunc_impl_Route_impl_Route_impl_Prefix.mono _ _ _ _
   | exact LeO.none _
   | refine LeO.ite ?_ ?_
   | refine LeO.bind ?_ (fun _ => ?_)
set_option maxHeartbeats 8000000 in
set_option maxRecDepth 100000 in
theorem impl_findRoute.calls (k : Nat) (A0 : Option Addr) (c0 : Nat) (l0 : List (S43)) (a1_0 : Int) (a1_1 : Int) (r1 : Int) (r2 : Bool) (w : World) (hr0 : Kd.C k43 w A0 l0.length l0) (hc0 : l0.length ≤ c0) (h : impl_findRoute.f k l0 a1_0 a1_1 = some (r1, r2)) :
  Calls Try.prog 32 #[.slice A0 l0.length c0, .agg #[.int .i64 a1_0, .int .i64 a1_1]] w fun e w' => e = .returned (.tuple #[.int .i64 r1, .bool r2]) ∧ Below w.heap.size w w' := by
 have hu34 := Try.underlying34
 have HR0 := Aside0.mk hr0
 have HC0 := Aside0.mk hc0
 clear hr0 hc0
 have HB := Aside0.mk (Below.refl w.heap.size w)
 have H : ((slices_BinarySearchFunc_impl_Route_impl_Route_impl_Prefix.f k l0 a1_0 a1_1).bind fun bt245 => (some (bt245.1, bt245.2))) = some (r1, r2) := h
 clear h
 replace H := Option.bind_eq_some_iff.mp H
 obtain ⟨⟨t245, t246⟩, A30, H⟩ := H
 have A3 := Aside0.mk A30
 clear A30
 simp only [Option.some.injEq, Prod.mk.injEq] at H
 obtain ⟨rfl, rfl⟩ := H
 go_enter Try.func32, Try.ntmps32
 go_wp2_with (first | ((with_reducible refine gate_dst (N := 3) rfl ?_); refine box_event ?hg (N := 3) ?hd (cs := #[.int .i64 a1_0, .int .i64 a1_1]) (t := 34) ?hr ?_; (case hd => rfl); (case hg => rfl); (case hr => first | (go_simp; done) | (go_simp; rfl)); intro gb244 hg w4 hbox hb; have BK244 := Aside0.mk hbox; have GW244 := ge_ HB hg; have GE244 := ge_ HB hg; replace HB := Aside0.mk (bt_ HB hb); clear hb hbox hg; have hcz5_0 := cz_ BK244 0 (.int .i64 a1_0); have hcz5_1 := cz_ BK244 1 (.int .i64 a1_1); have hfz5_0 := blk_frozen BK244.out 0; have hfz5_1 := blk_frozen BK244.out 1) | ((with_reducible refine gate_callee (f := 53) rfl ?_); refine gl_ (some 8) Try.func53 #[.slice A0 l0.length c0, .agg #[.int .i64 a1_0, .int .i64 a1_1], .func (.func 54) #[] #[]] ?_; (with_reducible refine (slices_BinarySearchFunc_impl_Route_impl_Route_impl_Prefix.calls k _ _ l0 a1_0 a1_1  t245 t246 _ ?side1 ?side2 A3.out).mono ?_); (case side1 => exact cb_ HR0 HB); (case side2 => exact HC0.out); rintro e w6 ⟨rfl, hb⟩; refine ⟨_, rfl, ?_⟩; replace BK244 := Aside0.mk (bb_ BK244 hb); replace HB := Aside0.mk (bt_ HB hb); (try clear hb); (try clear hb2); (try clear hk); (try clear hi)))
 go_ret2
 exact ⟨by first | rfl | (simp [errW_none, errW_some] <;> rfl) | (simp [*, errW_none, errW_some] <;> rfl), by repeat (first | (with_reducible first | exact HB.out | apply below_alloc | apply pw_below_drewN | apply below_drew1 | refine below_set ?_ GE244.out) | exact HB.out)⟩

end Go.Proofs.Ytflfbaofgfandaa.QFnExactPutRoute
