/- Contracts of functions that the law reaches: what each call returns and what it leaves in memory. Made by this session over the print of the kit. -/
import Derived.Test.YtflfbaofgfandaaQFnExactDropRoutex0
import Derived.Test.YtflfbaofgfandaaQFnExactDropRoutex5
namespace Go.Proofs.Ytflfbaofgfandaa.QFnExactDropRoute
open Go.RowKit Go.Proofs.YtflfbaofgfandaaD.PrintWords Go.Proofs.YtflfbaofgfandaaD.PrintLast Go.Proofs.YtflfbaofgfandaaD.PrintMore
attribute [local go_sem] max2_int min2_int max_two min_two max_three min_three max_four min_four   -- for this text's walks alone
set_option linter.unusedVariables false
set_option linter.unusedSimpArgs false
abbrev tb7 : Bool := true
abbrev fb7 : Bool := false
def ba7_0 : Array Bool := #[fb7,fb7,fb7,fb7,fb7,fb7,fb7,fb7]
def ba7_1 : Array Bool := #[tb7,fb7,fb7,fb7,fb7,fb7,fb7,fb7]
def ba7_2 : Array Bool := #[tb7,tb7,fb7,fb7,fb7,fb7,fb7,fb7]
def ba7_3 : Array Bool := #[tb7,tb7,tb7,fb7,fb7,fb7,fb7,fb7]
def ba7_4 : Array Bool := #[tb7,tb7,tb7,tb7,fb7,fb7,fb7,fb7]
def ba7_5 : Array Bool := #[tb7,tb7,tb7,tb7,tb7,fb7,fb7,fb7]
def ba7_6 : Array Bool := #[tb7,tb7,tb7,tb7,tb7,tb7,fb7,fb7]
def ba7_7 : Array Bool := #[tb7,tb7,tb7,tb7,tb7,tb7,tb7,fb7]
def ba7_8 : Array Bool := #[tb7,tb7,tb7,tb7,tb7,tb7,tb7,tb7]
def ba7_9 : Array Bool := #[fb7,fb7,fb7,fb7,fb7,fb7,fb7,fb7,fb7,fb7,fb7,fb7,fb7,fb7,fb7,fb7]
def ba7_10 : Array Bool := #[tb7,fb7,fb7,fb7,fb7,fb7,fb7,fb7,fb7,fb7,fb7,fb7,fb7,fb7,fb7,fb7]
def ba7_11 : Array Bool := #[tb7,tb7,fb7,fb7,fb7,fb7,fb7,fb7,fb7,fb7,fb7,fb7,fb7,fb7,fb7,fb7]
def ba7_12 : Array Bool := #[tb7,tb7,tb7,fb7,fb7,fb7,fb7,fb7,fb7,fb7,fb7,fb7,fb7,fb7,fb7,fb7]
def ba7_13 : Array Bool := #[tb7,tb7,tb7,tb7,fb7,fb7,fb7,fb7,fb7,fb7,fb7,fb7,fb7,fb7,fb7,fb7]
def ba7_14 : Array Bool := #[tb7,tb7,tb7,tb7,tb7,fb7,fb7,fb7,fb7,fb7,fb7,fb7,fb7,fb7,fb7,fb7]
def ba7_15 : Array Bool := #[tb7,tb7,tb7,tb7,tb7,tb7,fb7,fb7,fb7,fb7,fb7,fb7,fb7,fb7,fb7,fb7]
def ba7_16 : Array Bool := #[tb7,tb7,tb7,tb7,tb7,tb7,tb7,fb7,fb7,fb7,fb7,fb7,fb7,fb7,fb7,fb7]
def ba7_17 : Array Bool := #[tb7,tb7,tb7,tb7,tb7,tb7,tb7,tb7,fb7,fb7,fb7,fb7,fb7,fb7,fb7,fb7]
def ba7_18 : Array Bool := #[tb7,tb7,tb7,tb7,tb7,tb7,tb7,tb7,tb7,fb7,fb7,fb7,fb7,fb7,fb7,fb7]
def ba7_19 : Array Bool := #[tb7,tb7,tb7,tb7,tb7,tb7,tb7,tb7,tb7,tb7,fb7,fb7,fb7,fb7,fb7,fb7]
def ba7_20 : Array Bool := #[tb7,tb7,tb7,tb7,tb7,tb7,tb7,tb7,tb7,tb7,tb7,fb7,fb7,fb7,fb7,fb7]
def ba7_21 : Array Bool := #[tb7,tb7,tb7,tb7,tb7,tb7,tb7,tb7,tb7,tb7,tb7,tb7,fb7,fb7,fb7,fb7]
def ba7_22 : Array Bool := #[tb7,tb7,tb7,tb7,tb7,tb7,tb7,tb7,tb7,tb7,tb7,tb7,tb7,fb7,fb7,fb7]
def ba7_23 : Array Bool := #[tb7,tb7,tb7,tb7,tb7,tb7,tb7,tb7,tb7,tb7,tb7,tb7,tb7,tb7,fb7,fb7]
def ba7_24 : Array Bool := #[tb7,tb7,tb7,tb7,tb7,tb7,tb7,tb7,tb7,tb7,tb7,tb7,tb7,tb7,tb7,fb7]
def ba7_25 : Array Bool := #[tb7,tb7,tb7,tb7,tb7,tb7,tb7,tb7,tb7,tb7,tb7,tb7,tb7,tb7,tb7,tb7]

/-! ### impl_findRoute_1: function 54 -/
def impl_findRoute_1.f (a0_0 : Int) (a0_1 : Int) (a0_2 : Int) (a1_0 : Int) (a1_1 : Int) : Option (Int) := (impl_comparePrefixes.f a0_0 a0_1 a1_0 a1_1).bind fun t194 => (some t194)
set_option maxHeartbeats 8000000 in
set_option maxRecDepth 100000 in
theorem impl_findRoute_1.calls (a0_0 : Int) (a0_1 : Int) (a0_2 : Int) (a1_0 : Int) (a1_1 : Int) (r : Int) (w : World) (h : impl_findRoute_1.f a0_0 a0_1 a0_2 a1_0 a1_1 = some r) :
  Calls Try.prog 54 #[.agg #[.int .i64 a0_0, .int .i64 a0_1, .int .i64 a0_2], .agg #[.int .i64 a1_0, .int .i64 a1_1]] w fun e w' => e = .returned (.int .i64 r) ∧ Below w.heap.size w w' := by
 have hu43 := Try.underlying43
 have hu34 := Try.underlying34
 have HB := Aside0.mk (Below.refl w.heap.size w)
 have H : ((impl_comparePrefixes.f a0_0 a0_1 a1_0 a1_1).bind fun t194 => (some t194)) = some r := h
 clear h
 replace H := Option.bind_eq_some_iff.mp H
 obtain ⟨t194, A30, H⟩ := H
 have A3 := Aside0.mk A30
 clear A30
 obtain rfl := Option.some.inj H
 go_enter Try.func54, Try.ntmps54
 go_wp2_with (first | ((with_reducible refine gate_dst (N := 2) rfl ?_); refine box_event ?hg (N := 2) ?hd (cs := #[.int .i64 a0_0, .int .i64 a0_1, .int .i64 a0_2]) (t := 43) ?hr ?_; (case hd => rfl); (case hg => rfl); (case hr => first | (go_simp; done) | (go_simp; rfl)); intro gb192 hg w4 hbox hb; have BK192 := Aside0.mk hbox; have GW192 := ge_ HB hg; have GE192 := ge_ HB hg; replace HB := Aside0.mk (bt_ HB hb); clear hb hbox hg) | ((with_reducible refine gate_dst (N := 3) rfl ?_); refine box_event ?hg (N := 3) ?hd (cs := #[.int .i64 a1_0, .int .i64 a1_1]) (t := 34) ?hr ?_; (case hd => rfl); (case hg => rfl); (case hr => first | (go_simp; done) | (go_simp; rfl)); intro gb193 hg w5 hbox hb; have BK193 := Aside0.mk hbox; have GW193 := ge_ HB hg; have GE193 := ge_ HB hg; have NB192_193 := nl_ BK192 hg; have NB193_192 := ng_ BK192 hg; replace HB := Aside0.mk (bt_ HB hb); replace BK192 := Aside0.mk (bb_ BK192 hb); clear hb hbox hg; have hnb6 := NB192_193.out; have hnc6 := NB193_192.out; have hcz7_0 := cz_ BK192 0 (.int .i64 a0_0); have hcz7_1 := cz_ BK192 1 (.int .i64 a0_1); have hcz7_2 := cz_ BK192 2 (.int .i64 a0_2); have hfz7_0 := blk_frozen BK192.out 0; have hfz7_1 := blk_frozen BK192.out 1; have hfz7_2 := blk_frozen BK192.out 2; have hcz8_0 := cz_ BK193 0 (.int .i64 a1_0); have hcz8_1 := cz_ BK193 1 (.int .i64 a1_1); have hfz8_0 := blk_frozen BK193.out 0; have hfz8_1 := blk_frozen BK193.out 1) | ((with_reducible refine gate_callee (f := 52) rfl ?_); refine gl_ (some 8) Try.func52 #[.agg #[.int .i64 a0_0, .int .i64 a0_1], .agg #[.int .i64 a1_0, .int .i64 a1_1]] ?_; (with_reducible refine (impl_comparePrefixes.calls a0_0 a0_1 a1_0 a1_1 t194 _ A3.out).mono ?_); rintro e w9 ⟨rfl, hb⟩; refine ⟨_, rfl, ?_⟩; replace BK192 := Aside0.mk (bb_ BK192 hb); replace BK193 := Aside0.mk (bb_ BK193 hb); replace HB := Aside0.mk (bt_ HB hb); (try clear hb); (try clear hb2); (try clear hk); (try clear hi)))
 go_ret
 exact ⟨by first | rfl | (simp [errW_none, errW_some] <;> rfl) | (simp [*, errW_none, errW_some] <;> rfl), by repeat (first | (with_reducible first | exact HB.out | apply below_alloc | apply pw_below_drewN | apply below_drew1 | refine below_set ?_ GE192.out | refine below_set ?_ GE193.out) | exact HB.out)⟩

/-! ### slices_BinarySearchFunc_impl_Route_impl_Route_impl_Prefix: function 53 -/
def slices_BinarySearchFunc_impl_Route_impl_Route_impl_Prefix.l0 : Nat → List (S43) → Int → Int → Int → Int → Int → Option (Int × Bool)
 | 0, _, _, _, _, _, _ => none
 | k + 1, x0, x8, x9, x10, x196000, x196001 => if x9 < x10 then (if 0 ≤ (wrap64 ((IntKind.u64.wrap (wrap64 (x9 + x10))) / 2)) then (if (wrap64 ((IntKind.u64.wrap (wrap64 (x9 + x10))) / 2)) < (x0.length : Int) then ((impl_findRoute_1.f ((rd_T43 x0 (wrap64 ((IntKind.u64.wrap (wrap64 (x9 + x10))) / 2))).f0.f0) ((rd_T43 x0 (wrap64 ((IntKind.u64.wrap (wrap64 (x9 + x10))) / 2))).f0.f1) ((rd_T43 x0 (wrap64 ((IntKind.u64.wrap (wrap64 (x9 + x10))) / 2))).f1) x196000 x196001).bind fun t197 => (if t197 < 0 then (slices_BinarySearchFunc_impl_Route_impl_Route_impl_Prefix.l0 k x0 x8 (wrap64 ((wrap64 ((IntKind.u64.wrap (wrap64 (x9 + x10))) / 2)) + 1)) x10 x196000 x196001) else (slices_BinarySearchFunc_impl_Route_impl_Route_impl_Prefix.l0 k x0 x8 x9 (wrap64 ((IntKind.u64.wrap (wrap64 (x9 + x10))) / 2)) x196000 x196001))) else (none)) else (none)) else (if x9 < x8 then (if 0 ≤ x9 then (if x9 < (x0.length : Int) then ((impl_findRoute_1.f ((rd_T43 x0 x9).f0.f0) ((rd_T43 x0 x9).f0.f1) ((rd_T43 x0 x9).f1) x196000 x196001).bind fun t199 => (some (x9, (t199 == 0)))) else (none)) else (none)) else (some (x9, false)))
def slices_BinarySearchFunc_impl_Route_impl_Route_impl_Prefix.f (k : Nat) (l0 : List (S43)) (a1_0 : Int) (a1_1 : Int)  : Option (Int × Bool) := slices_BinarySearchFunc_impl_Route_impl_Route_impl_Prefix.l0 k l0 (l0.length : Int) 0 (l0.length : Int) a1_0 a1_1
theorem slices_BinarySearchFunc_impl_Route_impl_Route_impl_Prefix.mono_l : ∀ k, (∀ y0 y1 y2 y3 y4 y5, LeO (slices_BinarySearchFunc_impl_Route_impl_Route_impl_Prefix.l0 k y0 y1 y2 y3 y4 y5) (slices_BinarySearchFunc_impl_Route_impl_Route_impl_Prefix.l0 (k + 1) y0 y1 y2 y3 y4 y5))
 | 0 => fun _ _ _ _ _ _ r h => by simp [slices_BinarySearchFunc_impl_Route_impl_Route_impl_Prefix.l0] at h
 | k + 1 => by
  have ih0 := slices_BinarySearchFunc_impl_Route_impl_Route_impl_Prefix.mono_l k
  ·intro y0 y1 y2 y3 y4 y5
   unfold slices_BinarySearchFunc_impl_Route_impl_Route_impl_Prefix.l0
   repeat' first
   | (with_reducible exact ih0 _ _ _ _ _ _)
   | (with_reducible exact LeO.refl _)
   | (with_reducible exact LeO.none _)
   | (with_reducible refine LeO.ite ?_ ?_)
   | (with_reducible refine LeO.bind ?_ (fun _ => ?_))
   | exact ih0 _ _ _ _ _ _
   | exact LeO.none _
   | refine LeO.ite ?_ ?_
   | refine LeO.bind ?_ (fun _ => ?_)
theorem slices_BinarySearchFunc_impl_Route_impl_Route_impl_Prefix.mono : ∀ a0 a1 a2 k, LeO (slices_BinarySearchFunc_impl_Route_impl_Route_impl_Prefix.f k a0 a1 a2) (slices_BinarySearchFunc_impl_Route_impl_Route_impl_Prefix.f (k + 1) a0 a1 a2) := by
 intro a0 a1 a2 k
 have ih0 := slices_BinarySearchFunc_impl_Route_impl_Route_impl_Prefix.mono_l k
 unfold slices_BinarySearchFunc_impl_Route_impl_Route_impl_Prefix.f
 repeat' first
   | (with_reducible exact ih0 _ _ _ _ _ _)
   | (with_reducible exact LeO.refl _)
   | (with_reducible exact LeO.none _)
   | (with_reducible refine LeO.ite ?_ ?_)
   | (with_reducible refine LeO.bind ?_ (fun _ => ?_))
   | exact ih0 _ _ _ _ _ _
   | exact LeO.none _
   | refine LeO.ite ?_ ?_
   | refine LeO.bind ?_ (fun _ => ?_)
def slices_BinarySearchFunc_impl_Route_impl_Route_impl_Prefix.T5 : Bool × List (List Nat × List Nat) := (true, [([], []), ([], []), ([], []), ([1, 2], [1, 2]), ([3], [3]), ([], []), ([0, 4, 5], [0, 4, 5]), ([6], [6])])
def slices_BinarySearchFunc_impl_Route_impl_Route_impl_Prefix.B5 : List Nat := [0, 0, 0, 6, 14, 0, 63, 127]
theorem slices_BinarySearchFunc_impl_Route_impl_Route_impl_Prefix.tab5 : rtab .any (opsOf Try.f53 5) = slices_BinarySearchFunc_impl_Route_impl_Route_impl_Prefix.T5 := by kernel_rfl
theorem slices_BinarySearchFunc_impl_Route_impl_Route_impl_Prefix.bits5 : waitsOk slices_BinarySearchFunc_impl_Route_impl_Route_impl_Prefix.T5.2 slices_BinarySearchFunc_impl_Route_impl_Route_impl_Prefix.B5 = true := by kernel_rfl
def slices_BinarySearchFunc_impl_Route_impl_Route_impl_Prefix.T8 : Bool × List (List Nat × List Nat) := (true, [([], []), ([], []), ([], []), ([1, 2], [1, 2]), ([3], [3]), ([4], [4]), ([4], [4]), ([4], [4]), ([6, 7, 4], [4, 6, 7]), ([8, 4], [4, 8]), ([4], [4]), ([5, 9, 10, 4, 4], [4, 5, 9, 10]), ([11, 4], [4, 11]), ([4, 12], [4, 12]), ([0, 11, 0], [0]), ([13, 14, 0, 1, 2, 3, 4, 5, 6, 7, 8, 9, 10, 11, 12, 13, 14], [13])])
def slices_BinarySearchFunc_impl_Route_impl_Route_impl_Prefix.B8 : List Nat := [0, 0, 0, 6, 14, 30, 30, 30, 222, 478, 30, 2046, 4094, 8190, 4095, 32767]
theorem slices_BinarySearchFunc_impl_Route_impl_Route_impl_Prefix.tab8 : rtab .any (opsOf Try.f53 8) = slices_BinarySearchFunc_impl_Route_impl_Route_impl_Prefix.T8 := by kernel_rfl
theorem slices_BinarySearchFunc_impl_Route_impl_Route_impl_Prefix.bits8 : waitsOk slices_BinarySearchFunc_impl_Route_impl_Route_impl_Prefix.T8.2 slices_BinarySearchFunc_impl_Route_impl_Route_impl_Prefix.B8 = true := by kernel_rfl
set_option maxHeartbeats 8000000 in
set_option maxRecDepth 100000 in
theorem slices_BinarySearchFunc_impl_Route_impl_Route_impl_Prefix.calls (k : Nat) (A0 : Option Addr) (c0 : Nat) (l0 : List (S43)) (a1_0 : Int) (a1_1 : Int)  (r1 : Int) (r2 : Bool) (w : World) (hr0 : Kd.C k43 w A0 l0.length l0) (hc0 : l0.length ≤ c0) (h : slices_BinarySearchFunc_impl_Route_impl_Route_impl_Prefix.f k l0 a1_0 a1_1 = some (r1, r2)) :
  Calls Try.prog 53 #[.slice A0 l0.length c0, .agg #[.int .i64 a1_0, .int .i64 a1_1], .func (.func 54) #[] #[]] w fun e w' => e = .returned (.tuple #[.int .i64 r1, .bool r2]) ∧ Below w.heap.size w w' := by
 have hu34 := Try.underlying34
 have hu43 := Try.underlying43
 have HR0 := Aside0.mk hr0
 have HC0 := Aside0.mk hc0
 clear hr0 hc0
 have HB := Aside0.mk (Below.refl w.heap.size w)
 have H : (slices_BinarySearchFunc_impl_Route_impl_Route_impl_Prefix.l0 k l0 (l0.length : Int) 0 (l0.length : Int) a1_0 a1_1) = some (r1, r2) := h
 clear h
 have H' := Aside0.mk H
 clear H
 go_enter Try.func53, Try.ntmps53
 go_wp2_with (first | ((with_reducible refine gate_dst (N := 4) rfl ?_); refine box_event ?hg (N := 4) ?hd (cs := #[.int .i64 a1_0, .int .i64 a1_1]) (t := 34) ?hr ?_; (case hd => rfl); (case hg => rfl); (case hr => first | (go_simp; done) | (go_simp; rfl)); intro gb195 hg w4 hbox hb; have BK195 := Aside0.mk hbox; have GW195 := ge_ HB hg; have GE195 := ge_ HB hg; replace HB := Aside0.mk (bt_ HB hb); clear hb hbox hg))
 go_loopg [9, 10] k (fun kq v9 v10 w' => ∃ (x9_1 : Int) (x10_1 : Int), v9 = .int .i64 x9_1 ∧ v10 = .int .i64 x10_1 ∧ Aside0 (slices_BinarySearchFunc_impl_Route_impl_Route_impl_Prefix.l0 kq l0 (l0.length : Int) x9_1 x10_1 a1_0 a1_1 = some (r1, r2)) ∧ Aside0 (kq ≤ k) ∧ Aside0 (w'.heap[gb195]? = some (.cells #[.int .i64 a1_0, .int .i64 a1_1] 34 (0, 0))) ∧ Aside0 (Below w.heap.size w w'))
 case atStart => exact ⟨(0), ((l0.length : Int)), (by first | rfl | (simp; done) | (simp [*]; done)), (by first | rfl | (simp; done) | (simp [*]; done)), H', ⟨Nat.le_refl _⟩, ⟨by (with_reducible repeat (first | refine blk_drewN ?_ _ | refine blk_drew ?_ | refine blk_alloc ?_ _)); exact BK195.out⟩, ⟨by repeat (first | (with_reducible first | exact HB.out | apply below_alloc | apply pw_below_drewN | apply below_drew1 | refine below_set ?_ GE195.out) | exact HB.out)⟩⟩
 case round =>
  clear H'
  try clear p2
  obtain ⟨x9_1, x10_1, rfl, rfl, HA, HK1, BK195, HB⟩ := hrel
  cases gk with
  | zero => exact absurd HA.out (by simp [slices_BinarySearchFunc_impl_Route_impl_Route_impl_Prefix.l0])
  | succ k1 =>
   have H := HA.out
   clear HA
   simp only [slices_BinarySearchFunc_impl_Route_impl_Route_impl_Prefix.l0] at H
   by_cases c5 : x9_1 < x10_1
   rotate_left
   ·rw [if_neg c5] at H
    have c5b0 : decide (x9_1 < x10_1) = false := decide_eq_false c5
    clear c5
    by_cases c15 : x9_1 < (l0.length : Int)
    rotate_left
    ·rw [if_neg c15] at H
     have c15b0 : decide (x9_1 < (l0.length : Int)) = false := decide_eq_false c15
     clear c15
     simp only [Option.some.injEq, Prod.mk.injEq] at H
     obtain ⟨rfl, rfl⟩ := H
     try go_wp2
     replace BK195 := Aside0.mk (blk_drew BK195.out)
     replace HB := Aside0.mk (below_drew1 HB.out)
     refine start_ (n := 16) (S := fun w' => True) (ds := []) ba7_9 (by kernel_rfl) rfl rfl trivial (fun hHeld => ?_); refine with_tabW slices_BinarySearchFunc_impl_Route_impl_Route_impl_Prefix.tab8 slices_BinarySearchFunc_impl_Route_impl_Route_impl_Prefix.bits8 (fun HT_ HW_ => ?_)
     generalize wr.drew = w21 at BK195 HB hHeld ⊢
     refine pz_ 0 35 ba7_10 HT_ ?_
     refine pz_ 1 36 ba7_11 HT_ ?_
     refine pz_ 2 37 ba7_12 HT_ ?_
     refine pz_ 3 38 ba7_13 HT_ ?_
     refine pz_ 4 39 ba7_14 HT_ ?_
     refine pu_ 5 40 ba7_15 HT_ ?_
     refine pu_ 6 41 ba7_16 HT_ ?_
     refine pu_ 7 42 ba7_17 HT_ ?_
     refine pu_ 8 43 ba7_18 HT_ ?_
     refine pu_ 9 44 ba7_19 HT_ ?_
     refine pu_ 10 45 ba7_20 HT_ ?_
     refine pu_ 11 46 ba7_21 HT_ ?_
     refine pu_ 12 47 ba7_22 HT_ ?_
     refine pz_ 13 48 ba7_23 HT_ ?_
     refine pz_ 14 6 ba7_24 HT_ ?_
     refine pz_ 15 7 ba7_25 HT_ ?_
     refine done_ (done_of HT_.out (by kernel_rfl)) ?_
     try go_wp2
     go_ret2
     exact ⟨by first | rfl | (simp [errW_none, errW_some] <;> rfl) | (simp [*, errW_none, errW_some] <;> rfl), by repeat (first | (with_reducible first | exact HB.out | apply below_alloc | apply pw_below_drewN | apply below_drew1 | refine below_set ?_ GE195.out) | exact HB.out)⟩
    rw [if_pos c15] at H
    have c15b0 : decide (x9_1 < (l0.length : Int)) = true := decide_eq_true c15
    clear c15
    by_cases c16 : 0 ≤ x9_1
    rotate_left
    ·rw [if_neg c16] at H
     exact absurd H (by simp)
    rw [if_pos c16] at H
    have c16b0 : decide (0 ≤ x9_1) = true := decide_eq_true c16
    clear c16
    by_cases c17 : x9_1 < (l0.length : Int)
    rotate_left
    ·rw [if_neg c17] at H
     exact absurd H (by simp)
    rw [if_pos c17] at H
    have c17b0 : decide (x9_1 < (l0.length : Int)) = true := decide_eq_true c17
    clear c17
    replace H := Option.bind_eq_some_iff.mp H
    obtain ⟨t199, A180, H⟩ := H
    have A18 := Aside0.mk A180
    clear A180
    simp only [Option.some.injEq, Prod.mk.injEq] at H
    obtain ⟨rfl, rfl⟩ := H
    try go_wp2
    replace BK195 := Aside0.mk (blk_drew BK195.out)
    replace HB := Aside0.mk (below_drew1 HB.out)
    have p198 : 0 ≤ (x9_1 : Int) := of_decide_eq_true (by first | (with_reducible assumption) | assumption)
    have q198 : x9_1 < (l0.length : Int) := of_decide_eq_true (by first | (with_reducible assumption) | assumption)
    obtain ⟨ad198, e198, hx198_0, hx198_1, hx198_2⟩ := at_T43 HR0.out x9_1 p198 q198
    have hw198_2 := hx198_2
    have hw198_1 := hx198_1
    have hw198_0 := hx198_0
    cases e198
    replace hx198_0 := (HB.out.cell (World.block_lt_of_cell? w _ hx198_0)).trans hx198_0
    replace hx198_1 := (HB.out.cell (World.block_lt_of_cell? w _ hx198_1)).trans hx198_1
    replace hx198_2 := (HB.out.cell (World.block_lt_of_cell? w _ hx198_2)).trans hx198_2
    replace p198 := eq_true p198
    replace q198 := eq_true q198
    refine start_ (n := 16) (S := fun w' => w'.cell? ⟨gb195, 0, none⟩ = some (.int .i64 a1_0) ∧ w'.cell? ⟨gb195, 1, none⟩ = some (.int .i64 a1_1) ∧ w'.cell? (ad198.add ((x9_1).toNat * 3)) = some (.int .i64 ((rd_T43 l0 x9_1).f0.f0)) ∧ w'.cell? ⟨(ad198.add ((x9_1).toNat * 3)).block, (ad198.add ((x9_1).toNat * 3)).off + 1, none⟩ = some (.int .i64 ((rd_T43 l0 x9_1).f0.f1)) ∧ w'.cell? ⟨(ad198.add ((x9_1).toNat * 3)).block, (ad198.add ((x9_1).toNat * 3)).off + 2, none⟩ = some (.int .i64 ((rd_T43 l0 x9_1).f1))) (ds := []) ba7_9 (by kernel_rfl) rfl rfl ⟨(blk_cell BK195.out 0).trans rfl, (blk_cell BK195.out 1).trans rfl, (hc_ HB hw198_0), (hc_ HB hw198_1), (hc_ HB hw198_2)⟩ (fun hHeld => ?_); refine with_tabW slices_BinarySearchFunc_impl_Route_impl_Route_impl_Prefix.tab8 slices_BinarySearchFunc_impl_Route_impl_Route_impl_Prefix.bits8 (fun HT_ HW_ => ?_)
    generalize wr.drew = w19 at BK195 HB hx198_0 hx198_1 hx198_2 hHeld ⊢
    refine pz_ 0 35 ba7_10 HT_ ?_
    refine pz_ 1 36 ba7_11 HT_ ?_
    refine pz_ 2 37 ba7_12 HT_ ?_
    refine pz_ 3 38 ba7_13 HT_ ?_
    refine pz_ 4 39 ba7_14 HT_ ?_
    refine pz_ 5 40 ba7_15 HT_ ?_
    refine pz_ 6 41 ba7_16 HT_ ?_
    refine pz_ 7 42 ba7_17 HT_ ?_
    refine pz_ 8 43 ba7_18 HT_ ?_
    refine pt_ 9 44 ba7_19 HT_ HW_ hHeld ?_
    refine pt_ 10 45 ba7_20 HT_ HW_ hHeld ?_
    refine one_ (i := 11) (N := some 46) ba7_21 rfl rfl (one_of HT_.out (by kernel_rfl)) (by decide) (fun K hK => ?_)
    refine goesU_ Try.func54 (by kernel_rfl) rfl #[.agg #[.int .i64 ((rd_T43 l0 x9_1).f0.f0), .int .i64 ((rd_T43 l0 x9_1).f0.f1), .int .i64 ((rd_T43 l0 x9_1).f1)], .agg #[.int .i64 a1_0, .int .i64 a1_1]] (by rfl) rfl rfl (by (try simp only [List.map_toArray, List.map_cons, List.map_nil]); first | done | rfl | (simp only [List.length_drop, List.length_take]; rfl)) ?_
    with_reducible refine (impl_findRoute_1.calls ((rd_T43 l0 x9_1).f0.f0) ((rd_T43 l0 x9_1).f0.f1) ((rd_T43 l0 x9_1).f1) a1_0 a1_1 t199 _ A18.out).mono ?_
    rintro e w20 ⟨rfl, hb⟩
    refine ⟨_, rfl, ?_⟩
    replace BK195 := Aside0.mk (bb_ BK195 hb)
    replace HB := Aside0.mk (bt_ HB hb)
    (try clear hb)
    (try clear hb2)
    (try clear hk)
    (try clear hi)
    refine hK.out _ _ ⟨(blk_cell BK195.out 0).trans rfl, (blk_cell BK195.out 1).trans rfl, (hc_ HB hw198_0), (hc_ HB hw198_1), (hc_ HB hw198_2)⟩ (fun hHeld => ?_)
    clear hK K
    refine nz_ 46 ?_
    refine pz_ 12 47 ba7_22 HT_ ?_
    refine pz_ 13 48 ba7_23 HT_ ?_
    refine pz_ 14 6 ba7_24 HT_ ?_
    refine pz_ 15 7 ba7_25 HT_ ?_
    refine done_ (done_of HT_.out (by kernel_rfl)) ?_
    try go_wp2
    go_ret2
    exact ⟨by first | rfl | (simp [errW_none, errW_some] <;> rfl) | (simp [*, errW_none, errW_some] <;> rfl), by repeat (first | (with_reducible first | exact HB.out | apply below_alloc | apply pw_below_drewN | apply below_drew1 | refine below_set ?_ GE195.out) | exact HB.out)⟩
   rw [if_pos c5] at H
   have c5b0 : decide (x9_1 < x10_1) = true := decide_eq_true c5
   clear c5
   obtain ⟨ji6, hji6⟩ : ∃ j_ : Int, (wrap64 ((IntKind.u64.wrap (wrap64 (x9_1 + x10_1))) / 2)) = j_ := ⟨_, rfl⟩
   first | rw [hji6] at H | simp only [hji6] at H
   have hji6w : (IntKind.i64.wrap ((IntKind.u64.wrap (wrap64 (x9_1 + x10_1))) / 2)) = ji6 := (i64_w _).trans hji6
   by_cases c7 : 0 ≤ (ji6)
   rotate_left
   ·rw [if_neg c7] at H
    exact absurd H (by simp)
   rw [if_pos c7] at H
   have c7b0 : decide (0 ≤ (ji6)) = true := decide_eq_true c7
   clear c7
   by_cases c8 : (ji6) < (l0.length : Int)
   rotate_left
   ·rw [if_neg c8] at H
    exact absurd H (by simp)
   rw [if_pos c8] at H
   have c8b0 : decide ((ji6) < (l0.length : Int)) = true := decide_eq_true c8
   clear c8
   replace H := Option.bind_eq_some_iff.mp H
   obtain ⟨t197, A90, H⟩ := H
   have A9 := Aside0.mk A90
   clear A90
   by_cases c10 : t197 < 0
   ·rw [if_pos c10] at H
    have c10b0 : decide (t197 < 0) = true := decide_eq_true c10
    clear c10
    have H' := Aside0.mk H
    clear H
    try go_wp2
    replace BK195 := Aside0.mk (blk_drew BK195.out)
    replace HB := Aside0.mk (below_drew1 HB.out)
    have p196 : 0 ≤ ((ji6) : Int) := of_decide_eq_true (by first | (with_reducible assumption) | assumption)
    have q196 : (ji6) < (l0.length : Int) := of_decide_eq_true (by first | (with_reducible assumption) | assumption)
    obtain ⟨ad196, e196, hx196_0, hx196_1, hx196_2⟩ := at_T43 HR0.out (ji6) p196 q196
    have hw196_2 := hx196_2
    have hw196_1 := hx196_1
    have hw196_0 := hx196_0
    cases e196
    replace hx196_0 := (HB.out.cell (World.block_lt_of_cell? w _ hx196_0)).trans hx196_0
    replace hx196_1 := (HB.out.cell (World.block_lt_of_cell? w _ hx196_1)).trans hx196_1
    replace hx196_2 := (HB.out.cell (World.block_lt_of_cell? w _ hx196_2)).trans hx196_2
    replace p196 := eq_true p196
    replace q196 := eq_true q196
    refine start_ (n := 8) (S := fun w' => w'.cell? ⟨gb195, 0, none⟩ = some (.int .i64 a1_0) ∧ w'.cell? ⟨gb195, 1, none⟩ = some (.int .i64 a1_1) ∧ w'.cell? (ad196.add (((ji6)).toNat * 3)) = some (.int .i64 ((rd_T43 l0 (ji6)).f0.f0)) ∧ w'.cell? ⟨(ad196.add (((ji6)).toNat * 3)).block, (ad196.add (((ji6)).toNat * 3)).off + 1, none⟩ = some (.int .i64 ((rd_T43 l0 (ji6)).f0.f1)) ∧ w'.cell? ⟨(ad196.add (((ji6)).toNat * 3)).block, (ad196.add (((ji6)).toNat * 3)).off + 2, none⟩ = some (.int .i64 ((rd_T43 l0 (ji6)).f1))) (ds := []) ba7_0 (by kernel_rfl) rfl rfl ⟨(blk_cell BK195.out 0).trans rfl, (blk_cell BK195.out 1).trans rfl, (hc_ HB hw196_0), (hc_ HB hw196_1), (hc_ HB hw196_2)⟩ (fun hHeld => ?_); refine with_tabW slices_BinarySearchFunc_impl_Route_impl_Route_impl_Prefix.tab5 slices_BinarySearchFunc_impl_Route_impl_Route_impl_Prefix.bits5 (fun HT_ HW_ => ?_)
    generalize wr.drew = w11 at BK195 HB hx196_0 hx196_1 hx196_2 hHeld ⊢
    refine pz_ 0 24 ba7_1 HT_ ?_
    refine pz_ 1 25 ba7_2 HT_ ?_
    refine pz_ 2 26 ba7_3 HT_ ?_
    refine pz_ 3 27 ba7_4 HT_ ?_
    refine pt_ 4 28 ba7_5 HT_ HW_ hHeld ?_
    refine pt_ 5 29 ba7_6 HT_ HW_ hHeld ?_
    refine one_ (i := 6) (N := some 30) ba7_7 rfl rfl (one_of HT_.out (by kernel_rfl)) (by decide) (fun K hK => ?_)
    refine goesU_ Try.func54 (by kernel_rfl) rfl #[.agg #[.int .i64 ((rd_T43 l0 (ji6)).f0.f0), .int .i64 ((rd_T43 l0 (ji6)).f0.f1), .int .i64 ((rd_T43 l0 (ji6)).f1)], .agg #[.int .i64 a1_0, .int .i64 a1_1]] (by rfl) rfl rfl (by (try simp only [List.map_toArray, List.map_cons, List.map_nil]); first | done | (simp only [hji6]; rfl) | rfl | (simp only [List.length_drop, List.length_take]; rfl)) ?_
    with_reducible refine (impl_findRoute_1.calls ((rd_T43 l0 (ji6)).f0.f0) ((rd_T43 l0 (ji6)).f0.f1) ((rd_T43 l0 (ji6)).f1) a1_0 a1_1 t197 _ A9.out).mono ?_
    rintro e w12 ⟨rfl, hb⟩
    refine ⟨_, rfl, ?_⟩
    replace BK195 := Aside0.mk (bb_ BK195 hb)
    replace HB := Aside0.mk (bt_ HB hb)
    (try clear hb)
    (try clear hb2)
    (try clear hk)
    (try clear hi)
    refine hK.out _ _ ⟨(blk_cell BK195.out 0).trans rfl, (blk_cell BK195.out 1).trans rfl, (hc_ HB hw196_0), (hc_ HB hw196_1), (hc_ HB hw196_2)⟩ (fun hHeld => ?_)
    clear hK K
    refine nz_ 30 ?_
    refine pz_ 7 31 ba7_8 HT_ ?_
    refine done_ (done_of HT_.out (by kernel_rfl)) ?_
    try go_wp2
    go_roundg k1
    case measure => have := HK1.out; omega
    case rel => exact ⟨(wrap64 ((ji6) + 1)), (x10_1), (by first | rfl | (simp; done) | (simp only [← hji6] <;> (first | rfl | simp)) | (simp [*]; done)), (by first | rfl | (simp; done) | (simp [*]; done)), H', ⟨by have := HK1.out; omega⟩, ⟨by (with_reducible repeat (first | refine blk_drewN ?_ _ | refine blk_drew ?_ | refine blk_alloc ?_ _)); exact BK195.out⟩, ⟨by repeat (first | (with_reducible first | exact HB.out | apply below_alloc | apply pw_below_drewN | apply below_drew1 | refine below_set ?_ GE195.out) | exact HB.out)⟩⟩
   rw [if_neg c10] at H
   have c10b0 : decide (t197 < 0) = false := decide_eq_false c10
   clear c10
   have H' := Aside0.mk H
   clear H
   try go_wp2
   replace BK195 := Aside0.mk (blk_drew BK195.out)
   replace HB := Aside0.mk (below_drew1 HB.out)
   have p196 : 0 ≤ ((ji6) : Int) := of_decide_eq_true (by first | (with_reducible assumption) | assumption)
   have q196 : (ji6) < (l0.length : Int) := of_decide_eq_true (by first | (with_reducible assumption) | assumption)
   obtain ⟨ad196, e196, hx196_0, hx196_1, hx196_2⟩ := at_T43 HR0.out (ji6) p196 q196
   have hw196_2 := hx196_2
   have hw196_1 := hx196_1
   have hw196_0 := hx196_0
   cases e196
   replace hx196_0 := (HB.out.cell (World.block_lt_of_cell? w _ hx196_0)).trans hx196_0
   replace hx196_1 := (HB.out.cell (World.block_lt_of_cell? w _ hx196_1)).trans hx196_1
   replace hx196_2 := (HB.out.cell (World.block_lt_of_cell? w _ hx196_2)).trans hx196_2
   replace p196 := eq_true p196
   replace q196 := eq_true q196
   refine start_ (n := 8) (S := fun w' => w'.cell? ⟨gb195, 0, none⟩ = some (.int .i64 a1_0) ∧ w'.cell? ⟨gb195, 1, none⟩ = some (.int .i64 a1_1) ∧ w'.cell? (ad196.add (((ji6)).toNat * 3)) = some (.int .i64 ((rd_T43 l0 (ji6)).f0.f0)) ∧ w'.cell? ⟨(ad196.add (((ji6)).toNat * 3)).block, (ad196.add (((ji6)).toNat * 3)).off + 1, none⟩ = some (.int .i64 ((rd_T43 l0 (ji6)).f0.f1)) ∧ w'.cell? ⟨(ad196.add (((ji6)).toNat * 3)).block, (ad196.add (((ji6)).toNat * 3)).off + 2, none⟩ = some (.int .i64 ((rd_T43 l0 (ji6)).f1))) (ds := []) ba7_0 (by kernel_rfl) rfl rfl ⟨(blk_cell BK195.out 0).trans rfl, (blk_cell BK195.out 1).trans rfl, (hc_ HB hw196_0), (hc_ HB hw196_1), (hc_ HB hw196_2)⟩ (fun hHeld => ?_); refine with_tabW slices_BinarySearchFunc_impl_Route_impl_Route_impl_Prefix.tab5 slices_BinarySearchFunc_impl_Route_impl_Route_impl_Prefix.bits5 (fun HT_ HW_ => ?_)
   generalize wr.drew = w13 at BK195 HB hx196_0 hx196_1 hx196_2 hHeld ⊢
   refine pz_ 0 24 ba7_1 HT_ ?_
   refine pz_ 1 25 ba7_2 HT_ ?_
   refine pz_ 2 26 ba7_3 HT_ ?_
   refine pz_ 3 27 ba7_4 HT_ ?_
   refine pt_ 4 28 ba7_5 HT_ HW_ hHeld ?_
   refine pt_ 5 29 ba7_6 HT_ HW_ hHeld ?_
   refine one_ (i := 6) (N := some 30) ba7_7 rfl rfl (one_of HT_.out (by kernel_rfl)) (by decide) (fun K hK => ?_)
   refine goesU_ Try.func54 (by kernel_rfl) rfl #[.agg #[.int .i64 ((rd_T43 l0 (ji6)).f0.f0), .int .i64 ((rd_T43 l0 (ji6)).f0.f1), .int .i64 ((rd_T43 l0 (ji6)).f1)], .agg #[.int .i64 a1_0, .int .i64 a1_1]] (by rfl) rfl rfl (by (try simp only [List.map_toArray, List.map_cons, List.map_nil]); first | done | (simp only [hji6]; rfl) | rfl | (simp only [List.length_drop, List.length_take]; rfl)) ?_
   with_reducible refine (impl_findRoute_1.calls ((rd_T43 l0 (ji6)).f0.f0) ((rd_T43 l0 (ji6)).f0.f1) ((rd_T43 l0 (ji6)).f1) a1_0 a1_1 t197 _ A9.out).mono ?_
   rintro e w14 ⟨rfl, hb⟩
   refine ⟨_, rfl, ?_⟩
   replace BK195 := Aside0.mk (bb_ BK195 hb)
   replace HB := Aside0.mk (bt_ HB hb)
   (try clear hb)
   (try clear hb2)
   (try clear hk)
   (try clear hi)
   refine hK.out _ _ ⟨(blk_cell BK195.out 0).trans rfl, (blk_cell BK195.out 1).trans rfl, (hc_ HB hw196_0), (hc_ HB hw196_1), (hc_ HB hw196_2)⟩ (fun hHeld => ?_)
   clear hK K
   refine nz_ 30 ?_
   refine pz_ 7 31 ba7_8 HT_ ?_
   refine done_ (done_of HT_.out (by kernel_rfl)) ?_
   try go_wp2
   go_roundg k1
   case measure => have := HK1.out; omega
   case rel => exact ⟨(x9_1), (ji6), (by first | rfl | (simp; done) | (simp [*]; done)), (by first | rfl | (simp; done) | (simp only [← hji6] <;> (first | rfl | simp)) | (simp [*]; done)), H', ⟨by have := HK1.out; omega⟩, ⟨by (with_reducible repeat (first | refine blk_drewN ?_ _ | refine blk_drew ?_ | refine blk_alloc ?_ _)); exact BK195.out⟩, ⟨by repeat (first | (with_reducible first | exact HB.out | apply below_alloc | apply pw_below_drewN | apply below_drew1 | refine below_set ?_ GE195.out) | exact HB.out)⟩⟩

/-! ### impl_findRoute: function 32 -/
def impl_findRoute.f (k : Nat) (l0 : List (S43)) (a1_0 : Int) (a1_1 : Int) : Option (Int × Bool) := (slices_BinarySearchFunc_impl_Route_impl_Route_impl_Prefix.f k l0 a1_0 a1_1).bind fun bt201 => (some (bt201.1, bt201.2))
theorem impl_findRoute.mono : ∀ a0 a1 a2 k, LeO (impl_findRoute.f k a0 a1 a2) (impl_findRoute.f (k + 1) a0 a1 a2) := by
 intro a0 a1 a2 k
 unfold impl_findRoute.f
 repeat' first
   | (with_reducible exact slices_BinarySearchFunc_impl_Route_impl_Route_impl_Prefix.mono _ _ _ _)
   | (with_reducible exact LeO.refl _)
   | (with_reducible exact LeO.none _)
   | (with_reducible refine LeO.ite ?_ ?_)
   | (with_reducible refine LeO.bind ?_ (fun _ => ?_))
   | exact slices_BinarySearchFunc_impl_Route_impl_Route_impl_Prefix.mono _ _ _ _
   | exact LeO.none _
   | refine LeO.ite ?_ ?_
   | refine LeO.bind ?_ (fun _ => ?_)
set_option maxHeartbeats 8000000 in
set_option maxRecDepth 100000 in
theorem impl_findRoute.calls (k : Nat) (A0 : Option Addr) (c0 : Nat) (l0 : List (S43)) (a1_0 : Int) (a1_1 : Int) (r1 : Int) (r2 : Bool) (w : World) (hr0 : Kd.C k43 w A0 l0.length l0) (hc0 : l0.length ≤ c0) (h : impl_findRoute.f k l0 a1_0 a1_1 = some (r1, r2)) :
  Calls Try.prog 32 #[.slice A0 l0.length c0, .agg #[.int .i64 a1_0, .int .i64 a1_1]] w fun e w' => e = .returned (.tuple #[.int .i64 r1, .bool r2]) ∧ Below w.heap.size w w' := by
 have hu34 := Try.underlying34
 have HR0 := Aside0.mk hr0
 have HC0 := Aside0.mk hc0
 clear hr0 hc0
 have HB := Aside0.mk (Below.refl w.heap.size w)
 have H : ((slices_BinarySearchFunc_impl_Route_impl_Route_impl_Prefix.f k l0 a1_0 a1_1).bind fun bt201 => (some (bt201.1, bt201.2))) = some (r1, r2) := h
 clear h
 replace H := Option.bind_eq_some_iff.mp H
 obtain ⟨⟨t201, t202⟩, A30, H⟩ := H
 have A3 := Aside0.mk A30
 clear A30
 simp only [Option.some.injEq, Prod.mk.injEq] at H
 obtain ⟨rfl, rfl⟩ := H
 go_enter Try.func32, Try.ntmps32
 go_wp2_with (first | ((with_reducible refine gate_dst (N := 3) rfl ?_); refine box_event ?hg (N := 3) ?hd (cs := #[.int .i64 a1_0, .int .i64 a1_1]) (t := 34) ?hr ?_; (case hd => rfl); (case hg => rfl); (case hr => first | (go_simp; done) | (go_simp; rfl)); intro gb200 hg w4 hbox hb; have BK200 := Aside0.mk hbox; have GW200 := ge_ HB hg; have GE200 := ge_ HB hg; replace HB := Aside0.mk (bt_ HB hb); clear hb hbox hg; have hcz5_0 := cz_ BK200 0 (.int .i64 a1_0); have hcz5_1 := cz_ BK200 1 (.int .i64 a1_1); have hfz5_0 := blk_frozen BK200.out 0; have hfz5_1 := blk_frozen BK200.out 1) | ((with_reducible refine gate_callee (f := 53) rfl ?_); refine gl_ (some 8) Try.func53 #[.slice A0 l0.length c0, .agg #[.int .i64 a1_0, .int .i64 a1_1], .func (.func 54) #[] #[]] ?_; (with_reducible refine (slices_BinarySearchFunc_impl_Route_impl_Route_impl_Prefix.calls k _ _ l0 a1_0 a1_1  t201 t202 _ ?side1 ?side2 A3.out).mono ?_); (case side1 => exact cb_ HR0 HB); (case side2 => exact HC0.out); rintro e w6 ⟨rfl, hb⟩; refine ⟨_, rfl, ?_⟩; replace BK200 := Aside0.mk (bb_ BK200 hb); replace HB := Aside0.mk (bt_ HB hb); (try clear hb); (try clear hb2); (try clear hk); (try clear hi)))
 go_ret2
 exact ⟨by first | rfl | (simp [errW_none, errW_some] <;> rfl) | (simp [*, errW_none, errW_some] <;> rfl), by repeat (first | (with_reducible first | exact HB.out | apply below_alloc | apply pw_below_drewN | apply below_drew1 | refine below_set ?_ GE200.out) | exact HB.out)⟩

/-! ### slices_Delete_impl_Route_impl_Route: function 33 -/
section
open Go.Lib
variable {P : Program} {α : Type}
theorem R_past_run (d : Kd α) {W : World} (base : Nat) (t ty e : TypeId) (ht : P.underlying t = some (.slice e)) (z : Value) (i0 : TypeInfo) (hi : P.info? e = some i0) (hz0 : i0.zero = some z) (hzs : z.cells.size = d.sz) (hs0 : 0 < d.sz) (z0 : α)
  (hzM : ∀ W, d.M W base (fun _ => False) z0 z.cells.toList) {g n c q : Nat} {xs : List α} {ok : Nat → Prop} (HO : d.R e W base ok (.slice (some ⟨g, 0, none⟩) n c) xs) (hq : n + (q + 1) ≤ c) (c2 : Nat) :
  ∃ w1, (Builtin.clear_ #[t] ty #[.slice (some ⟨g, n * d.sz, none⟩) (q + 1) c2]).run P W = .ok (.tuple #[]) w1 ∧ d.R e w1 base ok (.slice (some ⟨g, 0, none⟩) n c) xs ∧ W.grownBy w1 (some g) := by
 obtain ⟨hn, hnc, _⟩ := Kd.R_reads' HO
 have hcm0 : Reps (d.M W base (fun _ => False)) d.sz (List.replicate (q + 1) z0) (Builtin.zeroCells z.cells (q + 1)).toList := Kd.reps_zeros hzs hs0 (hzM W) (q + 1)
 obtain ⟨hok, inner, hown, hr⟩ := HO
 have hin : inner.length = n * d.sz := by rw [hr.1, hn]
 rcases hown.2 with ⟨hv, _⟩ | ⟨g', cap', cur, hv, hb, hh, h9, hcm, hcs, htake⟩
 ·cases hv
 injection hv with ha _ hc
 injection ha with ha
 injection ha with hg
 subst hg; subst hc
 rw [← hn] at htake
 obtain ⟨news, hnews⟩ : ∃ news, news = (Builtin.zeroCells z.cells (q + 1)).toList := ⟨_, rfl⟩
 have hnl : news.length = (q + 1) * d.sz := by rw [hnews, Array.length_toList, size_zeroCells, hzs]
 rw [← hnews] at hcm0
 have hcc : (n + (q + 1)) * d.sz ≤ c * d.sz := Nat.mul_le_mul_right _ hq
 have hadd : (n + (q + 1)) * d.sz = n * d.sz + (q + 1) * d.sz := Nat.add_mul _ _ _
 have hfit : n * d.sz + news.length ≤ cur.size := by omega
 have hone : ∀ u ∈ news, u.oneCell' = true := by
  intro u hu
  obtain ⟨p, hp, rfl⟩ := List.mem_iff_getElem.1 hu
  have hql : p / d.sz < (List.replicate (q + 1) z0).length := by
   rw [List.length_replicate, Nat.div_lt_iff_lt_mul hs0, ← hnl]
   exact hp
  refine d.K_one (d.K_of_M (hcm0.2 (p / d.sz) _ (List.getElem?_eq_getElem hql))) _ ?_
  rw [List.mem_iff_getElem?]
  refine ⟨p % d.sz, ?_⟩
  rw [List.getElem?_take, if_pos (Nat.mod_lt _ hs0), List.getElem?_drop, Nat.mul_comm, Nat.div_add_mod, List.getElem?_eq_getElem hp]
 have hst := run_storeCells_cells (P := P) g (n * d.sz) news 0 W (fun j hj => by rw [cell_of_row W g _ cur e (0, 0) hh]; simp; omega) (fun j _ => blk_frozen hh _) hone
 simp only [Nat.add_zero] at hst
 obtain ⟨cur', h3, h4, h5⟩ := setCells_row news (n * d.sz) W cur hh hfit
 obtain ⟨s1, s2, s3, s4⟩ := setCells_same g news (n * d.sz) W
 have hfar : ∀ k', k' ≠ g → (W.setCells g (n * d.sz) news).heap[k']? = W.heap[k']? := fun k' hk' => setCells_far news _ k' hk'
 have hgo : some g = (Value.slice (some ⟨g, 0, none⟩) n c).ownBlock := by simp [Value.ownBlock]
 have hz : (zeroValue e).run P W = .ok z W := by
  simp [zeroValue, run_typeInfo W hi, hz0]
 refine ⟨W.setCells g (n * d.sz) news, ?_, ⟨fun k' hk' => hok k' hk', inner, ⟨by rw [hin, hn], .inr ⟨g, c, cur', by rw [hn], hb, h3, h9, hcm, by rw [h4, hcs], ?_⟩⟩, ?_⟩, ⟨s1, s2, s3, by rw [s4]; exact Nat.le_refl _, fun k' _ hk' => hfar k' (fun he => hk' (by rw [he]))⟩⟩
 ·rw [hnews] at hst ⊢
  simp [Builtin.clear_, run_underlying ht, hz, hst]
 ·rw [← hn, h5, List.append_assoc]
  have h6 : (cur.toList.take (n * d.sz)).length = n * d.sz := by rw [htake, hin]
  rw [List.take_left' h6, htake]
 ·exact hr.imp_ (fun p q hp => d.M_move (fun k' hk' => hfar k' (fun he => hk'.2 (by rw [← hgo, he]))) hp)
end
section
open Go.Lib
variable {P : Program} {ops : Array Oper} {o : Oper} {a : Act} {Q : Exit → Act → World → Prop} {Kc : Act → World → Prop} {α : Type}
theorem R_delete_step (d : Kd α) {w0 W : World} (base : Nat) (hw : Region.wanted o (yielded ops a.tmps) = true) (s x : Operand) (t e : TypeId) (ho : o.op = .call { callee := .builtin .append, args := #[s, x], argTypes := #[t, t] })
  (ht : P.underlying t = some (.slice e)) (hinfo : (P.info? e).map (·.size) = some d.sz) {g n c k m c2 : Nat} {A : Option Addr} {xs : List α} {ok : Nat → Prop}
  (hs : a.eval s = .slice (some ⟨g, 0, none⟩) k c) (hx : a.eval x = .slice A m c2) (hA : A = if c = k + 1 then some ⟨g, 0, none⟩ else (some (⟨g, 0, none⟩ : Addr)).map (·.add ((k + 1) * d.sz))) (hm : m = n + 1 - (k + 1))
  (HO : d.R e W base ok (.slice (some ⟨g, 0, none⟩) (n + 1) c) xs) (hk : k < n + 1) (HB : Below base w0 W) (hbase : base ≤ W.heap.size)
  (h : ∀ w1, d.R e w1 base ok (.slice (some ⟨g, 0, none⟩) n c) (xs.eraseIdx k) → Below base w0 w1 → W.grownBy w1 (some g) → Kc (a.put o.dst (.slice (some ⟨g, 0, none⟩) n c)) w1) :
  if Region.wanted o (yielded ops a.tmps) = true then Oper.wp P o a W Kc Q else Kc (a.put o.dst undef) W := by
 rw [if_pos hw]
 obtain ⟨i0, hi, hsz⟩ := Option.map_eq_some_iff.1 hinfo
 subst hm
 obtain ⟨w1, hr, h1, h2⟩ := Kd.R_delete_run d base t o.type e i0 ht hi hsz HO hk hA c2
 unfold Oper.wp execOp
 simp only [ho, resolve, invoke, builtin, Sem.run_bind, Sem.run_pure, Result.andThen_ok, List.map_toArray, List.map_cons, List.map_nil, hs, hx, hr]
 exact h w1 h1 (HB.grown h2 hbase (fun k hk => by injection hk with hk; subst hk; exact Kd.R_base HO _ (by simp [Value.ownBlock]))) h2
end
section
open Go.Lib
variable {P : Program} {ops : Array Oper} {rest : List Oper} {o : Oper} {a : Act} {Q : Exit → Act → World → Prop} {α : Type}
theorem R_past (d : Kd α) {w0 W : World} (base : Nat) (hgd : o.guard = none) (s : Operand) (t e : TypeId) (ho : o.op = .call { callee := .builtin .clear, args := #[s], argTypes := #[t] }) (hd : o.dst = none)
  (ht : P.underlying t = some (.slice e)) (z : Value) (bytes : Nat) (hinfo : (P.info? e).map (fun i => (i.zero, i.size, i.bytes)) = some (some z, d.sz, bytes)) (hzs : z.cells.size = d.sz) (hs0 : 0 < d.sz) (z0 : α) (hzM : ∀ W, d.M W base (fun _ => False) z0 z.cells.toList)
  {g n c q m c2 : Nat} {A : Option Addr} {xs : List α} {ok : Nat → Prop} (hs : a.eval s = .slice A m c2) (hA : A = some ⟨g, n * d.sz, none⟩) (hm : m = q + 1)
  (HO : d.R e W base ok (.slice (some ⟨g, 0, none⟩) n c) xs) (hq : n + (q + 1) ≤ c) (HB : Below base w0 W) (hbase : base ≤ W.heap.size) (hg : base ≤ g)
  (h : ∀ w1, d.R e w1 base ok (.slice (some ⟨g, 0, none⟩) n c) xs → Below base w0 w1 → W.grownBy w1 (some g) → wpList P ops Q rest a w1) : wpList P ops Q (o :: rest) a W := by
 obtain ⟨i0, hi, hzz⟩ := Option.map_eq_some_iff.1 hinfo
 simp only [Prod.mk.injEq] at hzz
 subst hm
 subst hA
 obtain ⟨w1, hr, h1, h2⟩ := R_past_run (P := P) d base t o.type e ht z i0 hi hzz.1 hzs hs0 z0 hzM HO hq c2
 refine wpList_plain hgd fun K hK => ?_
 unfold Oper.wp execOp
 simp only [ho, resolve, invoke, builtin, Sem.run_bind, Sem.run_pure, Result.andThen_ok, List.map_toArray, List.map_cons, List.map_nil, hs, hr]
 show K (a.put o.dst (.tuple #[])) w1
 rw [show a.put o.dst (.tuple #[]) = a by rw [hd]; rfl]
 exact hK _ _ (h w1 h1 (HB.grown h2 hbase (fun k hk => by injection hk with hk; subst hk; exact hg)) h2)
end
def slices_Delete_impl_Route_impl_Route.f (l0 : List S43) (a1 : Int) (a2 : Int) : Option (List S43) := if 0 ≤ a1 then (if a1 < (l0.length : Int) then (if a2 = a1 + 1 then some (l0.eraseIdx (a1 : Int).toNat) else none) else none) else none
def slices_Delete_impl_Route_impl_Route.b0 : Array Bool := ba7_0
def slices_Delete_impl_Route_impl_Route.b1 : Array Bool := ba7_1
def slices_Delete_impl_Route_impl_Route.b2 : Array Bool := ba7_2
def slices_Delete_impl_Route_impl_Route.b3 : Array Bool := ba7_3
def slices_Delete_impl_Route_impl_Route.b4 : Array Bool := ba7_4
def slices_Delete_impl_Route_impl_Route.b5 : Array Bool := ba7_5
def slices_Delete_impl_Route_impl_Route.b6 : Array Bool := ba7_6
def slices_Delete_impl_Route_impl_Route.b7 : Array Bool := ba7_7
def slices_Delete_impl_Route_impl_Route.b8 : Array Bool := ba7_8
def slices_Delete_impl_Route_impl_Route.T5 : Bool × List (List Nat × List Nat) := (true, [([], []), ([], []), ([0, 1], [0, 1]), ([], []), ([], []), ([3, 4], [3, 4]), ([2, 5], [2, 5]), ([6, 6, 0, 1, 2, 3, 4, 5, 6], [0, 3, 6])])
def slices_Delete_impl_Route_impl_Route.B5 : List Nat := [0, 0, 3, 0, 0, 24, 63, 127]
theorem slices_Delete_impl_Route_impl_Route.tab5 : rtab .any (opsOf Try.f33 5) = slices_Delete_impl_Route_impl_Route.T5 := by kernel_rfl
theorem slices_Delete_impl_Route_impl_Route.bits5 : waitsOk slices_Delete_impl_Route_impl_Route.T5.2 slices_Delete_impl_Route_impl_Route.B5 = true := by kernel_rfl
set_option maxHeartbeats 4000000 in
set_option maxRecDepth 100000 in
theorem slices_Delete_impl_Route_impl_Route.calls (P0_ : Nat → Prop) (u9000_ : Value) (l0 : List S43) (a1 : Int) (a2 : Int) (r : List S43) (w0 w : World) (hB : Below w0.heap.size w0 w) (ho0 : Kd.R k43 43 w w0.heap.size P0_ u9000_ l0) (h : slices_Delete_impl_Route_impl_Route.f l0 a1 a2 = some r) :
  Calls Try.prog 33 #[u9000_, .int .i64 a1, .int .i64 a2] w fun e w' => ∃ v0_ : Value, e = .returned (v0_) ∧ Kd.R k43 43 w' w0.heap.size (fun k_ => (P0_ k_ ∨ w.heap.size ≤ k_)) v0_ r ∧ Below w0.heap.size w0 w' ∧ Kept w w' (fun k_ => P0_ k_) := by
 unfold slices_Delete_impl_Route_impl_Route.f at h
 by_cases c1 : 0 ≤ a1
 rotate_left
 ·rw [if_neg c1] at h; cases h
 rw [if_pos c1] at h
 by_cases c2 : a1 < (l0.length : Int)
 rotate_left
 ·rw [if_neg c2] at h; cases h
 rw [if_pos c2] at h
 by_cases c3 : a2 = a1 + 1
 rotate_left
 ·rw [if_neg c3] at h; cases h
 rw [if_pos c3] at h
 obtain rfl := Option.some.inj h
 clear h
 obtain ⟨i, rfl⟩ := Int.eq_ofNat_of_zero_le c1
 have e2 : a2 = ((i + 1 : Nat) : Int) := by rw [c3]; rfl
 subst e2
 clear c1 c3
 have hi : i < l0.length := by omega
 obtain ⟨m, hL⟩ : ∃ m, l0.length = m + 1 := ⟨l0.length - 1, by omega⟩
 have HB := Aside0.mk hB
 have HW0 := Aside0.mk hB.size
 obtain ⟨g, cap, eg, gb, gl, cl, HG⟩ := Kd.R_form ho0 (by omega)
 subst eg
 have hnc := (Kd.R_reads' ho0).2.1
 have hok := ho0.1 g (by simp [Value.ownBlock])
 rw [hL] at ho0 hnc hi c2 ⊢
 have HO0 := Aside0.mk ho0
 have HK := Aside0.mk (Kept.refl w (fun k_ => P0_ k_))
 clear hB ho0
 have q2 : ¬ ((i : Nat) : Int) = ((i + 1 : Nat) : Int) := by omega
 have q3 : (((i : Nat) : Int) == ((i + 1 : Nat) : Int)) = false := beq_eq_false_iff_ne.mpr q2
 have f1 : (i ≤ cap) = True := eq_true (by omega)
 have f2 : (i + 1 ≤ m + 1) = True := eq_true (by omega)
 have f3 : (0 ≤ (i : Int) + 1 ∧ (i : Int) + 1 ≤ ((m + 1 : Nat) : Int)) = True := eq_true (by omega)
 have f4 : (0 ≤ (i : Int) + 1 ∧ i ≤ m) = True := eq_true (by omega)
 go_enter Try.func33, Try.ntmps33
 go_wp2
 refine start_ (n := 8) (S := fun _ => True) (ds := []) slices_Delete_impl_Route_impl_Route.b0 (by kernel_rfl) rfl rfl trivial (fun hHeld => ?_); refine with_tabW slices_Delete_impl_Route_impl_Route.tab5 slices_Delete_impl_Route_impl_Route.bits5 (fun HT_ HW_ => ?_)
 replace HO0 := Aside0.mk (Kd.R_drew HO0.out)
 replace HB := Aside0.mk (below_drew1 HB.out)
 replace HK := Aside0.mk (Kept.drew HK.out)
 refine pz_ 0 20 slices_Delete_impl_Route_impl_Route.b1 HT_ ?_
 refine pz_ 1 21 slices_Delete_impl_Route_impl_Route.b2 HT_ ?_
 refine pz_ 2 22 slices_Delete_impl_Route_impl_Route.b3 HT_ ?_
 refine pz_ 3 23 slices_Delete_impl_Route_impl_Route.b4 HT_ ?_
 refine pz_ 4 24 slices_Delete_impl_Route_impl_Route.b5 HT_ ?_
 refine pz_ 5 25 slices_Delete_impl_Route_impl_Route.b6 HT_ ?_
 refine one_ (i := 6) (N := some 26) slices_Delete_impl_Route_impl_Route.b7 rfl rfl (one_of HT_.out (by kernel_rfl)) (by decide) (fun K hK => ?_)
 refine R_delete_step k43 (w0 := w0) w0.heap.size (by rfl) (.tmp 22) (.tmp 25) 28 43 rfl Try.underlying28 (by kernel_rfl) (g := g) (n := m) (c := cap) (k := i) (by rfl) (by rfl) ?hA ?hm HO0.out (by omega) HB.out (Nat.le_trans HW0.out (by exact Nat.le_refl _)) ?_
 case hA =>
  by_cases ce : cap = i + 1
  ·rw [if_pos ce, if_pos ce]
  rw [if_neg ce, if_neg ce]
  simp [Addr.add]
  rfl
 case hm => omega
 intro w1 ho hb hg
 have HO1 := Aside0.mk ho
 replace HB := Aside0.mk hb
 replace HK := Aside0.mk (Kept.of_grown (S := (fun k_ => P0_ k_)) hg HK.out (fun k_ e_ => by injection e_ with e_; subst e_; exact .inl hok))
 clear ho hb hg HO0 HG
 generalize (if cap = i + 1 then (some ⟨g, 0, none⟩ : Option Addr) else some ⟨g, (i + 1) * 3, none⟩) = A5
 refine hK.out _ _ trivial (fun hHeld => ?_)
 clear hK K
 refine nz_ 26 ?_
 refine pz_ 7 0 slices_Delete_impl_Route_impl_Route.b8 HT_ ?_
 refine done_ (done_of HT_.out (by kernel_rfl)) ?_
 have f6 : (0 ≤ (m : Int) ∧ (m : Int) ≤ (m : Int) + 1 ∧ m + 1 ≤ cap) = True := eq_true (by omega)
 go_wp2_with (first | ((with_reducible refine gate_builtin (b := .clear) (xs := #[.tmp 31]) rfl ?_); refine R_past k43 (w0 := w0) w0.heap.size rfl (.tmp 31) 28 43 rfl rfl Try.underlying28 (.agg #[(.int .i64 0), (.int .i64 0), (.int .i64 0)]) 24 info43 rfl (by decide) z43 (fun _ => (k43_mkM _ _ _ z43)) (g := g) (n := m) (c := cap) (q := 0) rfl ?hA ?hm HO1.out ?hq HB.out HB.out.size gb ?_; (case hA => first | rfl | (simp; done)); (case hm => first | rfl | omega); (case hq => omega); intro w2 ho hb hg; have HO2 := Aside0.mk ho; replace HB := Aside0.mk hb; replace HK := Aside0.mk (Kept.of_grown (S := (fun k_ => P0_ k_)) hg HK.out (fun k_ e_ => by injection e_ with e_; subst e_; exact .inl hok)); clear ho hb hg HO1))
 go_ret
 exact ⟨_, rfl, Kd.R_mono HO2.out (fun _ hk => .inl hk), HB.out, HK.out⟩

end Go.Proofs.Ytflfbaofgfandaa.QFnExactDropRoute
