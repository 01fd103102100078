/- Contracts of functions that the law reaches: what each call returns and what it leaves in memory. Made by this session over the print of the kit. -/
import Derived.Test.YthmahcohcphljaaQFnExactChangedx0
import Derived.Test.YthmahcohcphljaaQFnExactChangedx7
import Derived.Test.YthmahcohcphljaaQFnExactChangedx8
import Derived.Test.YthmahcohcphljaaQFnExactChangedx10
namespace Go.Proofs.Ythmahcohcphljaa.QFnExactChanged
open Go.RowKit Go.Proofs.YthmahcohcphljaaU.PrintWords Go.Proofs.YthmahcohcphljaaU.PrintLast Go.Proofs.YthmahcohcphljaaU.PrintMore
attribute [local go_sem] max2_int min2_int max_two min_two max_three min_three max_four min_four   -- for this text's walks alone
set_option linter.unusedVariables false
set_option linter.unusedSimpArgs false
def ba11_0 : Array Bool := #[false, false, false, false, false, false, false, false]
def ba11_1 : Array Bool := #[false, true, false, false, false, false, false, false]
def ba11_2 : Array Bool := #[false, true, false, false, true, false, false, false]
def ba11_3 : Array Bool := #[true, true, false, false, true, false, false, false]
def ba11_4 : Array Bool := #[true, true, false, true, true, false, false, false]
def ba11_5 : Array Bool := #[true, true, true, true, true, false, false, false]
def ba11_6 : Array Bool := #[true, true, true, true, true, true, false, false]
def ba11_7 : Array Bool := #[true, true, true, true, true, true, true, false]
def ba11_8 : Array Bool := #[true, true, true, true, true, true, true, true]
def ba11_9 : Array Bool := #[false, false, false, false, false, false, false, false, false, false]
def ba11_10 : Array Bool := #[true, false, false, false, false, false, false, false, false, false]
def ba11_11 : Array Bool := #[true, true, false, false, false, false, false, false, false, false]
def ba11_12 : Array Bool := #[true, true, true, false, false, false, false, false, false, false]
def ba11_13 : Array Bool := #[true, true, true, false, true, false, false, false, false, false]
def ba11_14 : Array Bool := #[true, true, true, false, true, true, false, false, false, false]
def ba11_15 : Array Bool := #[true, true, true, false, true, true, true, false, false, false]
def ba11_16 : Array Bool := #[true, true, true, true, true, true, true, false, false, false]
def ba11_17 : Array Bool := #[true, true, true, true, true, true, true, true, false, false]
def ba11_18 : Array Bool := #[true, true, true, true, true, true, true, true, true, false]
def ba11_19 : Array Bool := #[true, true, true, true, true, true, true, true, true, true]

/-! ### impl_Changed: function 22 -/
mutual
def impl_Changed.j0 : Nat → Int → Bool → Int → List (S76) → Int → List (S76) → Option (List Int)
 | 0, _, _, _, _, _, _ => none
 | k + 1, x2, x31, x281000, x281001, x282000, x282001 => if x31 = true then (some ([] : List Int)) else ((impl_Graph_hopTable.f k x281000 x281001 x2).bind fun t285 => ((impl_Graph_hopTable.f k x282000 x282001 x2).bind fun t288 => (impl_Changed.l0 k t285 t288 (([] : List Int)) (t285.length : Int) 0)))
def impl_Changed.l0 : Nat → List (List Int) → List (List Int) → List Int → Int → Int → Option (List Int)
 | 0, _, _, _, _, _ => none
 | k + 1, x7, x8, x9, x40, x41 => if x41 < x40 then (if 0 ≤ x41 then (if x41 < (x7.length : Int) then (if x41 < (x8.length : Int) then ((slices_Equal_int_int.f k (rd_L3 x7 x41) (rd_L3 x8 x41)).bind fun t296 => (if t296 = true then (impl_Changed.l0 k x7 x8 x9 x40 (wrap64 (x41 + 1))) else (if x9.length < 17592186044416 then (impl_Changed.l0 k x7 x8 (x9 ++ [x41]) x40 (wrap64 (x41 + 1))) else (none)))) else (none)) else (none)) else (none)) else (some x9)
end
def impl_Changed.f (k : Nat) (a0_0 : Int) (l0_1 : List (S76)) (a1_0 : Int) (l1_1 : List (S76)) (a2 : Int) : Option (List Int) := (impl_GraphOk.f k a0_0 l0_1).bind fun t282 => (if t282 = true then ((impl_GraphOk.f k a1_0 l1_1).bind fun t283 => (if t283 = true then (if a0_0 = a1_0 then ((impl_Graph_isNode.f a0_0 l0_1 a2).bind fun t284 => (impl_Changed.j0 k a2 (!t284) a0_0 l0_1 a1_0 l1_1)) else (impl_Changed.j0 k a2 true a0_0 l0_1 a1_0 l1_1)) else (impl_Changed.j0 k a2 true a0_0 l0_1 a1_0 l1_1))) else (impl_Changed.j0 k a2 true a0_0 l0_1 a1_0 l1_1))
theorem impl_Changed.mono_l : ∀ k, (∀ y0 y1 y2 y3 y4 y5, LeO (impl_Changed.j0 k y0 y1 y2 y3 y4 y5) (impl_Changed.j0 (k + 1) y0 y1 y2 y3 y4 y5)) ∧ (∀ y0 y1 y2 y3 y4, LeO (impl_Changed.l0 k y0 y1 y2 y3 y4) (impl_Changed.l0 (k + 1) y0 y1 y2 y3 y4))
 | 0 => ⟨fun _ _ _ _ _ _ r h => by simp [impl_Changed.j0] at h, fun _ _ _ _ _ r h => by simp [impl_Changed.l0] at h⟩
 | k + 1 => by
  obtain ⟨ih0, ih1⟩ := impl_Changed.mono_l k
  refine ⟨?_, ?_⟩
  ·intro y0 y1 y2 y3 y4 y5
   unfold impl_Changed.j0
   repeat' first
   | (with_reducible exact ih0 _ _ _ _ _ _)
   | (with_reducible exact ih1 _ _ _ _ _)
   | (with_reducible exact impl_GraphOk.mono _ _ _)
   | (with_reducible exact impl_Graph_hopTable.mono _ _ _ _)
   | (with_reducible exact slices_Equal_int_int.mono _ _ _)
   | (with_reducible exact LeO.refl _)
   | (with_reducible exact LeO.none _)
   | (with_reducible refine LeO.ite ?_ ?_)
   | (with_reducible refine LeO.bind ?_ (fun _ => ?_))
   | exact ih0 _ _ _ _ _ _
   | exact ih1 _ _ _ _ _
   | exact impl_GraphOk.mono _ _ _
   | exact impl_Graph_hopTable.mono _ _ _ _
   | exact slices_Equal_int_int.mono _ _ _
   | exact LeO.none _
   | refine LeO.ite ?_ ?_
   | refine LeO.bind ?_ (fun _ => ?_)
  ·intro y0 y1 y2 y3 y4
   unfold impl_Changed.l0
   repeat' first
   | (with_reducible exact ih0 _ _ _ _ _ _)
   | (with_reducible exact ih1 _ _ _ _ _)
   | (with_reducible exact impl_GraphOk.mono _ _ _)
   | (with_reducible exact impl_Graph_hopTable.mono _ _ _ _)
   | (with_reducible exact slices_Equal_int_int.mono _ _ _)
   | (with_reducible exact LeO.refl _)
   | (with_reducible exact LeO.none _)
   | (with_reducible refine LeO.ite ?_ ?_)
   | (with_reducible refine LeO.bind ?_ (fun _ => ?_))
   | exact ih0 _ _ _ _ _ _
   | exact ih1 _ _ _ _ _
   | exact impl_GraphOk.mono _ _ _
   | exact impl_Graph_hopTable.mono _ _ _ _
   | exact slices_Equal_int_int.mono _ _ _
   | exact LeO.none _
   | refine LeO.ite ?_ ?_
   | refine LeO.bind ?_ (fun _ => ?_)
theorem impl_Changed.mono : ∀ a0 a1 a2 a3 a4 k, LeO (impl_Changed.f k a0 a1 a2 a3 a4) (impl_Changed.f (k + 1) a0 a1 a2 a3 a4) := by
 intro a0 a1 a2 a3 a4 k
 obtain ⟨ih0, ih1⟩ := impl_Changed.mono_l k
 unfold impl_Changed.f
 repeat' first
   | (with_reducible exact ih0 _ _ _ _ _ _)
   | (with_reducible exact ih1 _ _ _ _ _)
   | (with_reducible exact impl_GraphOk.mono _ _ _)
   | (with_reducible exact impl_Graph_hopTable.mono _ _ _ _)
   | (with_reducible exact slices_Equal_int_int.mono _ _ _)
   | (with_reducible exact LeO.refl _)
   | (with_reducible exact LeO.none _)
   | (with_reducible refine LeO.ite ?_ ?_)
   | (with_reducible refine LeO.bind ?_ (fun _ => ?_))
   | exact ih0 _ _ _ _ _ _
   | exact ih1 _ _ _ _ _
   | exact impl_GraphOk.mono _ _ _
   | exact impl_Graph_hopTable.mono _ _ _ _
   | exact slices_Equal_int_int.mono _ _ _
   | exact LeO.none _
   | refine LeO.ite ?_ ?_
   | refine LeO.bind ?_ (fun _ => ?_)
def impl_Changed.T3 : Bool × List (List Nat × List Nat) := (true, [([], []), ([], []), ([0, 1], [0, 1]), ([], []), ([], []), ([3, 4, 2], [3, 4]), ([2, 5, 0, 1, 2], [2]), ([5, 6, 0, 1, 2, 3, 4, 5, 6], [5])])
def impl_Changed.B3 : List Nat := [0, 0, 3, 0, 0, 31, 63, 127]
theorem impl_Changed.tab3 : rtab .any (opsOf Try.f22 3) = impl_Changed.T3 := by kernel_rfl
theorem impl_Changed.bits3 : waitsOk impl_Changed.T3.2 impl_Changed.B3 = true := by kernel_rfl
def impl_Changed.T8 : Bool × List (List Nat × List Nat) := (true, [([], []), ([], []), ([0, 1], [0, 1]), ([2], [2]), ([], []), ([], []), ([4, 5], [4, 5]), ([6], [6]), ([3, 7], [3, 7]), ([8], [8])])
def impl_Changed.B8 : List Nat := [0, 0, 3, 7, 0, 0, 48, 112, 255, 511]
theorem impl_Changed.tab8 : rtab .any (opsOf Try.f22 8) = impl_Changed.T8 := by kernel_rfl
theorem impl_Changed.bits8 : waitsOk impl_Changed.T8.2 impl_Changed.B8 = true := by kernel_rfl
set_option maxHeartbeats 8000000 in
set_option maxRecDepth 100000 in
theorem impl_Changed.calls (k : Nat) (a0_0 : Int) (A0_1 : Option Addr) (c0_1 : Nat) (l0_1 : List (S76)) (a1_0 : Int) (A1_1 : Option Addr) (c1_1 : Nat) (l1_1 : List (S76)) (a2 : Int) (r : List Int) (w : World) (hr0_1 : Kd.C k76 w A0_1 l0_1.length l0_1) (hc0_1 : l0_1.length ≤ c0_1) (hr1_1 : Kd.C k76 w A1_1 l1_1.length l1_1) (hc1_1 : l1_1.length ≤ c1_1) (h : impl_Changed.f k a0_0 l0_1 a1_0 l1_1 a2 = some r) :
  Calls Try.prog 22 #[.agg #[.int .i64 a0_0, .slice A0_1 l0_1.length c0_1], .agg #[.int .i64 a1_0, .slice A1_1 l1_1.length c1_1], .int .i64 a2] w fun e w' => ∃ v0_ : Value, e = .returned (v0_) ∧ Kd.R (Kd.int .i64) 3 w' w.heap.size (fun _ => True) v0_ r ∧ Below w.heap.size w w' := by
 have hu30 := Try.underlying30
 have HR0_1 := Aside0.mk hr0_1
 have HC0_1 := Aside0.mk hc0_1
 clear hr0_1 hc0_1
 have HR1_1 := Aside0.mk hr1_1
 have HC1_1 := Aside0.mk hc1_1
 clear hr1_1 hc1_1
 have HB := Aside0.mk (Below.refl w.heap.size w)
 have H : ((impl_GraphOk.f k a0_0 l0_1).bind fun t282 => (if t282 = true then ((impl_GraphOk.f k a1_0 l1_1).bind fun t283 => (if t283 = true then (if a0_0 = a1_0 then ((impl_Graph_isNode.f a0_0 l0_1 a2).bind fun t284 => (impl_Changed.j0 k a2 (!t284) a0_0 l0_1 a1_0 l1_1)) else (impl_Changed.j0 k a2 true a0_0 l0_1 a1_0 l1_1)) else (impl_Changed.j0 k a2 true a0_0 l0_1 a1_0 l1_1))) else (impl_Changed.j0 k a2 true a0_0 l0_1 a1_0 l1_1))) = some r := h
 clear h
 have HC4 := Aside0.mk H
 clear H
 go_enter Try.func22, Try.ntmps22
 go_upto_region 1 with (first | ((with_reducible refine gate_dst (N := 3) rfl ?_); refine box_event ?hg (N := 3) ?hd (cs := #[.int .i64 a0_0, .slice A0_1 l0_1.length c0_1]) (t := 30) ?hr ?_; (case hd => rfl); (case hg => rfl); (case hr => first | (go_simp; done) | (go_simp; rfl)); intro gb280 hg w5 hbox hb; have BK280 := Aside0.mk hbox; have GW280 := ge_ HB hg; have GE280 := ge_ HB hg; replace HB := Aside0.mk (bt_ HB hb); clear hb hbox hg) | ((with_reducible refine gate_dst (N := 4) rfl ?_); refine box_event ?hg (N := 4) ?hd (cs := #[.int .i64 a1_0, .slice A1_1 l1_1.length c1_1]) (t := 30) ?hr ?_; (case hd => rfl); (case hg => rfl); (case hr => first | (go_simp; done) | (go_simp; rfl)); intro gb281 hg w6 hbox hb; have BK281 := Aside0.mk hbox; have GW281 := ge_ HB hg; have GE281 := ge_ HB hg; have NB280_281 := nl_ BK280 hg; have NB281_280 := ng_ BK280 hg; replace HB := Aside0.mk (bt_ HB hb); replace BK280 := Aside0.mk (bb_ BK280 hb); clear hb hbox hg))
 (try simp only [Act.put, List.setIfInBounds_toArray, List.set_cons_zero, List.set_cons_succ])
 go_cut [31] (fun v31 wc => ∃ (kq : Nat) (x31_3 : Bool), v31 = .bool x31_3 ∧ Aside0 (impl_Changed.j0 kq a2 x31_3 a0_0 l0_1 a1_0 l1_1 = some r) ∧ Aside0 (kq ≤ k) ∧ Aside0 (wc.heap[gb280]? = some (.cells #[.int .i64 a0_0, (.slice A0_1 l0_1.length c0_1)] 30 (0, 0))) ∧ Aside0 (wc.heap[gb281]? = some (.cells #[.int .i64 a1_0, (.slice A1_1 l1_1.length c1_1)] 30 (0, 0))) ∧ Aside0 (Below w.heap.size w wc))
 case first =>
  have H := HC4.out
  clear HC4
  replace H := Option.bind_eq_some_iff.mp H
  obtain ⟨t282, A70, H⟩ := H
  have A7 := Aside0.mk A70
  clear A70
  by_cases c8 : t282 = true
  ·subst c8
   rw [if_pos rfl] at H
   replace H := Option.bind_eq_some_iff.mp H
   obtain ⟨t283, A90, H⟩ := H
   have A9 := Aside0.mk A90
   clear A90
   by_cases c10 : t283 = true
   ·subst c10
    rw [if_pos rfl] at H
    by_cases c11 : a0_0 = a1_0
    ·rw [if_pos c11] at H
     have c11b0 : (a0_0 == a1_0) = true := beq_iff_eq.mpr c11
     have c11b1 : (a0_0 != a1_0) = false := bne_eq_false_iff_eq.mpr c11
     clear c11
     (first | rw [c11b0] | (simp only [i64_w, i32_w]; rw [c11b0]) | skip)
     replace H := Option.bind_eq_some_iff.mp H
     obtain ⟨t284, A120, H⟩ := H
     have A12 := Aside0.mk A120
     clear A120
     have H' := Aside0.mk H
     clear H
     have hnb13 := NB280_281.out
     have hnc13 := NB281_280.out
     have hcz14_0 := cz_ BK280 0 (.int .i64 a0_0)
     have hcz14_1 := cz_ BK280 1 (.slice A0_1 l0_1.length c0_1)
     have hfz14_0 := blk_frozen BK280.out 0
     have hfz14_1 := blk_frozen BK280.out 1
     go_wp2_with (first | ((with_reducible refine gate_callee (f := 47) rfl ?_); refine gl_ (some 12) Try.func47 #[.agg #[.int .i64 a0_0, .slice A0_1 l0_1.length c0_1]] ?_; (with_reducible refine (impl_GraphOk.calls k a0_0 _ _ l0_1 true _ ?side1 ?side2 A7.out).mono ?_); (case side1 => exact cb_ HR0_1 HB); (case side2 => exact HC0_1.out); rintro e w15 ⟨rfl, hb⟩; refine ⟨_, rfl, ?_⟩; replace BK280 := Aside0.mk (bb_ BK280 hb); replace BK281 := Aside0.mk (bb_ BK281 hb); replace HB := Aside0.mk (bt_ HB hb); (try clear hb); (try clear hb2); (try clear hk); (try clear hi); have hcz16_0 := cz_ BK281 0 (.int .i64 a1_0); have hcz16_1 := cz_ BK281 1 (.slice A1_1 l1_1.length c1_1); have hfz16_0 := blk_frozen BK281.out 0; have hfz16_1 := blk_frozen BK281.out 1) | (go_at_call 47; (with_reducible refine (impl_GraphOk.calls k a1_0 _ _ l1_1 true _ ?side1 ?side2 A9.out).mono ?_); (case side1 => exact cb_ HR1_1 HB); (case side2 => exact HC1_1.out); rintro e w17 ⟨rfl, hb⟩; replace BK280 := Aside0.mk (bb_ BK280 hb); replace BK281 := Aside0.mk (bb_ BK281 hb); replace HB := Aside0.mk (bt_ HB hb); (try clear hb); (try clear hb2); (try clear hk); (try clear hi); have hcz18_0 := cz_ BK280 0 (.int .i64 a0_0); have hcz18_1 := cz_ BK280 1 (.slice A0_1 l0_1.length c0_1); have hfz18_0 := blk_frozen BK280.out 0; have hfz18_1 := blk_frozen BK280.out 1; have hcz19_0 := cz_ BK281 0 (.int .i64 a1_0); have hcz19_1 := cz_ BK281 1 (.slice A1_1 l1_1.length c1_1); have hfz19_0 := blk_frozen BK281.out 0; have hfz19_1 := blk_frozen BK281.out 1) | (go_at_call 48; (with_reducible refine (impl_Graph_isNode.calls a0_0 _ _ l0_1 a2 t284 _ ?side1 ?side2 A12.out).mono ?_); (case side1 => exact cb_ HR0_1 HB); (case side2 => exact HC0_1.out); rintro e w20 ⟨rfl, hb⟩; replace BK280 := Aside0.mk (bb_ BK280 hb); replace BK281 := Aside0.mk (bb_ BK281 hb); replace HB := Aside0.mk (bt_ HB hb); (try clear hb); (try clear hb2); (try clear hk); (try clear hi)))
     go_meet
     case rel => exact ⟨_, (!t284), (by first | rfl | (simp; done) | (simp [*]; done)), H', ⟨by first | omega | exact Nat.le_refl _⟩, ⟨by (with_reducible repeat (first | refine blk_drewN ?_ _ | refine blk_drew ?_ | refine blk_alloc ?_ _)); exact BK280.out⟩, ⟨by (with_reducible repeat (first | refine blk_drewN ?_ _ | refine blk_drew ?_ | refine blk_alloc ?_ _)); exact BK281.out⟩, ⟨by repeat (first | (with_reducible first | exact HB.out | apply below_alloc | apply pw_below_drewN | apply below_drew1 | refine below_set ?_ GE280.out | refine below_set ?_ GE281.out) | exact HB.out)⟩⟩
    ·rw [if_neg c11] at H
     have c11b0 : (a0_0 == a1_0) = false := beq_eq_false_iff_ne.mpr c11
     have c11b1 : (a0_0 != a1_0) = true := bne_iff_ne.mpr c11
     (first | rw [c11b0] | (simp only [i64_w, i32_w]; rw [c11b0]) | skip)
     have H' := Aside0.mk H
     clear H
     have hnb21 := NB280_281.out
     have hnc21 := NB281_280.out
     have hcz22_0 := cz_ BK280 0 (.int .i64 a0_0)
     have hcz22_1 := cz_ BK280 1 (.slice A0_1 l0_1.length c0_1)
     have hfz22_0 := blk_frozen BK280.out 0
     have hfz22_1 := blk_frozen BK280.out 1
     go_wp2_with (first | ((with_reducible refine gate_callee (f := 47) rfl ?_); refine gl_ (some 12) Try.func47 #[.agg #[.int .i64 a0_0, .slice A0_1 l0_1.length c0_1]] ?_; (with_reducible refine (impl_GraphOk.calls k a0_0 _ _ l0_1 true _ ?side1 ?side2 A7.out).mono ?_); (case side1 => exact cb_ HR0_1 HB); (case side2 => exact HC0_1.out); rintro e w23 ⟨rfl, hb⟩; refine ⟨_, rfl, ?_⟩; replace BK280 := Aside0.mk (bb_ BK280 hb); replace BK281 := Aside0.mk (bb_ BK281 hb); replace HB := Aside0.mk (bt_ HB hb); (try clear hb); (try clear hb2); (try clear hk); (try clear hi); have hcz24_0 := cz_ BK281 0 (.int .i64 a1_0); have hcz24_1 := cz_ BK281 1 (.slice A1_1 l1_1.length c1_1); have hfz24_0 := blk_frozen BK281.out 0; have hfz24_1 := blk_frozen BK281.out 1) | (go_at_call 47; (with_reducible refine (impl_GraphOk.calls k a1_0 _ _ l1_1 true _ ?side1 ?side2 A9.out).mono ?_); (case side1 => exact cb_ HR1_1 HB); (case side2 => exact HC1_1.out); rintro e w25 ⟨rfl, hb⟩; replace BK280 := Aside0.mk (bb_ BK280 hb); replace BK281 := Aside0.mk (bb_ BK281 hb); replace HB := Aside0.mk (bt_ HB hb); (try clear hb); (try clear hb2); (try clear hk); (try clear hi); have hcz26_0 := cz_ BK280 0 (.int .i64 a0_0); have hcz26_1 := cz_ BK280 1 (.slice A0_1 l0_1.length c0_1); have hfz26_0 := blk_frozen BK280.out 0; have hfz26_1 := blk_frozen BK280.out 1; have hcz27_0 := cz_ BK281 0 (.int .i64 a1_0); have hcz27_1 := cz_ BK281 1 (.slice A1_1 l1_1.length c1_1); have hfz27_0 := blk_frozen BK281.out 0; have hfz27_1 := blk_frozen BK281.out 1))
     go_meet
     case rel => exact ⟨_, (true), (by first | rfl | (simp; done) | (simp [*]; done)), H', ⟨by first | omega | exact Nat.le_refl _⟩, ⟨by (with_reducible repeat (first | refine blk_drewN ?_ _ | refine blk_drew ?_ | refine blk_alloc ?_ _)); exact BK280.out⟩, ⟨by (with_reducible repeat (first | refine blk_drewN ?_ _ | refine blk_drew ?_ | refine blk_alloc ?_ _)); exact BK281.out⟩, ⟨by repeat (first | (with_reducible first | exact HB.out | apply below_alloc | apply pw_below_drewN | apply below_drew1 | refine below_set ?_ GE280.out | refine below_set ?_ GE281.out) | exact HB.out)⟩⟩
   ·replace c10 := Bool.eq_false_iff.mpr c10
    subst c10
    rw [if_neg (show ¬ (false = true) by decide)] at H
    have H' := Aside0.mk H
    clear H
    have hnb28 := NB280_281.out
    have hnc28 := NB281_280.out
    have hcz29_0 := cz_ BK280 0 (.int .i64 a0_0)
    have hcz29_1 := cz_ BK280 1 (.slice A0_1 l0_1.length c0_1)
    have hfz29_0 := blk_frozen BK280.out 0
    have hfz29_1 := blk_frozen BK280.out 1
    go_wp2_with (first | ((with_reducible refine gate_callee (f := 47) rfl ?_); refine gl_ (some 12) Try.func47 #[.agg #[.int .i64 a0_0, .slice A0_1 l0_1.length c0_1]] ?_; (with_reducible refine (impl_GraphOk.calls k a0_0 _ _ l0_1 true _ ?side1 ?side2 A7.out).mono ?_); (case side1 => exact cb_ HR0_1 HB); (case side2 => exact HC0_1.out); rintro e w30 ⟨rfl, hb⟩; refine ⟨_, rfl, ?_⟩; replace BK280 := Aside0.mk (bb_ BK280 hb); replace BK281 := Aside0.mk (bb_ BK281 hb); replace HB := Aside0.mk (bt_ HB hb); (try clear hb); (try clear hb2); (try clear hk); (try clear hi); have hcz31_0 := cz_ BK281 0 (.int .i64 a1_0); have hcz31_1 := cz_ BK281 1 (.slice A1_1 l1_1.length c1_1); have hfz31_0 := blk_frozen BK281.out 0; have hfz31_1 := blk_frozen BK281.out 1) | (go_at_call 47; (with_reducible refine (impl_GraphOk.calls k a1_0 _ _ l1_1 false _ ?side1 ?side2 A9.out).mono ?_); (case side1 => exact cb_ HR1_1 HB); (case side2 => exact HC1_1.out); rintro e w32 ⟨rfl, hb⟩; replace BK280 := Aside0.mk (bb_ BK280 hb); replace BK281 := Aside0.mk (bb_ BK281 hb); replace HB := Aside0.mk (bt_ HB hb); (try clear hb); (try clear hb2); (try clear hk); (try clear hi)))
    go_meet
    case rel => exact ⟨_, (true), (by first | rfl | (simp; done) | (simp [*]; done)), H', ⟨by first | omega | exact Nat.le_refl _⟩, ⟨by (with_reducible repeat (first | refine blk_drewN ?_ _ | refine blk_drew ?_ | refine blk_alloc ?_ _)); exact BK280.out⟩, ⟨by (with_reducible repeat (first | refine blk_drewN ?_ _ | refine blk_drew ?_ | refine blk_alloc ?_ _)); exact BK281.out⟩, ⟨by repeat (first | (with_reducible first | exact HB.out | apply below_alloc | apply pw_below_drewN | apply below_drew1 | refine below_set ?_ GE280.out | refine below_set ?_ GE281.out) | exact HB.out)⟩⟩
  ·replace c8 := Bool.eq_false_iff.mpr c8
   subst c8
   rw [if_neg (show ¬ (false = true) by decide)] at H
   have H' := Aside0.mk H
   clear H
   have hnb33 := NB280_281.out
   have hnc33 := NB281_280.out
   have hcz34_0 := cz_ BK280 0 (.int .i64 a0_0)
   have hcz34_1 := cz_ BK280 1 (.slice A0_1 l0_1.length c0_1)
   have hfz34_0 := blk_frozen BK280.out 0
   have hfz34_1 := blk_frozen BK280.out 1
   go_wp2_with (first | ((with_reducible refine gate_callee (f := 47) rfl ?_); refine gl_ (some 12) Try.func47 #[.agg #[.int .i64 a0_0, .slice A0_1 l0_1.length c0_1]] ?_; (with_reducible refine (impl_GraphOk.calls k a0_0 _ _ l0_1 false _ ?side1 ?side2 A7.out).mono ?_); (case side1 => exact cb_ HR0_1 HB); (case side2 => exact HC0_1.out); rintro e w35 ⟨rfl, hb⟩; refine ⟨_, rfl, ?_⟩; replace BK280 := Aside0.mk (bb_ BK280 hb); replace BK281 := Aside0.mk (bb_ BK281 hb); replace HB := Aside0.mk (bt_ HB hb); (try clear hb); (try clear hb2); (try clear hk); (try clear hi)))
   go_meet
   case rel => exact ⟨_, (true), (by first | rfl | (simp; done) | (simp [*]; done)), H', ⟨by first | omega | exact Nat.le_refl _⟩, ⟨by (with_reducible repeat (first | refine blk_drewN ?_ _ | refine blk_drew ?_ | refine blk_alloc ?_ _)); exact BK280.out⟩, ⟨by (with_reducible repeat (first | refine blk_drewN ?_ _ | refine blk_drew ?_ | refine blk_alloc ?_ _)); exact BK281.out⟩, ⟨by repeat (first | (with_reducible first | exact HB.out | apply below_alloc | apply pw_below_drewN | apply below_drew1 | refine below_set ?_ GE280.out | refine below_set ?_ GE281.out) | exact HB.out)⟩⟩
 case rest =>
  clear HC4
  try clear c1
  try clear c2
  try clear p2
  try clear c3
  try clear c4
  try clear c8
  try clear c10
  try clear c11
  try clear c11b0
  try clear c11b1
  try clear c13
  try clear c21
  try clear c22
  try clear c28
  try clear c33
  try clear hcz14_0
  try clear hcz14_1
  try clear hcz16_0
  try clear hcz16_1
  try clear hcz18_0
  try clear hcz18_1
  try clear hcz19_0
  try clear hcz19_1
  try clear hcz22_0
  try clear hcz22_1
  try clear hcz24_0
  try clear hcz24_1
  try clear hcz26_0
  try clear hcz26_1
  try clear hcz27_0
  try clear hcz27_1
  try clear hcz29_0
  try clear hcz29_1
  try clear hcz31_0
  try clear hcz31_1
  try clear hcz34_0
  try clear hcz34_1
  try clear hfz14_0
  try clear hfz14_1
  try clear hfz16_0
  try clear hfz16_1
  try clear hfz18_0
  try clear hfz18_1
  try clear hfz19_0
  try clear hfz19_1
  try clear hfz22_0
  try clear hfz22_1
  try clear hfz24_0
  try clear hfz24_1
  try clear hfz26_0
  try clear hfz26_1
  try clear hfz27_0
  try clear hfz27_1
  try clear hfz29_0
  try clear hfz29_1
  try clear hfz31_0
  try clear hfz31_1
  try clear hfz34_0
  try clear hfz34_1
  obtain ⟨kq, x31_3, rfl, HA, HJ3, BK280, BK281, HB⟩ := hcut
  cases kq with
  | zero => exact absurd HA.out (by simp [impl_Changed.j0])
  | succ kj3 =>
   have H := HA.out
   clear HA
   simp only [impl_Changed.j0] at H
   by_cases c36 : x31_3 = true
   ·subst c36
    rw [if_pos rfl] at H
    obtain rfl := Option.some.inj H
    go_wp2
    go_ret
    exact ⟨_, by first | rfl | (simp [errW_none, errW_some] <;> rfl) | (simp [*, errW_none, errW_some] <;> rfl), by first | exact Kd.R_nil _ _ _ _ _ | exact Kd.N_nil _ _ _ _ _ | exact Kd.V_nil _ _ _ _ _ | exact Kd.Q_nil _ _ _ _ _ | exact Kd.S_nil _ _ _ _ _, by repeat (first | (with_reducible first | exact HB.out | apply below_alloc | apply pw_below_drewN | apply below_drew1 | refine below_set ?_ GE280.out | refine below_set ?_ GE281.out) | exact HB.out)⟩
   ·replace c36 := Bool.eq_false_iff.mpr c36
    subst c36
    rw [if_neg (show ¬ (false = true) by decide)] at H
    replace H := Option.bind_eq_some_iff.mp H
    obtain ⟨t285, A370, H⟩ := H
    have A37 := Aside0.mk A370
    clear A370
    replace H := Option.bind_eq_some_iff.mp H
    obtain ⟨t288, A380, H⟩ := H
    have A38 := Aside0.mk A380
    clear A380
    obtain ⟨y291, hy291⟩ : ∃ y_ : List Int, y_ = (([] : List Int)) := ⟨_, rfl⟩
    replace H : (impl_Changed.l0 kj3 t285 t288 y291 (t285.length : Int) 0) = some r := by first | (rw [hy291]; with_reducible exact H) | (have H2_ := (Option.bind_some _ _).symm.trans H; rw [hy291]; with_reducible exact H2_) | (have H2_ := (Option.bind_some _ _).symm.trans H; with_reducible exact H2_) | with_reducible exact H | (rw [hy291]; exact H) | exact H
    have Ny291 := Aside0.mk hy291
    clear hy291
    have H' := Aside0.mk H
    clear H
    try go_wp2
    replace BK280 := Aside0.mk (blk_drew BK280.out)
    replace BK281 := Aside0.mk (blk_drew BK281.out)
    replace HB := Aside0.mk (below_drew1 HB.out)
    refine start_ (n := 8) (S := fun w' => w'.cell? ⟨gb280, 0, none⟩ = some (.int .i64 a0_0) ∧ w'.cell? ⟨gb280, 1, none⟩ = some (.slice A0_1 l0_1.length c0_1) ∧ w'.cell? ⟨gb281, 0, none⟩ = some (.int .i64 a1_0) ∧ w'.cell? ⟨gb281, 1, none⟩ = some (.slice A1_1 l1_1.length c1_1)) (ds := []) ba11_0 (by kernel_rfl) rfl rfl ⟨(blk_cell BK280.out 0).trans rfl, (blk_cell BK280.out 1).trans rfl, (blk_cell BK281.out 0).trans rfl, (blk_cell BK281.out 1).trans rfl⟩ (fun hHeld => ?_); refine with_tabW impl_Changed.tab3 impl_Changed.bits3 (fun HT_ HW_ => ?_)
    generalize wc.drew = w39 at BK280 BK281 HB hHeld ⊢
    refine pz_ 1 33 ba11_1 HT_ ?_
    refine pz_ 4 36 ba11_2 HT_ ?_
    refine pt_ 0 32 ba11_3 HT_ HW_ hHeld ?_
    refine pt_ 3 35 ba11_4 HT_ HW_ hHeld ?_
    refine one_ (i := 2) (N := some 34) ba11_5 rfl rfl (one_of HT_.out (by kernel_rfl)) (by decide) (fun K hK => ?_)
    refine gz_ Try.func60 #[.agg #[.int .i64 a0_0, .slice A0_1 l0_1.length c0_1], .int .i64 a2] ?_
    with_reducible refine (impl_Graph_hopTable.calls kj3 a0_0 _ _ l0_1 a2 t285 _ ?side1 ?side2 A37.out).mono ?_
    (case side1 => exact cb_ HR0_1 HB)
    (case side2 => exact HC0_1.out)
    rintro e w40 ⟨v286, rfl, ho0, hb⟩
    refine ⟨_, rfl, ?_⟩
    have HO287 := Aside0.mk (Kd.S_lower ho0 (bz_ HB))
    replace BK280 := Aside0.mk (bb_ BK280 hb)
    replace BK281 := Aside0.mk (bb_ BK281 hb)
    replace HB := Aside0.mk (bt_ HB hb)
    (try clear hb)
    (try clear hb2)
    (try clear hk)
    (try clear hi)
    (try clear ho0)
    refine hK.out _ _ ⟨(blk_cell BK280.out 0).trans rfl, (blk_cell BK280.out 1).trans rfl, (blk_cell BK281.out 0).trans rfl, (blk_cell BK281.out 1).trans rfl⟩ (fun hHeld => ?_)
    clear hK K
    refine nz_ 34 ?_
    refine one_ (i := 5) (N := some 37) ba11_6 rfl rfl (one_of HT_.out (by kernel_rfl)) (by decide) (fun K hK => ?_)
    refine gz_ Try.func60 #[.agg #[.int .i64 a1_0, .slice A1_1 l1_1.length c1_1], .int .i64 a2] ?_
    with_reducible refine (impl_Graph_hopTable.calls kj3 a1_0 _ _ l1_1 a2 t288 _ ?side1 ?side2 A38.out).mono ?_
    (case side1 => exact cb_ HR1_1 HB)
    (case side2 => exact HC1_1.out)
    rintro e w41 ⟨v289, rfl, ho0, hb⟩
    refine ⟨_, rfl, ?_⟩
    have HO290 := Aside0.mk (Kd.S_lower (Kd.S_new' ho0 (Kd.S_lt (by (with_reducible repeat (first | apply Kd.S_alloc | apply Kd.S_drewN | apply Kd.S_drew)); exact HO287.out))) (bz_ HB))
    replace HO287 := Aside0.mk (Kd.S_elder' (by (with_reducible repeat (first | apply Kd.S_alloc | apply Kd.S_drewN | apply Kd.S_drew)); exact HO287.out) (Kd.S_base ho0) hb)
    replace BK280 := Aside0.mk (bb_ BK280 hb)
    replace BK281 := Aside0.mk (bb_ BK281 hb)
    replace HB := Aside0.mk (bt_ HB hb)
    (try clear hb)
    (try clear hb2)
    (try clear hk)
    (try clear hi)
    (try clear ho0)
    refine hK.out _ _ ⟨(blk_cell BK280.out 0).trans rfl, (blk_cell BK280.out 1).trans rfl, (blk_cell BK281.out 0).trans rfl, (blk_cell BK281.out 1).trans rfl⟩ (fun hHeld => ?_)
    clear hK K
    refine nz_ 37 ?_
    refine pz_ 6 7 ba11_7 HT_ ?_
    refine pz_ 7 8 ba11_8 HT_ ?_
    refine done_ (done_of HT_.out (by kernel_rfl)) ?_
    try go_wp2_with (first | ((with_reducible refine gate_dst (N := 38) rfl ?_); refine Kd.R_lit (Kd.int .i64) _ 3 ?hg (N := 38) ?hd (xs := ([] : List Int)) (inner := []) (ok := fun _ => True) (okp := fun _ => True) ?hr ?hp (fun _ hk => hk) trivial (Below.refl _ _) (Nat.le_refl _) (by simp) ?_; (case hd => rfl); (case hg => rfl); (case hr => first | (go_simp; done) | (go_simp; rfl)); (case hp => exact (Reps.none _ _)); intro v292 w42 ho43 hb hg_ hnew_; clear hg_ hnew_; (first | rw [← Ny291.out] at ho43 | (simp only [Int.reduceToNat] at ho43; rw [← Ny291.out] at ho43)); have HO293 := Aside0.mk (Kd.R_lower ho43 (bz_ HB)); replace HO287 := Aside0.mk (Kd.S_elder' (by (with_reducible repeat (first | apply Kd.S_alloc | apply Kd.S_drewN | apply Kd.S_drew)); exact HO287.out) (Kd.R_base ho43) hb); replace HO290 := Aside0.mk (Kd.S_elder' (by (with_reducible repeat (first | apply Kd.S_alloc | apply Kd.S_drewN | apply Kd.S_drew)); exact HO290.out) (Kd.R_base ho43) hb); replace BK280 := Aside0.mk (bb_ BK280 hb); replace BK281 := Aside0.mk (bb_ BK281 hb); replace HB := Aside0.mk (bt_ HB hb); clear hb ho43; obtain ⟨Ao44, co44, eo44⟩ := Kd.S_slice HO287.out; subst eo44))
    go_loopg [9, 41] kj3 (fun kq v9 v41 w' => ∃ (x9_2 : List Int) (x41_2 : Int), v41 = .int .i64 x41_2 ∧ Aside0 (impl_Changed.l0 kq t285 t288 x9_2 (t285.length : Int) x41_2 = some r) ∧ Aside0 (kq ≤ kj3) ∧ Aside0 (Kd.S (Kd.slice 3 (Kd.int .i64)) 26 w' w.heap.size (fun k_ => some k_ ≠ (v289 : Value).ownBlock ∧ some k_ ≠ (v9 : Value).ownBlock) (.slice Ao44 t285.length co44) t285) ∧ Aside0 (Kd.S (Kd.slice 3 (Kd.int .i64)) 26 w' w.heap.size (fun k_ => some k_ ≠ ((.slice Ao44 t285.length co44) : Value).ownBlock ∧ some k_ ≠ (v9 : Value).ownBlock) v289 t288) ∧ Aside0 (Kd.R (Kd.int .i64) 3 w' w.heap.size (fun _ => True) v9 x9_2) ∧ Aside0 (w'.heap[gb280]? = some (.cells #[.int .i64 a0_0, (.slice A0_1 l0_1.length c0_1)] 30 (0, 0))) ∧ Aside0 (w'.heap[gb281]? = some (.cells #[.int .i64 a1_0, (.slice A1_1 l1_1.length c1_1)] 30 (0, 0))) ∧ Aside0 (Below w.heap.size w w'))
    case atStart => exact ⟨(y291), (0), (by first | rfl | (simp; done) | (simp [*]; done)), H', ⟨Nat.le_refl _⟩, ⟨by (with_reducible repeat (first | apply Kd.S_alloc | apply Kd.S_drewN | apply Kd.S_drew)); exact Kd.S_mono HO287.out (fun _ hk => by first | exact ⟨hk.1.2, hk.2⟩ | grind)⟩, ⟨by (with_reducible repeat (first | apply Kd.S_alloc | apply Kd.S_drewN | apply Kd.S_drew)); exact Kd.S_mono HO290.out (fun _ hk => by first | exact ⟨hk.1.2, hk.2⟩ | grind)⟩, ⟨by (with_reducible repeat (first | apply Kd.R_alloc | apply Kd.R_drewN | apply Kd.R_drew)); exact HO293.out⟩, ⟨by (with_reducible repeat (first | refine blk_drewN ?_ _ | refine blk_drew ?_ | refine blk_alloc ?_ _)); exact BK280.out⟩, ⟨by (with_reducible repeat (first | refine blk_drewN ?_ _ | refine blk_drew ?_ | refine blk_alloc ?_ _)); exact BK281.out⟩, ⟨by repeat (first | (with_reducible first | exact HB.out | apply below_alloc | apply pw_below_drewN | apply below_drew1 | refine below_set ?_ GE280.out | refine below_set ?_ GE281.out) | exact HB.out)⟩⟩
    case round =>
     clear H'
     try clear c1
     try clear c2
     try clear p2
     try clear c3
     try clear c4
     try clear c6
     try clear c8
     try clear c10
     try clear c11
     try clear c11b0
     try clear c11b1
     try clear c13
     try clear c21
     try clear c22
     try clear c28
     try clear c33
     try clear c36
     try clear hcz14_0
     try clear hcz14_1
     try clear hcz16_0
     try clear hcz16_1
     try clear hcz18_0
     try clear hcz18_1
     try clear hcz19_0
     try clear hcz19_1
     try clear hcz22_0
     try clear hcz22_1
     try clear hcz24_0
     try clear hcz24_1
     try clear hcz26_0
     try clear hcz26_1
     try clear hcz27_0
     try clear hcz27_1
     try clear hcz29_0
     try clear hcz29_1
     try clear hcz31_0
     try clear hcz31_1
     try clear hcz34_0
     try clear hcz34_1
     try clear hfz14_0
     try clear hfz14_1
     try clear hfz16_0
     try clear hfz16_1
     try clear hfz18_0
     try clear hfz18_1
     try clear hfz19_0
     try clear hfz19_1
     try clear hfz22_0
     try clear hfz22_1
     try clear hfz24_0
     try clear hfz24_1
     try clear hfz26_0
     try clear hfz26_1
     try clear hfz27_0
     try clear hfz27_1
     try clear hfz29_0
     try clear hfz29_1
     try clear hfz31_0
     try clear hfz31_1
     try clear hfz34_0
     try clear hfz34_1
     try clear p2
     obtain ⟨x9_2, x41_2, rfl, HA, HK2, HO_7, HO_8, HO_9, BK280, BK281, HB⟩ := hrel
     cases gk with
     | zero => exact absurd HA.out (by simp [impl_Changed.l0])
     | succ k2 =>
      have H := HA.out
      clear HA
      simp only [impl_Changed.l0] at H
      by_cases c45 : x41_2 < (t285.length : Int)
      ·rw [if_pos c45] at H
       have c45b0 : decide (x41_2 < (t285.length : Int)) = true := decide_eq_true c45
       clear c45
       by_cases c46 : 0 ≤ x41_2
       ·rw [if_pos c46] at H
        have c46b0 : decide (0 ≤ x41_2) = true := decide_eq_true c46
        clear c46
        by_cases c47 : x41_2 < (t285.length : Int)
        ·rw [if_pos c47] at H
         have c47b0 : decide (x41_2 < (t285.length : Int)) = true := decide_eq_true c47
         clear c47
         by_cases c48 : x41_2 < (t288.length : Int)
         ·rw [if_pos c48] at H
          have c48b0 : decide (x41_2 < (t288.length : Int)) = true := decide_eq_true c48
          clear c48
          replace H := Option.bind_eq_some_iff.mp H
          obtain ⟨t296, A490, H⟩ := H
          have A49 := Aside0.mk A490
          clear A490
          by_cases c50 : t296 = true
          ·subst c50
           rw [if_pos rfl] at H
           have H' := Aside0.mk H
           clear H
           try go_wp2
           replace HO_7 := Aside0.mk (Kd.S_drew HO_7.out)
           replace HO_8 := Aside0.mk (Kd.S_drew HO_8.out)
           replace HO_9 := Aside0.mk (Kd.R_drew HO_9.out)
           replace BK280 := Aside0.mk (blk_drew BK280.out)
           replace BK281 := Aside0.mk (blk_drew BK281.out)
           replace HB := Aside0.mk (below_drew1 HB.out)
           have p294 : 0 ≤ (x41_2 : Int) := of_decide_eq_true (by first | (with_reducible assumption) | assumption)
           have q294 : x41_2 < (t285.length : Int) := of_decide_eq_true (by first | (with_reducible assumption) | assumption)
           obtain ⟨ad294, A294_0, c294_0, e294, hx294_0, hl294_0, hi294_0⟩ := at_L3 (Kd.S_reads' HO_7.out).2.2 x41_2 p294 q294
           cases e294
           obtain ⟨ce294, hce294, hMe294, hcc294⟩ := Kd.S_get HO_7.out [] x41_2 p294 (by first | exact q294 | exact of_decide_eq_true (by first | (with_reducible assumption) | assumption) | (have e_ := (Kd.S_reads' HO_7.out).1; omega))
           obtain ⟨ve294_0, rfl, ge294_0⟩ := hMe294
           have hv294_0 := hcc294 0 _ rfl
           rw [Nat.add_zero, show ((Kd.slice 3 (Kd.int .i64))).sz = 1 from rfl, Nat.mul_one] at hv294_0
           replace hv294_0 := Option.some.inj (hv294_0.symm.trans hx294_0)
           rw [hv294_0] at ge294_0
           have HL294_0 := Aside0.mk (show Kd.R (Kd.int .i64) 3 _ _ _ _ (rd_L3 t285 x41_2) from ge294_0)
           clear hv294_0 ge294_0
           clear hcc294 hce294
           have HR294_0 := Aside0.mk hi294_0
           have HC294_0 := Aside0.mk hl294_0
           clear hi294_0 hl294_0
           replace p294 := eq_true p294
           replace q294 := eq_true q294
           obtain ⟨Ao52, co52, eo52⟩ := Kd.S_slice HO_8.out
           (first | subst eo52 | (injection eo52 with f1_ f2_ f3_; have f4_ := f1_.symm; have f5_ := f3_.symm; clear f1_ f2_ f3_; subst f4_; subst f5_))
           have p295 : 0 ≤ (x41_2 : Int) := of_decide_eq_true (by first | (with_reducible assumption) | assumption)
           have q295 : x41_2 < (t288.length : Int) := of_decide_eq_true (by first | (with_reducible assumption) | assumption)
           obtain ⟨ad295, A295_0, c295_0, e295, hx295_0, hl295_0, hi295_0⟩ := at_L3 (Kd.S_reads' HO_8.out).2.2 x41_2 p295 q295
           cases e295
           obtain ⟨ce295, hce295, hMe295, hcc295⟩ := Kd.S_get HO_8.out [] x41_2 p295 (by first | exact q295 | exact of_decide_eq_true (by first | (with_reducible assumption) | assumption) | (have e_ := (Kd.S_reads' HO_8.out).1; omega))
           obtain ⟨ve295_0, rfl, ge295_0⟩ := hMe295
           have hv295_0 := hcc295 0 _ rfl
           rw [Nat.add_zero, show ((Kd.slice 3 (Kd.int .i64))).sz = 1 from rfl, Nat.mul_one] at hv295_0
           replace hv295_0 := Option.some.inj (hv295_0.symm.trans hx295_0)
           rw [hv295_0] at ge295_0
           have HL295_0 := Aside0.mk (show Kd.R (Kd.int .i64) 3 _ _ _ _ (rd_L3 t288 x41_2) from ge295_0)
           clear hv295_0 ge295_0
           clear hcc295 hce295
           have HR295_0 := Aside0.mk hi295_0
           have HC295_0 := Aside0.mk hl295_0
           clear hi295_0 hl295_0
           replace p295 := eq_true p295
           replace q295 := eq_true q295
           refine start_ (n := 10) (S := fun w' => w'.cell? (ad294.add (x41_2).toNat) = some (.slice A294_0 (rd_L3 t285 x41_2).length c294_0) ∧ w'.cell? (ad295.add (x41_2).toNat) = some (.slice A295_0 (rd_L3 t288 x41_2).length c295_0)) (ds := []) ba11_9 (by kernel_rfl) rfl rfl ⟨hx294_0, hx295_0⟩ (fun hHeld => ?_); refine with_tabW impl_Changed.tab8 impl_Changed.bits8 (fun HT_ HW_ => ?_)
           generalize wr.drew = w51 at HO_7 HO_8 HO_9 BK280 BK281 HB HL294_0 HL295_0 HR294_0 HR295_0 hx294_0 hx295_0 hHeld ⊢
           refine pz_ 0 44 ba11_10 HT_ ?_
           refine pz_ 1 45 ba11_11 HT_ ?_
           refine pz_ 2 46 ba11_12 HT_ ?_
           refine pz_ 4 48 ba11_13 HT_ ?_
           refine pz_ 5 49 ba11_14 HT_ ?_
           refine pz_ 6 50 ba11_15 HT_ ?_
           refine pt_ 3 47 ba11_16 HT_ HW_ hHeld ?_
           refine pt_ 7 51 ba11_17 HT_ HW_ hHeld ?_
           refine one_ (i := 8) (N := some 52) ba11_18 rfl rfl (one_of HT_.out (by kernel_rfl)) (by decide) (fun K hK => ?_)
           refine gz_ Try.func61 #[.slice A294_0 (rd_L3 t285 x41_2).length c294_0, .slice A295_0 (rd_L3 t288 x41_2).length c295_0] ?_
           with_reducible refine (slices_Equal_int_int.calls k2 _ _ (rd_L3 t285 x41_2) _ _ (rd_L3 t288 x41_2) true _ ?side1 ?side2 ?side3 ?side4 A49.out).mono ?_
           (case side1 => repeat (first | exact (by repeat (first | (with_reducible exact HR294_0.out) | (with_reducible refine Kd.C_alloc ?_ _) | (with_reducible refine Kd.C_drewN ?_ _) | (with_reducible refine Kd.C_drew ?_) | exact HR294_0.out)) | (with_reducible refine Kd.C_alloc ?_ _) | (with_reducible refine Kd.C_drewN ?_ _) | (with_reducible refine Kd.C_drew ?_)))
           (case side2 => exact HC294_0.out)
           (case side3 => repeat (first | exact (by repeat (first | (with_reducible exact HR295_0.out) | (with_reducible refine Kd.C_alloc ?_ _) | (with_reducible refine Kd.C_drewN ?_ _) | (with_reducible refine Kd.C_drew ?_) | exact HR295_0.out)) | (with_reducible refine Kd.C_alloc ?_ _) | (with_reducible refine Kd.C_drewN ?_ _) | (with_reducible refine Kd.C_drew ?_)))
           (case side4 => exact HC295_0.out)
           rintro e w' ⟨rfl, ⟨nd, rfl⟩⟩
           refine ⟨_, rfl, ?_⟩
           refine hK.out _ _ ⟨hHeld.1, hHeld.2⟩ (fun hHeld => ?_)
           clear hK K
           refine nz_ 52 ?_
           refine pz_ 9 53 ba11_19 HT_ ?_
           refine done_ (done_of HT_.out (by kernel_rfl)) ?_
           try go_wp2
           go_roundg k2
           case measure => have := HJ3.out; have := HK2.out; omega
           case rel => exact ⟨(x9_2), (wrap64 (x41_2 + 1)), (by first | rfl | (simp; done) | (simp [*]; done)), H', ⟨by have := HJ3.out; have := HK2.out; omega⟩, ⟨by (with_reducible repeat (first | apply Kd.S_alloc | apply Kd.S_drewN | apply Kd.S_drew)); exact HO_7.out⟩, ⟨by (with_reducible repeat (first | apply Kd.S_alloc | apply Kd.S_drewN | apply Kd.S_drew)); exact HO_8.out⟩, ⟨by (with_reducible repeat (first | apply Kd.R_alloc | apply Kd.R_drewN | apply Kd.R_drew)); exact HO_9.out⟩, ⟨by (with_reducible repeat (first | refine blk_drewN ?_ _ | refine blk_drew ?_ | refine blk_alloc ?_ _)); exact BK280.out⟩, ⟨by (with_reducible repeat (first | refine blk_drewN ?_ _ | refine blk_drew ?_ | refine blk_alloc ?_ _)); exact BK281.out⟩, ⟨by repeat (first | (with_reducible first | exact HB.out | apply below_alloc | apply pw_below_drewN | apply below_drew1 | refine below_set ?_ GE280.out | refine below_set ?_ GE281.out) | exact HB.out)⟩⟩
          ·replace c50 := Bool.eq_false_iff.mpr c50
           subst c50
           rw [if_neg (show ¬ (false = true) by decide)] at H
           by_cases c53 : x9_2.length < 17592186044416
           ·rw [if_pos c53] at H
            have LMc53 := Aside0.mk c53
            clear c53
            obtain ⟨y297, hy297⟩ : ∃ y_ : List Int, y_ = (x9_2 ++ [x41_2]) := ⟨_, rfl⟩
            replace H : (impl_Changed.l0 k2 t285 t288 y297 (t285.length : Int) (wrap64 (x41_2 + 1))) = some r := by first | (rw [hy297]; with_reducible exact H) | (have H2_ := (Option.bind_some _ _).symm.trans H; rw [hy297]; with_reducible exact H2_) | (have H2_ := (Option.bind_some _ _).symm.trans H; with_reducible exact H2_) | with_reducible exact H | (rw [hy297]; exact H) | exact H
            have Ny297 := Aside0.mk hy297
            clear hy297
            have H' := Aside0.mk H
            clear H
            try go_wp2
            replace HO_7 := Aside0.mk (Kd.S_drew HO_7.out)
            replace HO_8 := Aside0.mk (Kd.S_drew HO_8.out)
            replace HO_9 := Aside0.mk (Kd.R_drew HO_9.out)
            replace BK280 := Aside0.mk (blk_drew BK280.out)
            replace BK281 := Aside0.mk (blk_drew BK281.out)
            replace HB := Aside0.mk (below_drew1 HB.out)
            have p294 : 0 ≤ (x41_2 : Int) := of_decide_eq_true (by first | (with_reducible assumption) | assumption)
            have q294 : x41_2 < (t285.length : Int) := of_decide_eq_true (by first | (with_reducible assumption) | assumption)
            obtain ⟨ad294, A294_0, c294_0, e294, hx294_0, hl294_0, hi294_0⟩ := at_L3 (Kd.S_reads' HO_7.out).2.2 x41_2 p294 q294
            cases e294
            obtain ⟨ce294, hce294, hMe294, hcc294⟩ := Kd.S_get HO_7.out [] x41_2 p294 (by first | exact q294 | exact of_decide_eq_true (by first | (with_reducible assumption) | assumption) | (have e_ := (Kd.S_reads' HO_7.out).1; omega))
            obtain ⟨ve294_0, rfl, ge294_0⟩ := hMe294
            have hv294_0 := hcc294 0 _ rfl
            rw [Nat.add_zero, show ((Kd.slice 3 (Kd.int .i64))).sz = 1 from rfl, Nat.mul_one] at hv294_0
            replace hv294_0 := Option.some.inj (hv294_0.symm.trans hx294_0)
            rw [hv294_0] at ge294_0
            have HL294_0 := Aside0.mk (show Kd.R (Kd.int .i64) 3 _ _ _ _ (rd_L3 t285 x41_2) from ge294_0)
            clear hv294_0 ge294_0
            clear hcc294 hce294
            have HR294_0 := Aside0.mk hi294_0
            have HC294_0 := Aside0.mk hl294_0
            clear hi294_0 hl294_0
            replace p294 := eq_true p294
            replace q294 := eq_true q294
            obtain ⟨Ao55, co55, eo55⟩ := Kd.S_slice HO_8.out
            (first | subst eo55 | (injection eo55 with f1_ f2_ f3_; have f4_ := f1_.symm; have f5_ := f3_.symm; clear f1_ f2_ f3_; subst f4_; subst f5_))
            have p295 : 0 ≤ (x41_2 : Int) := of_decide_eq_true (by first | (with_reducible assumption) | assumption)
            have q295 : x41_2 < (t288.length : Int) := of_decide_eq_true (by first | (with_reducible assumption) | assumption)
            obtain ⟨ad295, A295_0, c295_0, e295, hx295_0, hl295_0, hi295_0⟩ := at_L3 (Kd.S_reads' HO_8.out).2.2 x41_2 p295 q295
            cases e295
            obtain ⟨ce295, hce295, hMe295, hcc295⟩ := Kd.S_get HO_8.out [] x41_2 p295 (by first | exact q295 | exact of_decide_eq_true (by first | (with_reducible assumption) | assumption) | (have e_ := (Kd.S_reads' HO_8.out).1; omega))
            obtain ⟨ve295_0, rfl, ge295_0⟩ := hMe295
            have hv295_0 := hcc295 0 _ rfl
            rw [Nat.add_zero, show ((Kd.slice 3 (Kd.int .i64))).sz = 1 from rfl, Nat.mul_one] at hv295_0
            replace hv295_0 := Option.some.inj (hv295_0.symm.trans hx295_0)
            rw [hv295_0] at ge295_0
            have HL295_0 := Aside0.mk (show Kd.R (Kd.int .i64) 3 _ _ _ _ (rd_L3 t288 x41_2) from ge295_0)
            clear hv295_0 ge295_0
            clear hcc295 hce295
            have HR295_0 := Aside0.mk hi295_0
            have HC295_0 := Aside0.mk hl295_0
            clear hi295_0 hl295_0
            replace p295 := eq_true p295
            replace q295 := eq_true q295
            refine start_ (n := 10) (S := fun w' => w'.cell? (ad294.add (x41_2).toNat) = some (.slice A294_0 (rd_L3 t285 x41_2).length c294_0) ∧ w'.cell? (ad295.add (x41_2).toNat) = some (.slice A295_0 (rd_L3 t288 x41_2).length c295_0)) (ds := []) ba11_9 (by kernel_rfl) rfl rfl ⟨hx294_0, hx295_0⟩ (fun hHeld => ?_); refine with_tabW impl_Changed.tab8 impl_Changed.bits8 (fun HT_ HW_ => ?_)
            generalize wr.drew = w54 at HO_7 HO_8 HO_9 BK280 BK281 HB HL294_0 HL295_0 HR294_0 HR295_0 hx294_0 hx295_0 hHeld ⊢
            refine pz_ 0 44 ba11_10 HT_ ?_
            refine pz_ 1 45 ba11_11 HT_ ?_
            refine pz_ 2 46 ba11_12 HT_ ?_
            refine pz_ 4 48 ba11_13 HT_ ?_
            refine pz_ 5 49 ba11_14 HT_ ?_
            refine pz_ 6 50 ba11_15 HT_ ?_
            refine pt_ 3 47 ba11_16 HT_ HW_ hHeld ?_
            refine pt_ 7 51 ba11_17 HT_ HW_ hHeld ?_
            refine one_ (i := 8) (N := some 52) ba11_18 rfl rfl (one_of HT_.out (by kernel_rfl)) (by decide) (fun K hK => ?_)
            refine gz_ Try.func61 #[.slice A294_0 (rd_L3 t285 x41_2).length c294_0, .slice A295_0 (rd_L3 t288 x41_2).length c295_0] ?_
            with_reducible refine (slices_Equal_int_int.calls k2 _ _ (rd_L3 t285 x41_2) _ _ (rd_L3 t288 x41_2) false _ ?side1 ?side2 ?side3 ?side4 A49.out).mono ?_
            (case side1 => repeat (first | exact (by repeat (first | (with_reducible exact HR294_0.out) | (with_reducible refine Kd.C_alloc ?_ _) | (with_reducible refine Kd.C_drewN ?_ _) | (with_reducible refine Kd.C_drew ?_) | exact HR294_0.out)) | (with_reducible refine Kd.C_alloc ?_ _) | (with_reducible refine Kd.C_drewN ?_ _) | (with_reducible refine Kd.C_drew ?_)))
            (case side2 => exact HC294_0.out)
            (case side3 => repeat (first | exact (by repeat (first | (with_reducible exact HR295_0.out) | (with_reducible refine Kd.C_alloc ?_ _) | (with_reducible refine Kd.C_drewN ?_ _) | (with_reducible refine Kd.C_drew ?_) | exact HR295_0.out)) | (with_reducible refine Kd.C_alloc ?_ _) | (with_reducible refine Kd.C_drewN ?_ _) | (with_reducible refine Kd.C_drew ?_)))
            (case side4 => exact HC295_0.out)
            rintro e w' ⟨rfl, ⟨nd, rfl⟩⟩
            refine ⟨_, rfl, ?_⟩
            refine hK.out _ _ ⟨hHeld.1, hHeld.2⟩ (fun hHeld => ?_)
            clear hK K
            refine nz_ 52 ?_
            refine pz_ 9 53 ba11_19 HT_ ?_
            refine done_ (done_of HT_.out (by kernel_rfl)) ?_
            try go_wp2_with (first | ((with_reducible refine gate_builtin (b := .append) (xs := #[.tmp 54, .tmp 56]) rfl ?_); at_builtin; refine Kd.R_append (Kd.int .i64) (w0 := w) w.heap.size rfl (.tmp 54) (.tmp 56) 26 3 (.int .i64 0) 8 rfl Try.underlying26 info3 rfl (by decide) (by omega) u9 x9_2 x41_2 [.int .i64 x41_2] (fun _ => True) (fun _ => False) rfl rfl ?aP (fun _ hk => hk.elim) ?aF ?aO ?aB ?aS ?aL ?_; (case aP => exact rfl); (case aB => exact (by repeat (first | (with_reducible first | exact HB.out | apply below_alloc | apply pw_below_drewN | apply below_drew1 | refine below_set ?_ GE280.out | refine below_set ?_ GE281.out) | exact HB.out))); (case aF => exact (fun _ _ => trivial)); (case aO => exact (hd_ HO_9)); (case aS => exact (bz_ HB)); (case aL => have := LMc53.out; omega); intro v298 w56 ho hb hg hat; rw [← Ny297.out] at ho; have HO299 := Aside0.mk ho; replace HO_7 := Aside0.mk (Kd.S_after (ok := (fun k_ => some k_ ≠ (.slice (some ad295) t288.length co55 : Value).ownBlock)) (by (with_reducible repeat (first | apply Kd.S_alloc | apply Kd.S_drewN | apply Kd.S_drew)); exact HO_7.out) hg hat); replace HO_8 := Aside0.mk (Kd.S_after (ok := (fun k_ => some k_ ≠ (.slice (some ad294) t285.length co44 : Value).ownBlock)) (by (with_reducible repeat (first | apply Kd.S_alloc | apply Kd.S_drewN | apply Kd.S_drew)); exact HO_8.out) hg hat); replace BK280 := Aside0.mk (blk_grown (g := gb280) (o := .cells #[.int .i64 a0_0, .slice A0_1 l0_1.length c0_1] 30 (0, 0)) (by (with_reducible repeat (first | refine blk_drewN ?_ _ | refine blk_drew ?_ | refine blk_alloc ?_ _)); exact BK280.out) hg (Kd.R_ne HO_9.out BK280.out (by decide))); replace BK281 := Aside0.mk (blk_grown (g := gb281) (o := .cells #[.int .i64 a1_0, .slice A1_1 l1_1.length c1_1] 30 (0, 0)) (by (with_reducible repeat (first | refine blk_drewN ?_ _ | refine blk_drew ?_ | refine blk_alloc ?_ _)); exact BK281.out) hg (Kd.R_ne HO_9.out BK281.out (by decide))); replace HL294_0 := Aside0.mk (Kd.R_after (ok := (fun k_ => some k_ ≠ (.slice (some ad294) t285.length co44 : Value).ownBlock ∧ some k_ ≠ (.slice (some ad295) t288.length co55 : Value).ownBlock)) (by (with_reducible repeat (first | apply Kd.R_alloc | apply Kd.R_drewN | apply Kd.R_drew)); exact Kd.R_mono HL294_0.out (fun _ hk => ⟨⟨hk.2, hk.1.1⟩, hk.1.2⟩)) hg hat); replace HL295_0 := Aside0.mk (Kd.R_after (ok := (fun k_ => some k_ ≠ (.slice (some ad294) t285.length co44 : Value).ownBlock ∧ some k_ ≠ (.slice (some ad295) t288.length co55 : Value).ownBlock)) (by (with_reducible repeat (first | apply Kd.R_alloc | apply Kd.R_drewN | apply Kd.R_drew)); exact Kd.R_mono HL295_0.out (fun _ hk => ⟨⟨hk.1.1, hk.2⟩, hk.1.2⟩)) hg hat); replace HB := Aside0.mk (hb); clear HO_9; clear ho hb hg hat))
            go_roundg k2
            case measure => have := HJ3.out; have := HK2.out; omega
            case rel => exact ⟨(y297), (wrap64 (x41_2 + 1)), (by first | rfl | (simp; done) | (simp [*]; done)), H', ⟨by have := HJ3.out; have := HK2.out; omega⟩, ⟨by (with_reducible repeat (first | apply Kd.S_alloc | apply Kd.S_drewN | apply Kd.S_drew)); exact HO_7.out⟩, ⟨by (with_reducible repeat (first | apply Kd.S_alloc | apply Kd.S_drewN | apply Kd.S_drew)); exact HO_8.out⟩, ⟨by (with_reducible repeat (first | apply Kd.R_alloc | apply Kd.R_drewN | apply Kd.R_drew)); exact HO299.out⟩, ⟨by (with_reducible repeat (first | refine blk_drewN ?_ _ | refine blk_drew ?_ | refine blk_alloc ?_ _)); exact BK280.out⟩, ⟨by (with_reducible repeat (first | refine blk_drewN ?_ _ | refine blk_drew ?_ | refine blk_alloc ?_ _)); exact BK281.out⟩, ⟨by repeat (first | (with_reducible first | exact HB.out | apply below_alloc | apply pw_below_drewN | apply below_drew1 | refine below_set ?_ GE280.out | refine below_set ?_ GE281.out) | exact HB.out)⟩⟩
           ·rw [if_neg c53] at H
            exact absurd H (by simp)
         ·rw [if_neg c48] at H
          exact absurd H (by simp)
        ·rw [if_neg c47] at H
         exact absurd H (by simp)
       ·rw [if_neg c46] at H
        exact absurd H (by simp)
      ·rw [if_neg c45] at H
       have c45b0 : decide (x41_2 < (t285.length : Int)) = false := decide_eq_false c45
       clear c45
       obtain rfl := Option.some.inj H
       go_wp2
       go_ret
       exact ⟨_, by first | rfl | (simp [errW_none, errW_some] <;> rfl) | (simp [*, errW_none, errW_some] <;> rfl), by (with_reducible repeat (first | apply Kd.R_alloc | apply Kd.R_drewN | apply Kd.R_drew)); exact HO_9.out, by repeat (first | (with_reducible first | exact HB.out | apply below_alloc | apply pw_below_drewN | apply below_drew1 | refine below_set ?_ GE280.out | refine below_set ?_ GE281.out) | exact HB.out)⟩

end Go.Proofs.Ythmahcohcphljaa.QFnExactChanged
