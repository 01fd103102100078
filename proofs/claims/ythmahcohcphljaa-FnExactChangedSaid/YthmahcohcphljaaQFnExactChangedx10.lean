/- Contracts of functions that the law reaches: what each call returns and what it leaves in memory. Made by this session over the print of the kit. -/
import Derived.Test.YthmahcohcphljaaQFnExactChangedx0
import Derived.Test.YthmahcohcphljaaQFnExactChangedx9
namespace Go.Proofs.Ythmahcohcphljaa.QFnExactChanged
open Go.RowKit Go.Proofs.YthmahcohcphljaaU.PrintWords Go.Proofs.YthmahcohcphljaaU.PrintLast Go.Proofs.YthmahcohcphljaaU.PrintMore
attribute [local go_sem] max2_int min2_int max_two min_two max_three min_three max_four min_four   -- for this text's walks alone
set_option linter.unusedVariables false
set_option linter.unusedSimpArgs false

/-! ### impl_Graph_hopsTo: function 58 -/
mutual
def impl_Graph_hopsTo.j0 : Nat → Int → Int → List (List Int) → List Int → Bool → Int → List (S76) → Option (List Int)
 | 0, _, _, _, _, _, _, _ => none
 | k + 1, x1, x2, x3, x9, x25, x251000, x251001 => if x25 = true then (some x9) else (impl_Graph_hopsTo.l0 k x1 x2 x3 x9 x251001 (x251001.length : Int) 0)
def impl_Graph_hopsTo.l0 : Nat → Int → Int → List (List Int) → List Int → List (S76) → Int → Int → Option (List Int)
 | 0, _, _, _, _, _, _, _ => none
 | k + 1, x1, x2, x3, x9, x28, x29, x30 => if x30 < x29 then (if 0 ≤ x30 then (if x30 < (x28.length : Int) then (if ((rd_T76 x28 x30).f0) = x1 then (if 0 ≤ ((rd_T76 x28 x30).f1) then (if ((rd_T76 x28 x30).f1) < (x3.length : Int) then (if 0 ≤ x2 then (if x2 < ((rd_L3 x3 ((rd_T76 x28 x30).f1)).length : Int) then (if 0 ≤ x1 then (if x1 < (x3.length : Int) then (if x2 < ((rd_L3 x3 x1).length : Int) then (if (wrap64 (((rd_T76 x28 x30).f2) + (rd (rd_L3 x3 ((rd_T76 x28 x30).f1)) x2))) = (rd (rd_L3 x3 x1) x2) then (if x9.length < 17592186044416 then (impl_Graph_hopsTo.l0 k x1 x2 x3 (x9 ++ [(rd_T76 x28 x30).f1]) x28 x29 (wrap64 (x30 + 1))) else (none)) else (impl_Graph_hopsTo.l0 k x1 x2 x3 x9 x28 x29 (wrap64 (x30 + 1)))) else (none)) else (none)) else (none)) else (none)) else (none)) else (none)) else (none)) else (impl_Graph_hopsTo.l0 k x1 x2 x3 x9 x28 x29 (wrap64 (x30 + 1)))) else (none)) else (none)) else (some x9)
end
def impl_Graph_hopsTo.f (k : Nat) (a0_0 : Int) (l0_1 : List (S76)) (a1 : Int) (a2 : Int) (l3 : List (List Int)) : Option (List Int) := (some (([] : List Int) : List Int)).bind fun y251 => (if a1 = a2 then (impl_Graph_hopsTo.j0 k a1 a2 l3 y251 true a0_0 l0_1) else (if 0 ≤ a1 then (if a1 < (l3.length : Int) then (if 0 ≤ a2 then (if a2 < ((rd_L3 l3 a1).length : Int) then (impl_Graph_hopsTo.j0 k a1 a2 l3 y251 ((rd (rd_L3 l3 a1) a2) == 1000000) a0_0 l0_1) else (none)) else (none)) else (none)) else (none)))
theorem impl_Graph_hopsTo.mono_l : ∀ k, (∀ y0 y1 y2 y3 y4 y5 y6, LeO (impl_Graph_hopsTo.j0 k y0 y1 y2 y3 y4 y5 y6) (impl_Graph_hopsTo.j0 (k + 1) y0 y1 y2 y3 y4 y5 y6)) ∧ (∀ y0 y1 y2 y3 y4 y5 y6, LeO (impl_Graph_hopsTo.l0 k y0 y1 y2 y3 y4 y5 y6) (impl_Graph_hopsTo.l0 (k + 1) y0 y1 y2 y3 y4 y5 y6))
 | 0 => ⟨fun _ _ _ _ _ _ _ r h => by simp [impl_Graph_hopsTo.j0] at h, fun _ _ _ _ _ _ _ r h => by simp [impl_Graph_hopsTo.l0] at h⟩
 | k + 1 => by
  obtain ⟨ih0, ih1⟩ := impl_Graph_hopsTo.mono_l k
  refine ⟨?_, ?_⟩
  ·intro y0 y1 y2 y3 y4 y5 y6
   unfold impl_Graph_hopsTo.j0
   repeat' first
   | (with_reducible exact ih0 _ _ _ _ _ _ _)
   | (with_reducible exact ih1 _ _ _ _ _ _ _)
   | (with_reducible exact LeO.refl _)
   | (with_reducible exact LeO.none _)
   | (with_reducible refine LeO.ite ?_ ?_)
   | (with_reducible refine LeO.bind ?_ (fun _ => ?_))
   | exact ih0 _ _ _ _ _ _ _
   | exact ih1 _ _ _ _ _ _ _
   | exact LeO.none _
   | refine LeO.ite ?_ ?_
   | refine LeO.bind ?_ (fun _ => ?_)
  ·intro y0 y1 y2 y3 y4 y5 y6
   unfold impl_Graph_hopsTo.l0
   repeat' first
   | (with_reducible exact ih0 _ _ _ _ _ _ _)
   | (with_reducible exact ih1 _ _ _ _ _ _ _)
   | (with_reducible exact LeO.refl _)
   | (with_reducible exact LeO.none _)
   | (with_reducible refine LeO.ite ?_ ?_)
   | (with_reducible refine LeO.bind ?_ (fun _ => ?_))
   | exact ih0 _ _ _ _ _ _ _
   | exact ih1 _ _ _ _ _ _ _
   | exact LeO.none _
   | refine LeO.ite ?_ ?_
   | refine LeO.bind ?_ (fun _ => ?_)
theorem impl_Graph_hopsTo.mono : ∀ a0 a1 a2 a3 a4 k, LeO (impl_Graph_hopsTo.f k a0 a1 a2 a3 a4) (impl_Graph_hopsTo.f (k + 1) a0 a1 a2 a3 a4) := by
 intro a0 a1 a2 a3 a4 k
 obtain ⟨ih0, ih1⟩ := impl_Graph_hopsTo.mono_l k
 unfold impl_Graph_hopsTo.f
 repeat' first
   | (with_reducible exact ih0 _ _ _ _ _ _ _)
   | (with_reducible exact ih1 _ _ _ _ _ _ _)
   | (with_reducible exact LeO.refl _)
   | (with_reducible exact LeO.none _)
   | (with_reducible refine LeO.ite ?_ ?_)
   | (with_reducible refine LeO.bind ?_ (fun _ => ?_))
   | exact ih0 _ _ _ _ _ _ _
   | exact ih1 _ _ _ _ _ _ _
   | exact LeO.none _
   | refine LeO.ite ?_ ?_
   | refine LeO.bind ?_ (fun _ => ?_)
set_option maxHeartbeats 8000000 in
set_option maxRecDepth 100000 in
theorem impl_Graph_hopsTo.calls (k : Nat) (a0_0 : Int) (A0_1 : Option Addr) (c0_1 : Nat) (l0_1 : List (S76)) (a1 : Int) (a2 : Int) (A3 : Option Addr) (c3 : Nat) (l3 : List (List Int)) (r : List Int) (w : World) (hr0_1 : Kd.C k76 w A0_1 l0_1.length l0_1) (hc0_1 : l0_1.length ≤ c0_1) (hr3 : Kd.C (Kd.slice 3 (Kd.int .i64)) w A3 l3.length l3) (hc3 : l3.length ≤ c3) (h : impl_Graph_hopsTo.f k a0_0 l0_1 a1 a2 l3 = some r) :
  Calls Try.prog 58 #[.agg #[.int .i64 a0_0, .slice A0_1 l0_1.length c0_1], .int .i64 a1, .int .i64 a2, .slice A3 l3.length c3] w fun e w' => ∃ v0_ : Value, e = .returned (v0_) ∧ Kd.R (Kd.int .i64) 3 w' w.heap.size (fun _ => True) v0_ r ∧ Below w.heap.size w w' := by
 have hu30 := Try.underlying30
 have hu76 := Try.underlying76
 have HR0_1 := Aside0.mk hr0_1
 have HC0_1 := Aside0.mk hc0_1
 clear hr0_1 hc0_1
 have HR3 := Aside0.mk hr3
 have HC3 := Aside0.mk hc3
 clear hr3 hc3
 have HB := Aside0.mk (Below.refl w.heap.size w)
 have H : ((some (([] : List Int) : List Int)).bind fun y251 => (if a1 = a2 then (impl_Graph_hopsTo.j0 k a1 a2 l3 y251 true a0_0 l0_1) else (if 0 ≤ a1 then (if a1 < (l3.length : Int) then (if 0 ≤ a2 then (if a2 < ((rd_L3 l3 a1).length : Int) then (impl_Graph_hopsTo.j0 k a1 a2 l3 y251 ((rd (rd_L3 l3 a1) a2) == 1000000) a0_0 l0_1) else (none)) else (none)) else (none)) else (none)))) = some r := h
 clear h
 obtain ⟨y251, hy251⟩ : ∃ y_ : List Int, y_ = (([] : List Int)) := ⟨_, rfl⟩
 replace H : (if a1 = a2 then (impl_Graph_hopsTo.j0 k a1 a2 l3 y251 true a0_0 l0_1) else (if 0 ≤ a1 then (if a1 < (l3.length : Int) then (if 0 ≤ a2 then (if a2 < ((rd_L3 l3 a1).length : Int) then (impl_Graph_hopsTo.j0 k a1 a2 l3 y251 ((rd (rd_L3 l3 a1) a2) == 1000000) a0_0 l0_1) else (none)) else (none)) else (none)) else (none))) = some r := by first | (rw [hy251]; with_reducible exact H) | (have H2_ := (Option.bind_some _ _).symm.trans H; rw [hy251]; with_reducible exact H2_) | (have H2_ := (Option.bind_some _ _).symm.trans H; with_reducible exact H2_) | with_reducible exact H | (rw [hy251]; exact H) | exact H
 have Ny251 := Aside0.mk hy251
 clear hy251
 have HC5 := Aside0.mk H
 clear H
 go_enter Try.func58, Try.ntmps58
 go_upto_region 2 with (first | ((with_reducible refine gate_dst (N := 4) rfl ?_); refine box_event ?hg (N := 4) ?hd (cs := #[.int .i64 a0_0, .slice A0_1 l0_1.length c0_1]) (t := 30) ?hr ?_; (case hd => rfl); (case hg => rfl); (case hr => first | (go_simp; done) | (go_simp; rfl)); intro gb250 hg w6 hbox hb; have BK250 := Aside0.mk hbox; have GW250 := ge_ HB hg; have GE250 := ge_ HB hg; replace HB := Aside0.mk (bt_ HB hb); clear hb hbox hg) | ((with_reducible refine gate_dst (N := 12) rfl ?_); refine Kd.R_lit (Kd.int .i64) _ 3 ?hg (N := 12) ?hd (xs := ([] : List Int)) (inner := []) (ok := fun _ => True) (okp := fun _ => True) ?hr ?hp (fun _ hk => hk) trivial (Below.refl _ _) (Nat.le_refl _) (by simp) ?_; (case hd => rfl); (case hg => rfl); (case hr => first | (go_simp; done) | (go_simp; rfl)); (case hp => exact (Reps.none _ _)); intro v252 w7 ho8 hb hg_ hnew_; clear hg_ hnew_; (first | rw [← Ny251.out] at ho8 | (simp only [Int.reduceToNat] at ho8; rw [← Ny251.out] at ho8)); have HO253 := Aside0.mk (Kd.R_lower ho8 (bz_ HB)); replace BK250 := Aside0.mk (bb_ BK250 hb); replace HB := Aside0.mk (bt_ HB hb); clear hb ho8))
 repeat (go_quiet (first | ((with_reducible refine gate_dst (N := 4) rfl ?_); refine box_event ?hg (N := 4) ?hd (cs := #[.int .i64 a0_0, .slice A0_1 l0_1.length c0_1]) (t := 30) ?hr ?_; (case hd => rfl); (case hg => rfl); (case hr => first | (go_simp; done) | (go_simp; rfl)); intro gb250 hg w6 hbox hb; have BK250 := Aside0.mk hbox; have GW250 := ge_ HB hg; have GE250 := ge_ HB hg; replace HB := Aside0.mk (bt_ HB hb); clear hb hbox hg) | ((with_reducible refine gate_dst (N := 12) rfl ?_); refine Kd.R_lit (Kd.int .i64) _ 3 ?hg (N := 12) ?hd (xs := ([] : List Int)) (inner := []) (ok := fun _ => True) (okp := fun _ => True) ?hr ?hp (fun _ hk => hk) trivial (Below.refl _ _) (Nat.le_refl _) (by simp) ?_; (case hd => rfl); (case hg => rfl); (case hr => first | (go_simp; done) | (go_simp; rfl)); (case hp => exact (Reps.none _ _)); intro v252 w7 ho8 hb hg_ hnew_; clear hg_ hnew_; (first | rw [← Ny251.out] at ho8 | (simp only [Int.reduceToNat] at ho8; rw [← Ny251.out] at ho8)); have HO253 := Aside0.mk (Kd.R_lower ho8 (bz_ HB)); replace BK250 := Aside0.mk (bb_ BK250 hb); replace HB := Aside0.mk (bt_ HB hb); clear hb ho8)); go_upto_region 2 with (first | ((with_reducible refine gate_dst (N := 4) rfl ?_); refine box_event ?hg (N := 4) ?hd (cs := #[.int .i64 a0_0, .slice A0_1 l0_1.length c0_1]) (t := 30) ?hr ?_; (case hd => rfl); (case hg => rfl); (case hr => first | (go_simp; done) | (go_simp; rfl)); intro gb250 hg w6 hbox hb; have BK250 := Aside0.mk hbox; have GW250 := ge_ HB hg; have GE250 := ge_ HB hg; replace HB := Aside0.mk (bt_ HB hb); clear hb hbox hg) | ((with_reducible refine gate_dst (N := 12) rfl ?_); refine Kd.R_lit (Kd.int .i64) _ 3 ?hg (N := 12) ?hd (xs := ([] : List Int)) (inner := []) (ok := fun _ => True) (okp := fun _ => True) ?hr ?hp (fun _ hk => hk) trivial (Below.refl _ _) (Nat.le_refl _) (by simp) ?_; (case hd => rfl); (case hg => rfl); (case hr => first | (go_simp; done) | (go_simp; rfl)); (case hp => exact (Reps.none _ _)); intro v252 w7 ho8 hb hg_ hnew_; clear hg_ hnew_; (first | rw [← Ny251.out] at ho8 | (simp only [Int.reduceToNat] at ho8; rw [← Ny251.out] at ho8)); have HO253 := Aside0.mk (Kd.R_lower ho8 (bz_ HB)); replace BK250 := Aside0.mk (bb_ BK250 hb); replace HB := Aside0.mk (bt_ HB hb); clear hb ho8)))
 (try simp only [Act.put, List.setIfInBounds_toArray, List.set_cons_zero, List.set_cons_succ])
 go_cut [25] (fun v25 wc => ∃ (kq : Nat) (x25_4 : Bool), v25 = .bool x25_4 ∧ Aside0 (impl_Graph_hopsTo.j0 kq a1 a2 l3 y251 x25_4 a0_0 l0_1 = some r) ∧ Aside0 (kq ≤ k) ∧ Aside0 (Kd.R (Kd.int .i64) 3 wc w.heap.size (fun _ => True) v252 y251) ∧ Aside0 (wc.heap[gb250]? = some (.cells #[.int .i64 a0_0, (.slice A0_1 l0_1.length c0_1)] 30 (0, 0))) ∧ Aside0 (Below w.heap.size w wc))
 case first =>
  have H := HC5.out
  clear HC5
  by_cases c9 : a1 = a2
  ·rw [if_pos c9] at H
   have c9b0 : (a1 == a2) = true := beq_iff_eq.mpr c9
   have c9b1 : (a1 != a2) = false := bne_eq_false_iff_eq.mpr c9
   clear c9
   (first | rw [c9b0] | (simp only [i64_w, i32_w]; rw [c9b0]) | skip)
   have H' := Aside0.mk H
   clear H
   go_wp2
   repeat (go_quiet (fail); try go_wp2)
   go_meet
   case rel => exact ⟨_, (true), (by first | rfl | (simp; done) | (simp [*]; done)), H', ⟨by first | omega | exact Nat.le_refl _⟩, ⟨by (with_reducible repeat (first | apply Kd.R_alloc | apply Kd.R_drewN | apply Kd.R_drew)); exact HO253.out⟩, ⟨by (with_reducible repeat (first | refine blk_drewN ?_ _ | refine blk_drew ?_ | refine blk_alloc ?_ _)); exact BK250.out⟩, ⟨by repeat (first | (with_reducible first | exact HB.out | apply below_alloc | apply pw_below_drewN | apply below_drew1 | refine below_set ?_ GE250.out) | exact HB.out)⟩⟩
  ·rw [if_neg c9] at H
   have c9b0 : (a1 == a2) = false := beq_eq_false_iff_ne.mpr c9
   have c9b1 : (a1 != a2) = true := bne_iff_ne.mpr c9
   (first | rw [c9b0] | (simp only [i64_w, i32_w]; rw [c9b0]) | skip)
   by_cases c10 : 0 ≤ a1
   ·rw [if_pos c10] at H
    have c10b0 : decide (0 ≤ a1) = true := decide_eq_true c10
    clear c10
    by_cases c11 : a1 < (l3.length : Int)
    ·rw [if_pos c11] at H
     have c11b0 : decide (a1 < (l3.length : Int)) = true := decide_eq_true c11
     clear c11
     by_cases c12 : 0 ≤ a2
     ·rw [if_pos c12] at H
      have c12b0 : decide (0 ≤ a2) = true := decide_eq_true c12
      clear c12
      by_cases c13 : a2 < ((rd_L3 l3 a1).length : Int)
      ·rw [if_pos c13] at H
       have c13b0 : decide (a2 < ((rd_L3 l3 a1).length : Int)) = true := decide_eq_true c13
       clear c13
       have H' := Aside0.mk H
       clear H
       have p254 : 0 ≤ (a1 : Int) := of_decide_eq_true (by first | (with_reducible assumption) | assumption)
       have q254 : a1 < (l3.length : Int) := of_decide_eq_true (by first | (with_reducible assumption) | assumption)
       obtain ⟨ad254, A254_0, c254_0, e254, hx254_0, hl254_0, hi254_0⟩ := at_L3 HR3.out a1 p254 q254
       cases e254
       replace hx254_0 := (HB.out.cell (World.block_lt_of_cell? w _ hx254_0)).trans hx254_0
       have HR254_0 := Aside0.mk hi254_0
       have HC254_0 := Aside0.mk hl254_0
       clear hi254_0 hl254_0
       replace p254 := eq_true p254
       replace q254 := eq_true q254
       have p255 : 0 ≤ (a2 : Int) := of_decide_eq_true (by first | (with_reducible assumption) | assumption)
       have q255 : a2 < ((rd_L3 l3 a1).length : Int) := of_decide_eq_true (by first | (with_reducible assumption) | assumption)
       obtain ⟨ad255, e255, hx255_0⟩ := Kd.at_int HR254_0.out a2 p255 q255
       cases e255
       replace hx255_0 := (HB.out.cell (World.block_lt_of_cell? w _ hx255_0)).trans hx255_0
       replace p255 := eq_true p255
       replace q255 := eq_true q255
       go_wp2
       repeat (go_quiet (fail); try go_wp2)
       go_meet
       case rel => exact ⟨_, (((rd (rd_L3 l3 a1) a2) == 1000000)), (by first | rfl | (simp; done) | (simp [*]; done)), H', ⟨by first | omega | exact Nat.le_refl _⟩, ⟨by (with_reducible repeat (first | apply Kd.R_alloc | apply Kd.R_drewN | apply Kd.R_drew)); exact HO253.out⟩, ⟨by (with_reducible repeat (first | refine blk_drewN ?_ _ | refine blk_drew ?_ | refine blk_alloc ?_ _)); exact BK250.out⟩, ⟨by repeat (first | (with_reducible first | exact HB.out | apply below_alloc | apply pw_below_drewN | apply below_drew1 | refine below_set ?_ GE250.out) | exact HB.out)⟩⟩
      ·rw [if_neg c13] at H
       exact absurd H (by simp)
     ·rw [if_neg c12] at H
      exact absurd H (by simp)
    ·rw [if_neg c11] at H
     exact absurd H (by simp)
   ·rw [if_neg c10] at H
    exact absurd H (by simp)
 case rest =>
  clear HC5
  try clear c1
  try clear c2
  try clear p2
  try clear q2
  try clear hx2
  try clear c3
  try clear c5
  try clear c9
  try clear c9b0
  try clear c9b1
  try clear c10
  try clear c10b0
  try clear c11
  try clear c11b0
  try clear c12
  try clear c12b0
  try clear c13
  try clear c13b0
  try clear hx254_0
  try clear hx255_0
  try clear p254
  try clear p255
  try clear q254
  try clear q255
  obtain ⟨kq, x25_4, rfl, HA, HJ4, HO_9, BK250, HB⟩ := hcut
  cases kq with
  | zero => exact absurd HA.out (by simp [impl_Graph_hopsTo.j0])
  | succ kj4 =>
   have H := HA.out
   clear HA
   simp only [impl_Graph_hopsTo.j0] at H
   by_cases c14 : x25_4 = true
   ·subst c14
    rw [if_pos rfl] at H
    obtain rfl := Option.some.inj H
    go_wp2
    repeat (go_quiet (fail); try go_wp2)
    go_ret
    exact ⟨_, by first | rfl | (simp [errW_none, errW_some] <;> rfl) | (simp [*, errW_none, errW_some] <;> rfl), by (with_reducible repeat (first | apply Kd.R_alloc | apply Kd.R_drewN | apply Kd.R_drew)); exact HO_9.out, by repeat (first | (with_reducible first | exact HB.out | apply below_alloc | apply pw_below_drewN | apply below_drew1 | refine below_set ?_ GE250.out) | exact HB.out)⟩
   ·replace c14 := Bool.eq_false_iff.mpr c14
    subst c14
    rw [if_neg (show ¬ (false = true) by decide)] at H
    have H' := Aside0.mk H
    clear H
    have hcz15_0 := cz_ BK250 0 (.int .i64 a0_0)
    have hcz15_1 := cz_ BK250 1 (.slice A0_1 l0_1.length c0_1)
    have hfz15_0 := blk_frozen BK250.out 0
    have hfz15_1 := blk_frozen BK250.out 1
    go_wp2
    repeat (go_quiet (fail); try go_wp2)
    go_loopg [9, 30] kj4 (fun kq v9 v30 w' => ∃ (x9_2 : List Int) (x30_2 : Int), v30 = .int .i64 x30_2 ∧ Aside0 (impl_Graph_hopsTo.l0 kq a1 a2 l3 x9_2 l0_1 (l0_1.length : Int) x30_2 = some r) ∧ Aside0 (kq ≤ kj4) ∧ Aside0 (Kd.R (Kd.int .i64) 3 w' w.heap.size (fun _ => True) v9 x9_2) ∧ Aside0 (w'.heap[gb250]? = some (.cells #[.int .i64 a0_0, (.slice A0_1 l0_1.length c0_1)] 30 (0, 0))) ∧ Aside0 (Below w.heap.size w w'))
    case atStart => exact ⟨(y251), (0), (by first | rfl | (simp; done) | (simp [*]; done)), H', ⟨Nat.le_refl _⟩, ⟨by (with_reducible repeat (first | apply Kd.R_alloc | apply Kd.R_drewN | apply Kd.R_drew)); exact HO_9.out⟩, ⟨by (with_reducible repeat (first | refine blk_drewN ?_ _ | refine blk_drew ?_ | refine blk_alloc ?_ _)); exact BK250.out⟩, ⟨by repeat (first | (with_reducible first | exact HB.out | apply below_alloc | apply pw_below_drewN | apply below_drew1 | refine below_set ?_ GE250.out) | exact HB.out)⟩⟩
    case round =>
     clear H'
     try clear c1
     try clear c2
     try clear p2
     try clear q2
     try clear hx2
     try clear c3
     try clear c5
     try clear c9
     try clear c9b0
     try clear c9b1
     try clear c10
     try clear c10b0
     try clear c11
     try clear c11b0
     try clear c12
     try clear c12b0
     try clear c13
     try clear c13b0
     try clear c14
     try clear hcz15_0
     try clear hcz15_1
     try clear hfz15_0
     try clear hfz15_1
     try clear hx254_0
     try clear hx255_0
     try clear p2
     try clear p254
     try clear p255
     try clear q2
     try clear q254
     try clear q255
     obtain ⟨x9_2, x30_2, rfl, HA, HK2, HO_9, BK250, HB⟩ := hrel
     cases gk with
     | zero => exact absurd HA.out (by simp [impl_Graph_hopsTo.l0])
     | succ k2 =>
      have H := HA.out
      clear HA
      simp only [impl_Graph_hopsTo.l0] at H
      by_cases c16 : x30_2 < (l0_1.length : Int)
      ·rw [if_pos c16] at H
       have c16b0 : decide (x30_2 < (l0_1.length : Int)) = true := decide_eq_true c16
       clear c16
       by_cases c17 : 0 ≤ x30_2
       ·rw [if_pos c17] at H
        have c17b0 : decide (0 ≤ x30_2) = true := decide_eq_true c17
        clear c17
        by_cases c18 : x30_2 < (l0_1.length : Int)
        ·rw [if_pos c18] at H
         have c18b0 : decide (x30_2 < (l0_1.length : Int)) = true := decide_eq_true c18
         clear c18
         by_cases c19 : ((rd_T76 l0_1 x30_2).f0) = a1
         ·rw [if_pos c19] at H
          have c19b0 : (((rd_T76 l0_1 x30_2).f0) == a1) = true := beq_iff_eq.mpr c19
          have c19b1 : (((rd_T76 l0_1 x30_2).f0) != a1) = false := bne_eq_false_iff_eq.mpr c19
          clear c19
          by_cases c20 : 0 ≤ ((rd_T76 l0_1 x30_2).f1)
          ·rw [if_pos c20] at H
           have c20b0 : decide (0 ≤ ((rd_T76 l0_1 x30_2).f1)) = true := decide_eq_true c20
           clear c20
           by_cases c21 : ((rd_T76 l0_1 x30_2).f1) < (l3.length : Int)
           ·rw [if_pos c21] at H
            have c21b0 : decide (((rd_T76 l0_1 x30_2).f1) < (l3.length : Int)) = true := decide_eq_true c21
            clear c21
            by_cases c22 : 0 ≤ a2
            ·rw [if_pos c22] at H
             have c22b0 : decide (0 ≤ a2) = true := decide_eq_true c22
             clear c22
             by_cases c23 : a2 < ((rd_L3 l3 ((rd_T76 l0_1 x30_2).f1)).length : Int)
             ·rw [if_pos c23] at H
              have c23b0 : decide (a2 < ((rd_L3 l3 ((rd_T76 l0_1 x30_2).f1)).length : Int)) = true := decide_eq_true c23
              clear c23
              by_cases c24 : 0 ≤ a1
              ·rw [if_pos c24] at H
               have c24b0 : decide (0 ≤ a1) = true := decide_eq_true c24
               clear c24
               by_cases c25 : a1 < (l3.length : Int)
               ·rw [if_pos c25] at H
                have c25b0 : decide (a1 < (l3.length : Int)) = true := decide_eq_true c25
                clear c25
                by_cases c26 : a2 < ((rd_L3 l3 a1).length : Int)
                ·rw [if_pos c26] at H
                 have c26b0 : decide (a2 < ((rd_L3 l3 a1).length : Int)) = true := decide_eq_true c26
                 clear c26
                 by_cases c27 : (wrap64 (((rd_T76 l0_1 x30_2).f2) + (rd (rd_L3 l3 ((rd_T76 l0_1 x30_2).f1)) a2))) = (rd (rd_L3 l3 a1) a2)
                 ·rw [if_pos c27] at H
                  have c27b0 : ((wrap64 (((rd_T76 l0_1 x30_2).f2) + (rd (rd_L3 l3 ((rd_T76 l0_1 x30_2).f1)) a2))) == (rd (rd_L3 l3 a1) a2)) = true := beq_iff_eq.mpr c27
                  have c27b1 : ((wrap64 (((rd_T76 l0_1 x30_2).f2) + (rd (rd_L3 l3 ((rd_T76 l0_1 x30_2).f1)) a2))) != (rd (rd_L3 l3 a1) a2)) = false := bne_eq_false_iff_eq.mpr c27
                  clear c27
                  by_cases c28 : x9_2.length < 17592186044416
                  ·rw [if_pos c28] at H
                   have LMc28 := Aside0.mk c28
                   clear c28
                   obtain ⟨y262, hy262⟩ : ∃ y_ : List Int, y_ = (x9_2 ++ [(rd_T76 l0_1 x30_2).f1]) := ⟨_, rfl⟩
                   replace H : (impl_Graph_hopsTo.l0 k2 a1 a2 l3 y262 l0_1 (l0_1.length : Int) (wrap64 (x30_2 + 1))) = some r := by first | (rw [hy262]; with_reducible exact H) | (have H2_ := (Option.bind_some _ _).symm.trans H; rw [hy262]; with_reducible exact H2_) | (have H2_ := (Option.bind_some _ _).symm.trans H; with_reducible exact H2_) | with_reducible exact H | (rw [hy262]; exact H) | exact H
                   have Ny262 := Aside0.mk hy262
                   clear hy262
                   have H' := Aside0.mk H
                   clear H
                   have p256 : 0 ≤ (x30_2 : Int) := of_decide_eq_true (by first | (with_reducible assumption) | assumption)
                   have q256 : x30_2 < (l0_1.length : Int) := of_decide_eq_true (by first | (with_reducible assumption) | assumption)
                   obtain ⟨ad256, e256, hx256_0, hx256_1, hx256_2⟩ := at_T76 HR0_1.out x30_2 p256 q256
                   cases e256
                   replace hx256_0 := (HB.out.cell (World.block_lt_of_cell? w _ hx256_0)).trans hx256_0
                   replace hx256_1 := (HB.out.cell (World.block_lt_of_cell? w _ hx256_1)).trans hx256_1
                   replace hx256_2 := (HB.out.cell (World.block_lt_of_cell? w _ hx256_2)).trans hx256_2
                   replace p256 := eq_true p256
                   replace q256 := eq_true q256
                   go_wp2_with (first | ((with_reducible refine gate_dst (N := 11) rfl ?_); refine box_event ?hg (N := 11) ?hd (cs := #[.int .i64 0, .int .i64 0, .int .i64 0]) (t := 76) ?hr ?_; (case hd => rfl); (case hg => rfl); (case hr => first | (go_simp; done) | (go_simp; rfl)); intro gb257 hg w29 hbox hb; have BK257 := Aside0.mk hbox; have GW257 := ge_ HB hg; have GE257 := ge_ HB hg; have NB250_257 := nl_ BK250 hg; have NB257_250 := ng_ BK250 hg; replace HO_9 := rb_ HO_9 hb; replace HB := Aside0.mk (bt_ HB hb); replace BK250 := Aside0.mk (bb_ BK250 hb); clear hb hbox hg; have hnb30 := NB257_250.out; have hnc30 := NB250_257.out; have hcz31_0 := cz_ BK257 0 (.int .i64 0); have hcz31_1 := cz_ BK257 1 (.int .i64 0); have hcz31_2 := cz_ BK257 2 (.int .i64 0); have hfz31_0 := blk_frozen BK257.out 0; have hfz31_1 := blk_frozen BK257.out 1; have hfz31_2 := blk_frozen BK257.out 2; have p258 : 0 ≤ (((rd_T76 l0_1 x30_2).f1) : Int) := of_decide_eq_true (by first | (with_reducible assumption) | assumption); have q258 : ((rd_T76 l0_1 x30_2).f1) < (l3.length : Int) := of_decide_eq_true (by first | (with_reducible assumption) | assumption); obtain ⟨ad258, A258_0, c258_0, e258, hx258_0, hl258_0, hi258_0⟩ := at_L3 HR3.out ((rd_T76 l0_1 x30_2).f1) p258 q258; cases e258; have hn258_0 : ad258.block ≠ gb257 := Nat.ne_of_lt (Nat.lt_of_lt_of_le (by have := World.block_lt_of_cell? _ _ hx258_0; first | rwa [add_block] at this | exact this) GW257.out); have hn258_1 : ad258.block ≠ gb257 := Nat.ne_of_lt (Nat.lt_of_lt_of_le (by have := World.block_lt_of_cell? _ _ hx258_0; first | rwa [add_block] at this | exact this) GW257.out); have hn258_2 : ad258.block ≠ gb257 := Nat.ne_of_lt (Nat.lt_of_lt_of_le (by have := World.block_lt_of_cell? _ _ hx258_0; first | rwa [add_block] at this | exact this) GW257.out); replace hx258_0 := (HB.out.cell (World.block_lt_of_cell? w _ hx258_0)).trans hx258_0; have HR258_0 := Aside0.mk hi258_0; have HC258_0 := Aside0.mk hl258_0; clear hi258_0 hl258_0; replace hx258_0 := (cell_far (p := ⟨gb257, 0, none⟩) (by first | (rw [add_block]; exact hn258_0) | (show (Addr.add _ _).block ≠ _; rw [add_block]; exact hn258_0) | exact hn258_0) (.int .i64 ((rd_T76 l0_1 x30_2).f0))).trans hx258_0; replace hx258_0 := (cell_far (p := ⟨gb257, 1, none⟩) (by first | (rw [add_block]; exact hn258_1) | (show (Addr.add _ _).block ≠ _; rw [add_block]; exact hn258_1) | exact hn258_1) (.int .i64 ((rd_T76 l0_1 x30_2).f1))).trans hx258_0; replace hx258_0 := (cell_far (p := ⟨gb257, 2, none⟩) (by first | (rw [add_block]; exact hn258_2) | (show (Addr.add _ _).block ≠ _; rw [add_block]; exact hn258_2) | exact hn258_2) (.int .i64 ((rd_T76 l0_1 x30_2).f2))).trans hx258_0; (try have hy258_0 := fun (n_ : Nat) => (show (((((w29.drewN n_).setCell ⟨gb257, 0, none⟩ (.int .i64 ((rd_T76 l0_1 x30_2).f0))).setCell ⟨gb257, 1, none⟩ (.int .i64 ((rd_T76 l0_1 x30_2).f1))).setCell ⟨gb257, 2, none⟩ (.int .i64 ((rd_T76 l0_1 x30_2).f2)))).cell? _ = some _ from hx258_0)); clear hn258_0; clear hn258_1; clear hn258_2; replace p258 := eq_true p258; replace q258 := eq_true q258; have p259 : 0 ≤ (a2 : Int) := of_decide_eq_true (by first | (with_reducible assumption) | assumption); have q259 : a2 < ((rd_L3 l3 ((rd_T76 l0_1 x30_2).f1)).length : Int) := of_decide_eq_true (by first | (with_reducible assumption) | assumption); obtain ⟨ad259, e259, hx259_0⟩ := Kd.at_int HR258_0.out a2 p259 q259; cases e259; have hn259_0 : ad259.block ≠ gb257 := Nat.ne_of_lt (Nat.lt_of_lt_of_le (by have := World.block_lt_of_cell? _ _ hx259_0; first | rwa [add_block] at this | exact this) GW257.out); have hn259_1 : ad259.block ≠ gb257 := Nat.ne_of_lt (Nat.lt_of_lt_of_le (by have := World.block_lt_of_cell? _ _ hx259_0; first | rwa [add_block] at this | exact this) GW257.out); have hn259_2 : ad259.block ≠ gb257 := Nat.ne_of_lt (Nat.lt_of_lt_of_le (by have := World.block_lt_of_cell? _ _ hx259_0; first | rwa [add_block] at this | exact this) GW257.out); replace hx259_0 := (HB.out.cell (World.block_lt_of_cell? w _ hx259_0)).trans hx259_0; replace hx259_0 := (cell_far (p := ⟨gb257, 0, none⟩) (by first | (rw [add_block]; exact hn259_0) | (show (Addr.add _ _).block ≠ _; rw [add_block]; exact hn259_0) | exact hn259_0) (.int .i64 ((rd_T76 l0_1 x30_2).f0))).trans hx259_0; replace hx259_0 := (cell_far (p := ⟨gb257, 1, none⟩) (by first | (rw [add_block]; exact hn259_1) | (show (Addr.add _ _).block ≠ _; rw [add_block]; exact hn259_1) | exact hn259_1) (.int .i64 ((rd_T76 l0_1 x30_2).f1))).trans hx259_0; replace hx259_0 := (cell_far (p := ⟨gb257, 2, none⟩) (by first | (rw [add_block]; exact hn259_2) | (show (Addr.add _ _).block ≠ _; rw [add_block]; exact hn259_2) | exact hn259_2) (.int .i64 ((rd_T76 l0_1 x30_2).f2))).trans hx259_0; (try have hy259_0 := fun (n_ : Nat) => (show (((((w29.drewN n_).setCell ⟨gb257, 0, none⟩ (.int .i64 ((rd_T76 l0_1 x30_2).f0))).setCell ⟨gb257, 1, none⟩ (.int .i64 ((rd_T76 l0_1 x30_2).f1))).setCell ⟨gb257, 2, none⟩ (.int .i64 ((rd_T76 l0_1 x30_2).f2)))).cell? _ = some _ from hx259_0)); clear hn259_0; clear hn259_1; clear hn259_2; replace p259 := eq_true p259; replace q259 := eq_true q259; have p260 : 0 ≤ (a1 : Int) := of_decide_eq_true (by first | (with_reducible assumption) | assumption); have q260 : a1 < (l3.length : Int) := of_decide_eq_true (by first | (with_reducible assumption) | assumption); obtain ⟨ad260, A260_0, c260_0, e260, hx260_0, hl260_0, hi260_0⟩ := at_L3 HR3.out a1 p260 q260; obtain rfl : ad258 = ad260 := (by injection e260); have hn260_0 : ad258.block ≠ gb257 := Nat.ne_of_lt (Nat.lt_of_lt_of_le (by have := World.block_lt_of_cell? _ _ hx260_0; first | rwa [add_block] at this | exact this) GW257.out); have hn260_1 : ad258.block ≠ gb257 := Nat.ne_of_lt (Nat.lt_of_lt_of_le (by have := World.block_lt_of_cell? _ _ hx260_0; first | rwa [add_block] at this | exact this) GW257.out); have hn260_2 : ad258.block ≠ gb257 := Nat.ne_of_lt (Nat.lt_of_lt_of_le (by have := World.block_lt_of_cell? _ _ hx260_0; first | rwa [add_block] at this | exact this) GW257.out); replace hx260_0 := (HB.out.cell (World.block_lt_of_cell? w _ hx260_0)).trans hx260_0; have HR260_0 := Aside0.mk hi260_0; have HC260_0 := Aside0.mk hl260_0; clear hi260_0 hl260_0; replace hx260_0 := (cell_far (p := ⟨gb257, 0, none⟩) (by first | (rw [add_block]; exact hn260_0) | (show (Addr.add _ _).block ≠ _; rw [add_block]; exact hn260_0) | exact hn260_0) (.int .i64 ((rd_T76 l0_1 x30_2).f0))).trans hx260_0; replace hx260_0 := (cell_far (p := ⟨gb257, 1, none⟩) (by first | (rw [add_block]; exact hn260_1) | (show (Addr.add _ _).block ≠ _; rw [add_block]; exact hn260_1) | exact hn260_1) (.int .i64 ((rd_T76 l0_1 x30_2).f1))).trans hx260_0; replace hx260_0 := (cell_far (p := ⟨gb257, 2, none⟩) (by first | (rw [add_block]; exact hn260_2) | (show (Addr.add _ _).block ≠ _; rw [add_block]; exact hn260_2) | exact hn260_2) (.int .i64 ((rd_T76 l0_1 x30_2).f2))).trans hx260_0; (try have hy260_0 := fun (n_ : Nat) => (show (((((w29.drewN n_).setCell ⟨gb257, 0, none⟩ (.int .i64 ((rd_T76 l0_1 x30_2).f0))).setCell ⟨gb257, 1, none⟩ (.int .i64 ((rd_T76 l0_1 x30_2).f1))).setCell ⟨gb257, 2, none⟩ (.int .i64 ((rd_T76 l0_1 x30_2).f2)))).cell? _ = some _ from hx260_0)); clear hn260_0; clear hn260_1; clear hn260_2; replace p260 := eq_true p260; replace q260 := eq_true q260; have p261 : 0 ≤ (a2 : Int) := of_decide_eq_true (by first | (with_reducible assumption) | assumption); have q261 : a2 < ((rd_L3 l3 a1).length : Int) := of_decide_eq_true (by first | (with_reducible assumption) | assumption); obtain ⟨ad261, e261, hx261_0⟩ := Kd.at_int HR260_0.out a2 p261 q261; cases e261; have hn261_0 : ad261.block ≠ gb257 := Nat.ne_of_lt (Nat.lt_of_lt_of_le (by have := World.block_lt_of_cell? _ _ hx261_0; first | rwa [add_block] at this | exact this) GW257.out); have hn261_1 : ad261.block ≠ gb257 := Nat.ne_of_lt (Nat.lt_of_lt_of_le (by have := World.block_lt_of_cell? _ _ hx261_0; first | rwa [add_block] at this | exact this) GW257.out); have hn261_2 : ad261.block ≠ gb257 := Nat.ne_of_lt (Nat.lt_of_lt_of_le (by have := World.block_lt_of_cell? _ _ hx261_0; first | rwa [add_block] at this | exact this) GW257.out); replace hx261_0 := (HB.out.cell (World.block_lt_of_cell? w _ hx261_0)).trans hx261_0; replace hx261_0 := (cell_far (p := ⟨gb257, 0, none⟩) (by first | (rw [add_block]; exact hn261_0) | (show (Addr.add _ _).block ≠ _; rw [add_block]; exact hn261_0) | exact hn261_0) (.int .i64 ((rd_T76 l0_1 x30_2).f0))).trans hx261_0; replace hx261_0 := (cell_far (p := ⟨gb257, 1, none⟩) (by first | (rw [add_block]; exact hn261_1) | (show (Addr.add _ _).block ≠ _; rw [add_block]; exact hn261_1) | exact hn261_1) (.int .i64 ((rd_T76 l0_1 x30_2).f1))).trans hx261_0; replace hx261_0 := (cell_far (p := ⟨gb257, 2, none⟩) (by first | (rw [add_block]; exact hn261_2) | (show (Addr.add _ _).block ≠ _; rw [add_block]; exact hn261_2) | exact hn261_2) (.int .i64 ((rd_T76 l0_1 x30_2).f2))).trans hx261_0; (try have hy261_0 := fun (n_ : Nat) => (show (((((w29.drewN n_).setCell ⟨gb257, 0, none⟩ (.int .i64 ((rd_T76 l0_1 x30_2).f0))).setCell ⟨gb257, 1, none⟩ (.int .i64 ((rd_T76 l0_1 x30_2).f1))).setCell ⟨gb257, 2, none⟩ (.int .i64 ((rd_T76 l0_1 x30_2).f2)))).cell? _ = some _ from hx261_0)); clear hn261_0; clear hn261_1; clear hn261_2; replace p261 := eq_true p261; replace q261 := eq_true q261) | ((with_reducible refine gate_builtin (b := .append) (xs := #[.tmp 59, .tmp 62]) rfl ?_); at_builtin; refine Kd.R_append (Kd.int .i64) (w0 := w) w.heap.size rfl (.tmp 59) (.tmp 62) 26 3 (.int .i64 0) 8 rfl Try.underlying26 info3 rfl (by decide) (by omega) u9 x9_2 ((rd_T76 l0_1 x30_2).f1) [.int .i64 ((rd_T76 l0_1 x30_2).f1)] (fun _ => True) (fun _ => False) rfl (by first | (go_simp; done) | (go_simp; rfl)) ?aP (fun _ hk => hk.elim) ?aF ?aO ?aB ?aS ?aL ?_; (case aP => exact rfl); (case aB => exact (by repeat (first | (with_reducible first | exact HB.out | apply below_alloc | apply pw_below_drewN | apply below_drew1 | refine below_set ?_ GE250.out | refine below_set ?_ GE257.out) | exact HB.out))); (case aF => exact (fun _ _ => trivial)); (case aO => exact (by (with_reducible repeat (first | apply Kd.R_alloc | apply Kd.R_drewN | apply Kd.R_drew)); exact Kd.R_mono (Kd.R_far (p := ⟨gb257, 2, none⟩) (Kd.R_far (p := ⟨gb257, 1, none⟩) (Kd.R_far (p := ⟨gb257, 0, none⟩) (Kd.R_types HO_9.out BK257.out (by decide)) (fun _ hk => hk.2) (.int .i64 ((rd_T76 l0_1 x30_2).f0))) (fun _ hk => hk.2) (.int .i64 ((rd_T76 l0_1 x30_2).f1))) (fun _ hk => hk.2) (.int .i64 ((rd_T76 l0_1 x30_2).f2))) (fun _ hk => trivial))); (case aS => exact (bz_ HB)); (case aL => have := LMc28.out; omega); intro v263 w32 ho hb hg hat; rw [← Ny262.out] at ho; have HO264 := Aside0.mk ho; replace BK250 := Aside0.mk (blk_grown (g := gb250) (o := .cells #[.int .i64 a0_0, .slice (some ad256) l0_1.length c0_1] 30 (0, 0)) (by (with_reducible repeat (first | refine blk_drewN ?_ _ | refine blk_drew ?_ | refine blk_alloc ?_ _)); refine blk_far ?_ NB250_257.out _; (with_reducible repeat (first | refine blk_drewN ?_ _ | refine blk_drew ?_ | refine blk_alloc ?_ _)); refine blk_far ?_ NB250_257.out _; (with_reducible repeat (first | refine blk_drewN ?_ _ | refine blk_drew ?_ | refine blk_alloc ?_ _)); refine blk_far ?_ NB250_257.out _; (with_reducible repeat (first | refine blk_drewN ?_ _ | refine blk_drew ?_ | refine blk_alloc ?_ _)); exact BK250.out) hg (Kd.R_ne HO_9.out BK250.out (by decide))); replace BK257 := Aside0.mk (blk_grown (g := gb257) (o := .cells #[.int .i64 ((rd_T76 l0_1 x30_2).f0), .int .i64 ((rd_T76 l0_1 x30_2).f1), .int .i64 ((rd_T76 l0_1 x30_2).f2)] 76 (0, 0)) (by (with_reducible repeat (first | refine blk_drewN ?_ _ | refine blk_drew ?_ | refine blk_alloc ?_ _)); refine blk_put (cs := #[.int .i64 ((rd_T76 l0_1 x30_2).f0), .int .i64 ((rd_T76 l0_1 x30_2).f1), .int .i64 0]) ?_ 2 _ rfl; (with_reducible repeat (first | refine blk_drewN ?_ _ | refine blk_drew ?_ | refine blk_alloc ?_ _)); refine blk_put (cs := #[.int .i64 ((rd_T76 l0_1 x30_2).f0), .int .i64 0, .int .i64 0]) ?_ 1 _ rfl; (with_reducible repeat (first | refine blk_drewN ?_ _ | refine blk_drew ?_ | refine blk_alloc ?_ _)); refine blk_put (cs := #[.int .i64 0, .int .i64 0, .int .i64 0]) ?_ 0 _ rfl; (with_reducible repeat (first | refine blk_drewN ?_ _ | refine blk_drew ?_ | refine blk_alloc ?_ _)); exact BK257.out) hg (Kd.R_ne HO_9.out BK257.out (by decide))); replace HB := Aside0.mk (hb); clear HO_9; clear ho hb hg hat))
                   repeat (go_quiet (first | ((with_reducible refine gate_dst (N := 11) rfl ?_); refine box_event ?hg (N := 11) ?hd (cs := #[.int .i64 0, .int .i64 0, .int .i64 0]) (t := 76) ?hr ?_; (case hd => rfl); (case hg => rfl); (case hr => first | (go_simp; done) | (go_simp; rfl)); intro gb257 hg w29 hbox hb; have BK257 := Aside0.mk hbox; have GW257 := ge_ HB hg; have GE257 := ge_ HB hg; have NB250_257 := nl_ BK250 hg; have NB257_250 := ng_ BK250 hg; replace HO_9 := rb_ HO_9 hb; replace HB := Aside0.mk (bt_ HB hb); replace BK250 := Aside0.mk (bb_ BK250 hb); clear hb hbox hg; have hnb30 := NB257_250.out; have hnc30 := NB250_257.out; have hcz31_0 := cz_ BK257 0 (.int .i64 0); have hcz31_1 := cz_ BK257 1 (.int .i64 0); have hcz31_2 := cz_ BK257 2 (.int .i64 0); have hfz31_0 := blk_frozen BK257.out 0; have hfz31_1 := blk_frozen BK257.out 1; have hfz31_2 := blk_frozen BK257.out 2; have p258 : 0 ≤ (((rd_T76 l0_1 x30_2).f1) : Int) := of_decide_eq_true (by first | (with_reducible assumption) | assumption); have q258 : ((rd_T76 l0_1 x30_2).f1) < (l3.length : Int) := of_decide_eq_true (by first | (with_reducible assumption) | assumption); obtain ⟨ad258, A258_0, c258_0, e258, hx258_0, hl258_0, hi258_0⟩ := at_L3 HR3.out ((rd_T76 l0_1 x30_2).f1) p258 q258; cases e258; have hn258_0 : ad258.block ≠ gb257 := Nat.ne_of_lt (Nat.lt_of_lt_of_le (by have := World.block_lt_of_cell? _ _ hx258_0; first | rwa [add_block] at this | exact this) GW257.out); have hn258_1 : ad258.block ≠ gb257 := Nat.ne_of_lt (Nat.lt_of_lt_of_le (by have := World.block_lt_of_cell? _ _ hx258_0; first | rwa [add_block] at this | exact this) GW257.out); have hn258_2 : ad258.block ≠ gb257 := Nat.ne_of_lt (Nat.lt_of_lt_of_le (by have := World.block_lt_of_cell? _ _ hx258_0; first | rwa [add_block] at this | exact this) GW257.out); replace hx258_0 := (HB.out.cell (World.block_lt_of_cell? w _ hx258_0)).trans hx258_0; have HR258_0 := Aside0.mk hi258_0; have HC258_0 := Aside0.mk hl258_0; clear hi258_0 hl258_0; replace hx258_0 := (cell_far (p := ⟨gb257, 0, none⟩) (by first | (rw [add_block]; exact hn258_0) | (show (Addr.add _ _).block ≠ _; rw [add_block]; exact hn258_0) | exact hn258_0) (.int .i64 ((rd_T76 l0_1 x30_2).f0))).trans hx258_0; replace hx258_0 := (cell_far (p := ⟨gb257, 1, none⟩) (by first | (rw [add_block]; exact hn258_1) | (show (Addr.add _ _).block ≠ _; rw [add_block]; exact hn258_1) | exact hn258_1) (.int .i64 ((rd_T76 l0_1 x30_2).f1))).trans hx258_0; replace hx258_0 := (cell_far (p := ⟨gb257, 2, none⟩) (by first | (rw [add_block]; exact hn258_2) | (show (Addr.add _ _).block ≠ _; rw [add_block]; exact hn258_2) | exact hn258_2) (.int .i64 ((rd_T76 l0_1 x30_2).f2))).trans hx258_0; (try have hy258_0 := fun (n_ : Nat) => (show (((((w29.drewN n_).setCell ⟨gb257, 0, none⟩ (.int .i64 ((rd_T76 l0_1 x30_2).f0))).setCell ⟨gb257, 1, none⟩ (.int .i64 ((rd_T76 l0_1 x30_2).f1))).setCell ⟨gb257, 2, none⟩ (.int .i64 ((rd_T76 l0_1 x30_2).f2)))).cell? _ = some _ from hx258_0)); clear hn258_0; clear hn258_1; clear hn258_2; replace p258 := eq_true p258; replace q258 := eq_true q258; have p259 : 0 ≤ (a2 : Int) := of_decide_eq_true (by first | (with_reducible assumption) | assumption); have q259 : a2 < ((rd_L3 l3 ((rd_T76 l0_1 x30_2).f1)).length : Int) := of_decide_eq_true (by first | (with_reducible assumption) | assumption); obtain ⟨ad259, e259, hx259_0⟩ := Kd.at_int HR258_0.out a2 p259 q259; cases e259; have hn259_0 : ad259.block ≠ gb257 := Nat.ne_of_lt (Nat.lt_of_lt_of_le (by have := World.block_lt_of_cell? _ _ hx259_0; first | rwa [add_block] at this | exact this) GW257.out); have hn259_1 : ad259.block ≠ gb257 := Nat.ne_of_lt (Nat.lt_of_lt_of_le (by have := World.block_lt_of_cell? _ _ hx259_0; first | rwa [add_block] at this | exact this) GW257.out); have hn259_2 : ad259.block ≠ gb257 := Nat.ne_of_lt (Nat.lt_of_lt_of_le (by have := World.block_lt_of_cell? _ _ hx259_0; first | rwa [add_block] at this | exact this) GW257.out); replace hx259_0 := (HB.out.cell (World.block_lt_of_cell? w _ hx259_0)).trans hx259_0; replace hx259_0 := (cell_far (p := ⟨gb257, 0, none⟩) (by first | (rw [add_block]; exact hn259_0) | (show (Addr.add _ _).block ≠ _; rw [add_block]; exact hn259_0) | exact hn259_0) (.int .i64 ((rd_T76 l0_1 x30_2).f0))).trans hx259_0; replace hx259_0 := (cell_far (p := ⟨gb257, 1, none⟩) (by first | (rw [add_block]; exact hn259_1) | (show (Addr.add _ _).block ≠ _; rw [add_block]; exact hn259_1) | exact hn259_1) (.int .i64 ((rd_T76 l0_1 x30_2).f1))).trans hx259_0; replace hx259_0 := (cell_far (p := ⟨gb257, 2, none⟩) (by first | (rw [add_block]; exact hn259_2) | (show (Addr.add _ _).block ≠ _; rw [add_block]; exact hn259_2) | exact hn259_2) (.int .i64 ((rd_T76 l0_1 x30_2).f2))).trans hx259_0; (try have hy259_0 := fun (n_ : Nat) => (show (((((w29.drewN n_).setCell ⟨gb257, 0, none⟩ (.int .i64 ((rd_T76 l0_1 x30_2).f0))).setCell ⟨gb257, 1, none⟩ (.int .i64 ((rd_T76 l0_1 x30_2).f1))).setCell ⟨gb257, 2, none⟩ (.int .i64 ((rd_T76 l0_1 x30_2).f2)))).cell? _ = some _ from hx259_0)); clear hn259_0; clear hn259_1; clear hn259_2; replace p259 := eq_true p259; replace q259 := eq_true q259; have p260 : 0 ≤ (a1 : Int) := of_decide_eq_true (by first | (with_reducible assumption) | assumption); have q260 : a1 < (l3.length : Int) := of_decide_eq_true (by first | (with_reducible assumption) | assumption); obtain ⟨ad260, A260_0, c260_0, e260, hx260_0, hl260_0, hi260_0⟩ := at_L3 HR3.out a1 p260 q260; obtain rfl : ad258 = ad260 := (by injection e260); have hn260_0 : ad258.block ≠ gb257 := Nat.ne_of_lt (Nat.lt_of_lt_of_le (by have := World.block_lt_of_cell? _ _ hx260_0; first | rwa [add_block] at this | exact this) GW257.out); have hn260_1 : ad258.block ≠ gb257 := Nat.ne_of_lt (Nat.lt_of_lt_of_le (by have := World.block_lt_of_cell? _ _ hx260_0; first | rwa [add_block] at this | exact this) GW257.out); have hn260_2 : ad258.block ≠ gb257 := Nat.ne_of_lt (Nat.lt_of_lt_of_le (by have := World.block_lt_of_cell? _ _ hx260_0; first | rwa [add_block] at this | exact this) GW257.out); replace hx260_0 := (HB.out.cell (World.block_lt_of_cell? w _ hx260_0)).trans hx260_0; have HR260_0 := Aside0.mk hi260_0; have HC260_0 := Aside0.mk hl260_0; clear hi260_0 hl260_0; replace hx260_0 := (cell_far (p := ⟨gb257, 0, none⟩) (by first | (rw [add_block]; exact hn260_0) | (show (Addr.add _ _).block ≠ _; rw [add_block]; exact hn260_0) | exact hn260_0) (.int .i64 ((rd_T76 l0_1 x30_2).f0))).trans hx260_0; replace hx260_0 := (cell_far (p := ⟨gb257, 1, none⟩) (by first | (rw [add_block]; exact hn260_1) | (show (Addr.add _ _).block ≠ _; rw [add_block]; exact hn260_1) | exact hn260_1) (.int .i64 ((rd_T76 l0_1 x30_2).f1))).trans hx260_0; replace hx260_0 := (cell_far (p := ⟨gb257, 2, none⟩) (by first | (rw [add_block]; exact hn260_2) | (show (Addr.add _ _).block ≠ _; rw [add_block]; exact hn260_2) | exact hn260_2) (.int .i64 ((rd_T76 l0_1 x30_2).f2))).trans hx260_0; (try have hy260_0 := fun (n_ : Nat) => (show (((((w29.drewN n_).setCell ⟨gb257, 0, none⟩ (.int .i64 ((rd_T76 l0_1 x30_2).f0))).setCell ⟨gb257, 1, none⟩ (.int .i64 ((rd_T76 l0_1 x30_2).f1))).setCell ⟨gb257, 2, none⟩ (.int .i64 ((rd_T76 l0_1 x30_2).f2)))).cell? _ = some _ from hx260_0)); clear hn260_0; clear hn260_1; clear hn260_2; replace p260 := eq_true p260; replace q260 := eq_true q260; have p261 : 0 ≤ (a2 : Int) := of_decide_eq_true (by first | (with_reducible assumption) | assumption); have q261 : a2 < ((rd_L3 l3 a1).length : Int) := of_decide_eq_true (by first | (with_reducible assumption) | assumption); obtain ⟨ad261, e261, hx261_0⟩ := Kd.at_int HR260_0.out a2 p261 q261; cases e261; have hn261_0 : ad261.block ≠ gb257 := Nat.ne_of_lt (Nat.lt_of_lt_of_le (by have := World.block_lt_of_cell? _ _ hx261_0; first | rwa [add_block] at this | exact this) GW257.out); have hn261_1 : ad261.block ≠ gb257 := Nat.ne_of_lt (Nat.lt_of_lt_of_le (by have := World.block_lt_of_cell? _ _ hx261_0; first | rwa [add_block] at this | exact this) GW257.out); have hn261_2 : ad261.block ≠ gb257 := Nat.ne_of_lt (Nat.lt_of_lt_of_le (by have := World.block_lt_of_cell? _ _ hx261_0; first | rwa [add_block] at this | exact this) GW257.out); replace hx261_0 := (HB.out.cell (World.block_lt_of_cell? w _ hx261_0)).trans hx261_0; replace hx261_0 := (cell_far (p := ⟨gb257, 0, none⟩) (by first | (rw [add_block]; exact hn261_0) | (show (Addr.add _ _).block ≠ _; rw [add_block]; exact hn261_0) | exact hn261_0) (.int .i64 ((rd_T76 l0_1 x30_2).f0))).trans hx261_0; replace hx261_0 := (cell_far (p := ⟨gb257, 1, none⟩) (by first | (rw [add_block]; exact hn261_1) | (show (Addr.add _ _).block ≠ _; rw [add_block]; exact hn261_1) | exact hn261_1) (.int .i64 ((rd_T76 l0_1 x30_2).f1))).trans hx261_0; replace hx261_0 := (cell_far (p := ⟨gb257, 2, none⟩) (by first | (rw [add_block]; exact hn261_2) | (show (Addr.add _ _).block ≠ _; rw [add_block]; exact hn261_2) | exact hn261_2) (.int .i64 ((rd_T76 l0_1 x30_2).f2))).trans hx261_0; (try have hy261_0 := fun (n_ : Nat) => (show (((((w29.drewN n_).setCell ⟨gb257, 0, none⟩ (.int .i64 ((rd_T76 l0_1 x30_2).f0))).setCell ⟨gb257, 1, none⟩ (.int .i64 ((rd_T76 l0_1 x30_2).f1))).setCell ⟨gb257, 2, none⟩ (.int .i64 ((rd_T76 l0_1 x30_2).f2)))).cell? _ = some _ from hx261_0)); clear hn261_0; clear hn261_1; clear hn261_2; replace p261 := eq_true p261; replace q261 := eq_true q261) | ((with_reducible refine gate_builtin (b := .append) (xs := #[.tmp 59, .tmp 62]) rfl ?_); at_builtin; refine Kd.R_append (Kd.int .i64) (w0 := w) w.heap.size rfl (.tmp 59) (.tmp 62) 26 3 (.int .i64 0) 8 rfl Try.underlying26 info3 rfl (by decide) (by omega) u9 x9_2 ((rd_T76 l0_1 x30_2).f1) [.int .i64 ((rd_T76 l0_1 x30_2).f1)] (fun _ => True) (fun _ => False) rfl (by first | (go_simp; done) | (go_simp; rfl)) ?aP (fun _ hk => hk.elim) ?aF ?aO ?aB ?aS ?aL ?_; (case aP => exact rfl); (case aB => exact (by repeat (first | (with_reducible first | exact HB.out | apply below_alloc | apply pw_below_drewN | apply below_drew1 | refine below_set ?_ GE250.out | refine below_set ?_ GE257.out) | exact HB.out))); (case aF => exact (fun _ _ => trivial)); (case aO => exact (by (with_reducible repeat (first | apply Kd.R_alloc | apply Kd.R_drewN | apply Kd.R_drew)); exact Kd.R_mono (Kd.R_far (p := ⟨gb257, 2, none⟩) (Kd.R_far (p := ⟨gb257, 1, none⟩) (Kd.R_far (p := ⟨gb257, 0, none⟩) (Kd.R_types HO_9.out BK257.out (by decide)) (fun _ hk => hk.2) (.int .i64 ((rd_T76 l0_1 x30_2).f0))) (fun _ hk => hk.2) (.int .i64 ((rd_T76 l0_1 x30_2).f1))) (fun _ hk => hk.2) (.int .i64 ((rd_T76 l0_1 x30_2).f2))) (fun _ hk => trivial))); (case aS => exact (bz_ HB)); (case aL => have := LMc28.out; omega); intro v263 w32 ho hb hg hat; rw [← Ny262.out] at ho; have HO264 := Aside0.mk ho; replace BK250 := Aside0.mk (blk_grown (g := gb250) (o := .cells #[.int .i64 a0_0, .slice (some ad256) l0_1.length c0_1] 30 (0, 0)) (by (with_reducible repeat (first | refine blk_drewN ?_ _ | refine blk_drew ?_ | refine blk_alloc ?_ _)); refine blk_far ?_ NB250_257.out _; (with_reducible repeat (first | refine blk_drewN ?_ _ | refine blk_drew ?_ | refine blk_alloc ?_ _)); refine blk_far ?_ NB250_257.out _; (with_reducible repeat (first | refine blk_drewN ?_ _ | refine blk_drew ?_ | refine blk_alloc ?_ _)); refine blk_far ?_ NB250_257.out _; (with_reducible repeat (first | refine blk_drewN ?_ _ | refine blk_drew ?_ | refine blk_alloc ?_ _)); exact BK250.out) hg (Kd.R_ne HO_9.out BK250.out (by decide))); replace BK257 := Aside0.mk (blk_grown (g := gb257) (o := .cells #[.int .i64 ((rd_T76 l0_1 x30_2).f0), .int .i64 ((rd_T76 l0_1 x30_2).f1), .int .i64 ((rd_T76 l0_1 x30_2).f2)] 76 (0, 0)) (by (with_reducible repeat (first | refine blk_drewN ?_ _ | refine blk_drew ?_ | refine blk_alloc ?_ _)); refine blk_put (cs := #[.int .i64 ((rd_T76 l0_1 x30_2).f0), .int .i64 ((rd_T76 l0_1 x30_2).f1), .int .i64 0]) ?_ 2 _ rfl; (with_reducible repeat (first | refine blk_drewN ?_ _ | refine blk_drew ?_ | refine blk_alloc ?_ _)); refine blk_put (cs := #[.int .i64 ((rd_T76 l0_1 x30_2).f0), .int .i64 0, .int .i64 0]) ?_ 1 _ rfl; (with_reducible repeat (first | refine blk_drewN ?_ _ | refine blk_drew ?_ | refine blk_alloc ?_ _)); refine blk_put (cs := #[.int .i64 0, .int .i64 0, .int .i64 0]) ?_ 0 _ rfl; (with_reducible repeat (first | refine blk_drewN ?_ _ | refine blk_drew ?_ | refine blk_alloc ?_ _)); exact BK257.out) hg (Kd.R_ne HO_9.out BK257.out (by decide))); replace HB := Aside0.mk (hb); clear HO_9; clear ho hb hg hat)); try go_wp2_with (first | ((with_reducible refine gate_dst (N := 11) rfl ?_); refine box_event ?hg (N := 11) ?hd (cs := #[.int .i64 0, .int .i64 0, .int .i64 0]) (t := 76) ?hr ?_; (case hd => rfl); (case hg => rfl); (case hr => first | (go_simp; done) | (go_simp; rfl)); intro gb257 hg w29 hbox hb; have BK257 := Aside0.mk hbox; have GW257 := ge_ HB hg; have GE257 := ge_ HB hg; have NB250_257 := nl_ BK250 hg; have NB257_250 := ng_ BK250 hg; replace HO_9 := rb_ HO_9 hb; replace HB := Aside0.mk (bt_ HB hb); replace BK250 := Aside0.mk (bb_ BK250 hb); clear hb hbox hg; have hnb30 := NB257_250.out; have hnc30 := NB250_257.out; have hcz31_0 := cz_ BK257 0 (.int .i64 0); have hcz31_1 := cz_ BK257 1 (.int .i64 0); have hcz31_2 := cz_ BK257 2 (.int .i64 0); have hfz31_0 := blk_frozen BK257.out 0; have hfz31_1 := blk_frozen BK257.out 1; have hfz31_2 := blk_frozen BK257.out 2; have p258 : 0 ≤ (((rd_T76 l0_1 x30_2).f1) : Int) := of_decide_eq_true (by first | (with_reducible assumption) | assumption); have q258 : ((rd_T76 l0_1 x30_2).f1) < (l3.length : Int) := of_decide_eq_true (by first | (with_reducible assumption) | assumption); obtain ⟨ad258, A258_0, c258_0, e258, hx258_0, hl258_0, hi258_0⟩ := at_L3 HR3.out ((rd_T76 l0_1 x30_2).f1) p258 q258; cases e258; have hn258_0 : ad258.block ≠ gb257 := Nat.ne_of_lt (Nat.lt_of_lt_of_le (by have := World.block_lt_of_cell? _ _ hx258_0; first | rwa [add_block] at this | exact this) GW257.out); have hn258_1 : ad258.block ≠ gb257 := Nat.ne_of_lt (Nat.lt_of_lt_of_le (by have := World.block_lt_of_cell? _ _ hx258_0; first | rwa [add_block] at this | exact this) GW257.out); have hn258_2 : ad258.block ≠ gb257 := Nat.ne_of_lt (Nat.lt_of_lt_of_le (by have := World.block_lt_of_cell? _ _ hx258_0; first | rwa [add_block] at this | exact this) GW257.out); replace hx258_0 := (HB.out.cell (World.block_lt_of_cell? w _ hx258_0)).trans hx258_0; have HR258_0 := Aside0.mk hi258_0; have HC258_0 := Aside0.mk hl258_0; clear hi258_0 hl258_0; replace hx258_0 := (cell_far (p := ⟨gb257, 0, none⟩) (by first | (rw [add_block]; exact hn258_0) | (show (Addr.add _ _).block ≠ _; rw [add_block]; exact hn258_0) | exact hn258_0) (.int .i64 ((rd_T76 l0_1 x30_2).f0))).trans hx258_0; replace hx258_0 := (cell_far (p := ⟨gb257, 1, none⟩) (by first | (rw [add_block]; exact hn258_1) | (show (Addr.add _ _).block ≠ _; rw [add_block]; exact hn258_1) | exact hn258_1) (.int .i64 ((rd_T76 l0_1 x30_2).f1))).trans hx258_0; replace hx258_0 := (cell_far (p := ⟨gb257, 2, none⟩) (by first | (rw [add_block]; exact hn258_2) | (show (Addr.add _ _).block ≠ _; rw [add_block]; exact hn258_2) | exact hn258_2) (.int .i64 ((rd_T76 l0_1 x30_2).f2))).trans hx258_0; (try have hy258_0 := fun (n_ : Nat) => (show (((((w29.drewN n_).setCell ⟨gb257, 0, none⟩ (.int .i64 ((rd_T76 l0_1 x30_2).f0))).setCell ⟨gb257, 1, none⟩ (.int .i64 ((rd_T76 l0_1 x30_2).f1))).setCell ⟨gb257, 2, none⟩ (.int .i64 ((rd_T76 l0_1 x30_2).f2)))).cell? _ = some _ from hx258_0)); clear hn258_0; clear hn258_1; clear hn258_2; replace p258 := eq_true p258; replace q258 := eq_true q258; have p259 : 0 ≤ (a2 : Int) := of_decide_eq_true (by first | (with_reducible assumption) | assumption); have q259 : a2 < ((rd_L3 l3 ((rd_T76 l0_1 x30_2).f1)).length : Int) := of_decide_eq_true (by first | (with_reducible assumption) | assumption); obtain ⟨ad259, e259, hx259_0⟩ := Kd.at_int HR258_0.out a2 p259 q259; cases e259; have hn259_0 : ad259.block ≠ gb257 := Nat.ne_of_lt (Nat.lt_of_lt_of_le (by have := World.block_lt_of_cell? _ _ hx259_0; first | rwa [add_block] at this | exact this) GW257.out); have hn259_1 : ad259.block ≠ gb257 := Nat.ne_of_lt (Nat.lt_of_lt_of_le (by have := World.block_lt_of_cell? _ _ hx259_0; first | rwa [add_block] at this | exact this) GW257.out); have hn259_2 : ad259.block ≠ gb257 := Nat.ne_of_lt (Nat.lt_of_lt_of_le (by have := World.block_lt_of_cell? _ _ hx259_0; first | rwa [add_block] at this | exact this) GW257.out); replace hx259_0 := (HB.out.cell (World.block_lt_of_cell? w _ hx259_0)).trans hx259_0; replace hx259_0 := (cell_far (p := ⟨gb257, 0, none⟩) (by first | (rw [add_block]; exact hn259_0) | (show (Addr.add _ _).block ≠ _; rw [add_block]; exact hn259_0) | exact hn259_0) (.int .i64 ((rd_T76 l0_1 x30_2).f0))).trans hx259_0; replace hx259_0 := (cell_far (p := ⟨gb257, 1, none⟩) (by first | (rw [add_block]; exact hn259_1) | (show (Addr.add _ _).block ≠ _; rw [add_block]; exact hn259_1) | exact hn259_1) (.int .i64 ((rd_T76 l0_1 x30_2).f1))).trans hx259_0; replace hx259_0 := (cell_far (p := ⟨gb257, 2, none⟩) (by first | (rw [add_block]; exact hn259_2) | (show (Addr.add _ _).block ≠ _; rw [add_block]; exact hn259_2) | exact hn259_2) (.int .i64 ((rd_T76 l0_1 x30_2).f2))).trans hx259_0; (try have hy259_0 := fun (n_ : Nat) => (show (((((w29.drewN n_).setCell ⟨gb257, 0, none⟩ (.int .i64 ((rd_T76 l0_1 x30_2).f0))).setCell ⟨gb257, 1, none⟩ (.int .i64 ((rd_T76 l0_1 x30_2).f1))).setCell ⟨gb257, 2, none⟩ (.int .i64 ((rd_T76 l0_1 x30_2).f2)))).cell? _ = some _ from hx259_0)); clear hn259_0; clear hn259_1; clear hn259_2; replace p259 := eq_true p259; replace q259 := eq_true q259; have p260 : 0 ≤ (a1 : Int) := of_decide_eq_true (by first | (with_reducible assumption) | assumption); have q260 : a1 < (l3.length : Int) := of_decide_eq_true (by first | (with_reducible assumption) | assumption); obtain ⟨ad260, A260_0, c260_0, e260, hx260_0, hl260_0, hi260_0⟩ := at_L3 HR3.out a1 p260 q260; obtain rfl : ad258 = ad260 := (by injection e260); have hn260_0 : ad258.block ≠ gb257 := Nat.ne_of_lt (Nat.lt_of_lt_of_le (by have := World.block_lt_of_cell? _ _ hx260_0; first | rwa [add_block] at this | exact this) GW257.out); have hn260_1 : ad258.block ≠ gb257 := Nat.ne_of_lt (Nat.lt_of_lt_of_le (by have := World.block_lt_of_cell? _ _ hx260_0; first | rwa [add_block] at this | exact this) GW257.out); have hn260_2 : ad258.block ≠ gb257 := Nat.ne_of_lt (Nat.lt_of_lt_of_le (by have := World.block_lt_of_cell? _ _ hx260_0; first | rwa [add_block] at this | exact this) GW257.out); replace hx260_0 := (HB.out.cell (World.block_lt_of_cell? w _ hx260_0)).trans hx260_0; have HR260_0 := Aside0.mk hi260_0; have HC260_0 := Aside0.mk hl260_0; clear hi260_0 hl260_0; replace hx260_0 := (cell_far (p := ⟨gb257, 0, none⟩) (by first | (rw [add_block]; exact hn260_0) | (show (Addr.add _ _).block ≠ _; rw [add_block]; exact hn260_0) | exact hn260_0) (.int .i64 ((rd_T76 l0_1 x30_2).f0))).trans hx260_0; replace hx260_0 := (cell_far (p := ⟨gb257, 1, none⟩) (by first | (rw [add_block]; exact hn260_1) | (show (Addr.add _ _).block ≠ _; rw [add_block]; exact hn260_1) | exact hn260_1) (.int .i64 ((rd_T76 l0_1 x30_2).f1))).trans hx260_0; replace hx260_0 := (cell_far (p := ⟨gb257, 2, none⟩) (by first | (rw [add_block]; exact hn260_2) | (show (Addr.add _ _).block ≠ _; rw [add_block]; exact hn260_2) | exact hn260_2) (.int .i64 ((rd_T76 l0_1 x30_2).f2))).trans hx260_0; (try have hy260_0 := fun (n_ : Nat) => (show (((((w29.drewN n_).setCell ⟨gb257, 0, none⟩ (.int .i64 ((rd_T76 l0_1 x30_2).f0))).setCell ⟨gb257, 1, none⟩ (.int .i64 ((rd_T76 l0_1 x30_2).f1))).setCell ⟨gb257, 2, none⟩ (.int .i64 ((rd_T76 l0_1 x30_2).f2)))).cell? _ = some _ from hx260_0)); clear hn260_0; clear hn260_1; clear hn260_2; replace p260 := eq_true p260; replace q260 := eq_true q260; have p261 : 0 ≤ (a2 : Int) := of_decide_eq_true (by first | (with_reducible assumption) | assumption); have q261 : a2 < ((rd_L3 l3 a1).length : Int) := of_decide_eq_true (by first | (with_reducible assumption) | assumption); obtain ⟨ad261, e261, hx261_0⟩ := Kd.at_int HR260_0.out a2 p261 q261; cases e261; have hn261_0 : ad261.block ≠ gb257 := Nat.ne_of_lt (Nat.lt_of_lt_of_le (by have := World.block_lt_of_cell? _ _ hx261_0; first | rwa [add_block] at this | exact this) GW257.out); have hn261_1 : ad261.block ≠ gb257 := Nat.ne_of_lt (Nat.lt_of_lt_of_le (by have := World.block_lt_of_cell? _ _ hx261_0; first | rwa [add_block] at this | exact this) GW257.out); have hn261_2 : ad261.block ≠ gb257 := Nat.ne_of_lt (Nat.lt_of_lt_of_le (by have := World.block_lt_of_cell? _ _ hx261_0; first | rwa [add_block] at this | exact this) GW257.out); replace hx261_0 := (HB.out.cell (World.block_lt_of_cell? w _ hx261_0)).trans hx261_0; replace hx261_0 := (cell_far (p := ⟨gb257, 0, none⟩) (by first | (rw [add_block]; exact hn261_0) | (show (Addr.add _ _).block ≠ _; rw [add_block]; exact hn261_0) | exact hn261_0) (.int .i64 ((rd_T76 l0_1 x30_2).f0))).trans hx261_0; replace hx261_0 := (cell_far (p := ⟨gb257, 1, none⟩) (by first | (rw [add_block]; exact hn261_1) | (show (Addr.add _ _).block ≠ _; rw [add_block]; exact hn261_1) | exact hn261_1) (.int .i64 ((rd_T76 l0_1 x30_2).f1))).trans hx261_0; replace hx261_0 := (cell_far (p := ⟨gb257, 2, none⟩) (by first | (rw [add_block]; exact hn261_2) | (show (Addr.add _ _).block ≠ _; rw [add_block]; exact hn261_2) | exact hn261_2) (.int .i64 ((rd_T76 l0_1 x30_2).f2))).trans hx261_0; (try have hy261_0 := fun (n_ : Nat) => (show (((((w29.drewN n_).setCell ⟨gb257, 0, none⟩ (.int .i64 ((rd_T76 l0_1 x30_2).f0))).setCell ⟨gb257, 1, none⟩ (.int .i64 ((rd_T76 l0_1 x30_2).f1))).setCell ⟨gb257, 2, none⟩ (.int .i64 ((rd_T76 l0_1 x30_2).f2)))).cell? _ = some _ from hx261_0)); clear hn261_0; clear hn261_1; clear hn261_2; replace p261 := eq_true p261; replace q261 := eq_true q261) | ((with_reducible refine gate_builtin (b := .append) (xs := #[.tmp 59, .tmp 62]) rfl ?_); at_builtin; refine Kd.R_append (Kd.int .i64) (w0 := w) w.heap.size rfl (.tmp 59) (.tmp 62) 26 3 (.int .i64 0) 8 rfl Try.underlying26 info3 rfl (by decide) (by omega) u9 x9_2 ((rd_T76 l0_1 x30_2).f1) [.int .i64 ((rd_T76 l0_1 x30_2).f1)] (fun _ => True) (fun _ => False) rfl (by first | (go_simp; done) | (go_simp; rfl)) ?aP (fun _ hk => hk.elim) ?aF ?aO ?aB ?aS ?aL ?_; (case aP => exact rfl); (case aB => exact (by repeat (first | (with_reducible first | exact HB.out | apply below_alloc | apply pw_below_drewN | apply below_drew1 | refine below_set ?_ GE250.out | refine below_set ?_ GE257.out) | exact HB.out))); (case aF => exact (fun _ _ => trivial)); (case aO => exact (by (with_reducible repeat (first | apply Kd.R_alloc | apply Kd.R_drewN | apply Kd.R_drew)); exact Kd.R_mono (Kd.R_far (p := ⟨gb257, 2, none⟩) (Kd.R_far (p := ⟨gb257, 1, none⟩) (Kd.R_far (p := ⟨gb257, 0, none⟩) (Kd.R_types HO_9.out BK257.out (by decide)) (fun _ hk => hk.2) (.int .i64 ((rd_T76 l0_1 x30_2).f0))) (fun _ hk => hk.2) (.int .i64 ((rd_T76 l0_1 x30_2).f1))) (fun _ hk => hk.2) (.int .i64 ((rd_T76 l0_1 x30_2).f2))) (fun _ hk => trivial))); (case aS => exact (bz_ HB)); (case aL => have := LMc28.out; omega); intro v263 w32 ho hb hg hat; rw [← Ny262.out] at ho; have HO264 := Aside0.mk ho; replace BK250 := Aside0.mk (blk_grown (g := gb250) (o := .cells #[.int .i64 a0_0, .slice (some ad256) l0_1.length c0_1] 30 (0, 0)) (by (with_reducible repeat (first | refine blk_drewN ?_ _ | refine blk_drew ?_ | refine blk_alloc ?_ _)); refine blk_far ?_ NB250_257.out _; (with_reducible repeat (first | refine blk_drewN ?_ _ | refine blk_drew ?_ | refine blk_alloc ?_ _)); refine blk_far ?_ NB250_257.out _; (with_reducible repeat (first | refine blk_drewN ?_ _ | refine blk_drew ?_ | refine blk_alloc ?_ _)); refine blk_far ?_ NB250_257.out _; (with_reducible repeat (first | refine blk_drewN ?_ _ | refine blk_drew ?_ | refine blk_alloc ?_ _)); exact BK250.out) hg (Kd.R_ne HO_9.out BK250.out (by decide))); replace BK257 := Aside0.mk (blk_grown (g := gb257) (o := .cells #[.int .i64 ((rd_T76 l0_1 x30_2).f0), .int .i64 ((rd_T76 l0_1 x30_2).f1), .int .i64 ((rd_T76 l0_1 x30_2).f2)] 76 (0, 0)) (by (with_reducible repeat (first | refine blk_drewN ?_ _ | refine blk_drew ?_ | refine blk_alloc ?_ _)); refine blk_put (cs := #[.int .i64 ((rd_T76 l0_1 x30_2).f0), .int .i64 ((rd_T76 l0_1 x30_2).f1), .int .i64 0]) ?_ 2 _ rfl; (with_reducible repeat (first | refine blk_drewN ?_ _ | refine blk_drew ?_ | refine blk_alloc ?_ _)); refine blk_put (cs := #[.int .i64 ((rd_T76 l0_1 x30_2).f0), .int .i64 0, .int .i64 0]) ?_ 1 _ rfl; (with_reducible repeat (first | refine blk_drewN ?_ _ | refine blk_drew ?_ | refine blk_alloc ?_ _)); refine blk_put (cs := #[.int .i64 0, .int .i64 0, .int .i64 0]) ?_ 0 _ rfl; (with_reducible repeat (first | refine blk_drewN ?_ _ | refine blk_drew ?_ | refine blk_alloc ?_ _)); exact BK257.out) hg (Kd.R_ne HO_9.out BK257.out (by decide))); replace HB := Aside0.mk (hb); clear HO_9; clear ho hb hg hat)))
                   go_roundg k2
                   case measure => have := HJ4.out; have := HK2.out; omega
                   case rel => exact ⟨(y262), (wrap64 (x30_2 + 1)), (by first | rfl | (simp; done) | (simp [*]; done)), H', ⟨by have := HJ4.out; have := HK2.out; omega⟩, ⟨by (with_reducible repeat (first | apply Kd.R_alloc | apply Kd.R_drewN | apply Kd.R_drew)); exact HO264.out⟩, ⟨by (with_reducible repeat (first | refine blk_drewN ?_ _ | refine blk_drew ?_ | refine blk_alloc ?_ _)); exact BK250.out⟩, ⟨by repeat (first | (with_reducible first | exact HB.out | apply below_alloc | apply pw_below_drewN | apply below_drew1 | refine below_set ?_ GE250.out | refine below_set ?_ GE257.out) | exact HB.out)⟩⟩
                  ·rw [if_neg c28] at H
                   exact absurd H (by simp)
                 ·rw [if_neg c27] at H
                  have c27b0 : ((wrap64 (((rd_T76 l0_1 x30_2).f2) + (rd (rd_L3 l3 ((rd_T76 l0_1 x30_2).f1)) a2))) == (rd (rd_L3 l3 a1) a2)) = false := beq_eq_false_iff_ne.mpr c27
                  have c27b1 : ((wrap64 (((rd_T76 l0_1 x30_2).f2) + (rd (rd_L3 l3 ((rd_T76 l0_1 x30_2).f1)) a2))) != (rd (rd_L3 l3 a1) a2)) = true := bne_iff_ne.mpr c27
                  have H' := Aside0.mk H
                  clear H
                  have p256 : 0 ≤ (x30_2 : Int) := of_decide_eq_true (by first | (with_reducible assumption) | assumption)
                  have q256 : x30_2 < (l0_1.length : Int) := of_decide_eq_true (by first | (with_reducible assumption) | assumption)
                  obtain ⟨ad256, e256, hx256_0, hx256_1, hx256_2⟩ := at_T76 HR0_1.out x30_2 p256 q256
                  cases e256
                  replace hx256_0 := (HB.out.cell (World.block_lt_of_cell? w _ hx256_0)).trans hx256_0
                  replace hx256_1 := (HB.out.cell (World.block_lt_of_cell? w _ hx256_1)).trans hx256_1
                  replace hx256_2 := (HB.out.cell (World.block_lt_of_cell? w _ hx256_2)).trans hx256_2
                  replace p256 := eq_true p256
                  replace q256 := eq_true q256
                  go_wp2_with (first | ((with_reducible refine gate_dst (N := 11) rfl ?_); refine box_event ?hg (N := 11) ?hd (cs := #[.int .i64 0, .int .i64 0, .int .i64 0]) (t := 76) ?hr ?_; (case hd => rfl); (case hg => rfl); (case hr => first | (go_simp; done) | (go_simp; rfl)); intro gb257 hg w33 hbox hb; have BK257 := Aside0.mk hbox; have GW257 := ge_ HB hg; have GE257 := ge_ HB hg; have NB250_257 := nl_ BK250 hg; have NB257_250 := ng_ BK250 hg; replace HO_9 := rb_ HO_9 hb; replace HB := Aside0.mk (bt_ HB hb); replace BK250 := Aside0.mk (bb_ BK250 hb); clear hb hbox hg; have hnb34 := NB257_250.out; have hnc34 := NB250_257.out; have hcz35_0 := cz_ BK257 0 (.int .i64 0); have hcz35_1 := cz_ BK257 1 (.int .i64 0); have hcz35_2 := cz_ BK257 2 (.int .i64 0); have hfz35_0 := blk_frozen BK257.out 0; have hfz35_1 := blk_frozen BK257.out 1; have hfz35_2 := blk_frozen BK257.out 2; have p258 : 0 ≤ (((rd_T76 l0_1 x30_2).f1) : Int) := of_decide_eq_true (by first | (with_reducible assumption) | assumption); have q258 : ((rd_T76 l0_1 x30_2).f1) < (l3.length : Int) := of_decide_eq_true (by first | (with_reducible assumption) | assumption); obtain ⟨ad258, A258_0, c258_0, e258, hx258_0, hl258_0, hi258_0⟩ := at_L3 HR3.out ((rd_T76 l0_1 x30_2).f1) p258 q258; cases e258; have hn258_0 : ad258.block ≠ gb257 := Nat.ne_of_lt (Nat.lt_of_lt_of_le (by have := World.block_lt_of_cell? _ _ hx258_0; first | rwa [add_block] at this | exact this) GW257.out); have hn258_1 : ad258.block ≠ gb257 := Nat.ne_of_lt (Nat.lt_of_lt_of_le (by have := World.block_lt_of_cell? _ _ hx258_0; first | rwa [add_block] at this | exact this) GW257.out); have hn258_2 : ad258.block ≠ gb257 := Nat.ne_of_lt (Nat.lt_of_lt_of_le (by have := World.block_lt_of_cell? _ _ hx258_0; first | rwa [add_block] at this | exact this) GW257.out); replace hx258_0 := (HB.out.cell (World.block_lt_of_cell? w _ hx258_0)).trans hx258_0; have HR258_0 := Aside0.mk hi258_0; have HC258_0 := Aside0.mk hl258_0; clear hi258_0 hl258_0; replace hx258_0 := (cell_far (p := ⟨gb257, 0, none⟩) (by first | (rw [add_block]; exact hn258_0) | (show (Addr.add _ _).block ≠ _; rw [add_block]; exact hn258_0) | exact hn258_0) (.int .i64 ((rd_T76 l0_1 x30_2).f0))).trans hx258_0; replace hx258_0 := (cell_far (p := ⟨gb257, 1, none⟩) (by first | (rw [add_block]; exact hn258_1) | (show (Addr.add _ _).block ≠ _; rw [add_block]; exact hn258_1) | exact hn258_1) (.int .i64 ((rd_T76 l0_1 x30_2).f1))).trans hx258_0; replace hx258_0 := (cell_far (p := ⟨gb257, 2, none⟩) (by first | (rw [add_block]; exact hn258_2) | (show (Addr.add _ _).block ≠ _; rw [add_block]; exact hn258_2) | exact hn258_2) (.int .i64 ((rd_T76 l0_1 x30_2).f2))).trans hx258_0; (try have hy258_0 := fun (n_ : Nat) => (show (((((w33.drewN n_).setCell ⟨gb257, 0, none⟩ (.int .i64 ((rd_T76 l0_1 x30_2).f0))).setCell ⟨gb257, 1, none⟩ (.int .i64 ((rd_T76 l0_1 x30_2).f1))).setCell ⟨gb257, 2, none⟩ (.int .i64 ((rd_T76 l0_1 x30_2).f2)))).cell? _ = some _ from hx258_0)); clear hn258_0; clear hn258_1; clear hn258_2; replace p258 := eq_true p258; replace q258 := eq_true q258; have p259 : 0 ≤ (a2 : Int) := of_decide_eq_true (by first | (with_reducible assumption) | assumption); have q259 : a2 < ((rd_L3 l3 ((rd_T76 l0_1 x30_2).f1)).length : Int) := of_decide_eq_true (by first | (with_reducible assumption) | assumption); obtain ⟨ad259, e259, hx259_0⟩ := Kd.at_int HR258_0.out a2 p259 q259; cases e259; have hn259_0 : ad259.block ≠ gb257 := Nat.ne_of_lt (Nat.lt_of_lt_of_le (by have := World.block_lt_of_cell? _ _ hx259_0; first | rwa [add_block] at this | exact this) GW257.out); have hn259_1 : ad259.block ≠ gb257 := Nat.ne_of_lt (Nat.lt_of_lt_of_le (by have := World.block_lt_of_cell? _ _ hx259_0; first | rwa [add_block] at this | exact this) GW257.out); have hn259_2 : ad259.block ≠ gb257 := Nat.ne_of_lt (Nat.lt_of_lt_of_le (by have := World.block_lt_of_cell? _ _ hx259_0; first | rwa [add_block] at this | exact this) GW257.out); replace hx259_0 := (HB.out.cell (World.block_lt_of_cell? w _ hx259_0)).trans hx259_0; replace hx259_0 := (cell_far (p := ⟨gb257, 0, none⟩) (by first | (rw [add_block]; exact hn259_0) | (show (Addr.add _ _).block ≠ _; rw [add_block]; exact hn259_0) | exact hn259_0) (.int .i64 ((rd_T76 l0_1 x30_2).f0))).trans hx259_0; replace hx259_0 := (cell_far (p := ⟨gb257, 1, none⟩) (by first | (rw [add_block]; exact hn259_1) | (show (Addr.add _ _).block ≠ _; rw [add_block]; exact hn259_1) | exact hn259_1) (.int .i64 ((rd_T76 l0_1 x30_2).f1))).trans hx259_0; replace hx259_0 := (cell_far (p := ⟨gb257, 2, none⟩) (by first | (rw [add_block]; exact hn259_2) | (show (Addr.add _ _).block ≠ _; rw [add_block]; exact hn259_2) | exact hn259_2) (.int .i64 ((rd_T76 l0_1 x30_2).f2))).trans hx259_0; (try have hy259_0 := fun (n_ : Nat) => (show (((((w33.drewN n_).setCell ⟨gb257, 0, none⟩ (.int .i64 ((rd_T76 l0_1 x30_2).f0))).setCell ⟨gb257, 1, none⟩ (.int .i64 ((rd_T76 l0_1 x30_2).f1))).setCell ⟨gb257, 2, none⟩ (.int .i64 ((rd_T76 l0_1 x30_2).f2)))).cell? _ = some _ from hx259_0)); clear hn259_0; clear hn259_1; clear hn259_2; replace p259 := eq_true p259; replace q259 := eq_true q259; have p260 : 0 ≤ (a1 : Int) := of_decide_eq_true (by first | (with_reducible assumption) | assumption); have q260 : a1 < (l3.length : Int) := of_decide_eq_true (by first | (with_reducible assumption) | assumption); obtain ⟨ad260, A260_0, c260_0, e260, hx260_0, hl260_0, hi260_0⟩ := at_L3 HR3.out a1 p260 q260; obtain rfl : ad258 = ad260 := (by injection e260); have hn260_0 : ad258.block ≠ gb257 := Nat.ne_of_lt (Nat.lt_of_lt_of_le (by have := World.block_lt_of_cell? _ _ hx260_0; first | rwa [add_block] at this | exact this) GW257.out); have hn260_1 : ad258.block ≠ gb257 := Nat.ne_of_lt (Nat.lt_of_lt_of_le (by have := World.block_lt_of_cell? _ _ hx260_0; first | rwa [add_block] at this | exact this) GW257.out); have hn260_2 : ad258.block ≠ gb257 := Nat.ne_of_lt (Nat.lt_of_lt_of_le (by have := World.block_lt_of_cell? _ _ hx260_0; first | rwa [add_block] at this | exact this) GW257.out); replace hx260_0 := (HB.out.cell (World.block_lt_of_cell? w _ hx260_0)).trans hx260_0; have HR260_0 := Aside0.mk hi260_0; have HC260_0 := Aside0.mk hl260_0; clear hi260_0 hl260_0; replace hx260_0 := (cell_far (p := ⟨gb257, 0, none⟩) (by first | (rw [add_block]; exact hn260_0) | (show (Addr.add _ _).block ≠ _; rw [add_block]; exact hn260_0) | exact hn260_0) (.int .i64 ((rd_T76 l0_1 x30_2).f0))).trans hx260_0; replace hx260_0 := (cell_far (p := ⟨gb257, 1, none⟩) (by first | (rw [add_block]; exact hn260_1) | (show (Addr.add _ _).block ≠ _; rw [add_block]; exact hn260_1) | exact hn260_1) (.int .i64 ((rd_T76 l0_1 x30_2).f1))).trans hx260_0; replace hx260_0 := (cell_far (p := ⟨gb257, 2, none⟩) (by first | (rw [add_block]; exact hn260_2) | (show (Addr.add _ _).block ≠ _; rw [add_block]; exact hn260_2) | exact hn260_2) (.int .i64 ((rd_T76 l0_1 x30_2).f2))).trans hx260_0; (try have hy260_0 := fun (n_ : Nat) => (show (((((w33.drewN n_).setCell ⟨gb257, 0, none⟩ (.int .i64 ((rd_T76 l0_1 x30_2).f0))).setCell ⟨gb257, 1, none⟩ (.int .i64 ((rd_T76 l0_1 x30_2).f1))).setCell ⟨gb257, 2, none⟩ (.int .i64 ((rd_T76 l0_1 x30_2).f2)))).cell? _ = some _ from hx260_0)); clear hn260_0; clear hn260_1; clear hn260_2; replace p260 := eq_true p260; replace q260 := eq_true q260; have p261 : 0 ≤ (a2 : Int) := of_decide_eq_true (by first | (with_reducible assumption) | assumption); have q261 : a2 < ((rd_L3 l3 a1).length : Int) := of_decide_eq_true (by first | (with_reducible assumption) | assumption); obtain ⟨ad261, e261, hx261_0⟩ := Kd.at_int HR260_0.out a2 p261 q261; cases e261; have hn261_0 : ad261.block ≠ gb257 := Nat.ne_of_lt (Nat.lt_of_lt_of_le (by have := World.block_lt_of_cell? _ _ hx261_0; first | rwa [add_block] at this | exact this) GW257.out); have hn261_1 : ad261.block ≠ gb257 := Nat.ne_of_lt (Nat.lt_of_lt_of_le (by have := World.block_lt_of_cell? _ _ hx261_0; first | rwa [add_block] at this | exact this) GW257.out); have hn261_2 : ad261.block ≠ gb257 := Nat.ne_of_lt (Nat.lt_of_lt_of_le (by have := World.block_lt_of_cell? _ _ hx261_0; first | rwa [add_block] at this | exact this) GW257.out); replace hx261_0 := (HB.out.cell (World.block_lt_of_cell? w _ hx261_0)).trans hx261_0; replace hx261_0 := (cell_far (p := ⟨gb257, 0, none⟩) (by first | (rw [add_block]; exact hn261_0) | (show (Addr.add _ _).block ≠ _; rw [add_block]; exact hn261_0) | exact hn261_0) (.int .i64 ((rd_T76 l0_1 x30_2).f0))).trans hx261_0; replace hx261_0 := (cell_far (p := ⟨gb257, 1, none⟩) (by first | (rw [add_block]; exact hn261_1) | (show (Addr.add _ _).block ≠ _; rw [add_block]; exact hn261_1) | exact hn261_1) (.int .i64 ((rd_T76 l0_1 x30_2).f1))).trans hx261_0; replace hx261_0 := (cell_far (p := ⟨gb257, 2, none⟩) (by first | (rw [add_block]; exact hn261_2) | (show (Addr.add _ _).block ≠ _; rw [add_block]; exact hn261_2) | exact hn261_2) (.int .i64 ((rd_T76 l0_1 x30_2).f2))).trans hx261_0; (try have hy261_0 := fun (n_ : Nat) => (show (((((w33.drewN n_).setCell ⟨gb257, 0, none⟩ (.int .i64 ((rd_T76 l0_1 x30_2).f0))).setCell ⟨gb257, 1, none⟩ (.int .i64 ((rd_T76 l0_1 x30_2).f1))).setCell ⟨gb257, 2, none⟩ (.int .i64 ((rd_T76 l0_1 x30_2).f2)))).cell? _ = some _ from hx261_0)); clear hn261_0; clear hn261_1; clear hn261_2; replace p261 := eq_true p261; replace q261 := eq_true q261))
                  repeat (go_quiet (first | ((with_reducible refine gate_dst (N := 11) rfl ?_); refine box_event ?hg (N := 11) ?hd (cs := #[.int .i64 0, .int .i64 0, .int .i64 0]) (t := 76) ?hr ?_; (case hd => rfl); (case hg => rfl); (case hr => first | (go_simp; done) | (go_simp; rfl)); intro gb257 hg w33 hbox hb; have BK257 := Aside0.mk hbox; have GW257 := ge_ HB hg; have GE257 := ge_ HB hg; have NB250_257 := nl_ BK250 hg; have NB257_250 := ng_ BK250 hg; replace HO_9 := rb_ HO_9 hb; replace HB := Aside0.mk (bt_ HB hb); replace BK250 := Aside0.mk (bb_ BK250 hb); clear hb hbox hg; have hnb34 := NB257_250.out; have hnc34 := NB250_257.out; have hcz35_0 := cz_ BK257 0 (.int .i64 0); have hcz35_1 := cz_ BK257 1 (.int .i64 0); have hcz35_2 := cz_ BK257 2 (.int .i64 0); have hfz35_0 := blk_frozen BK257.out 0; have hfz35_1 := blk_frozen BK257.out 1; have hfz35_2 := blk_frozen BK257.out 2; have p258 : 0 ≤ (((rd_T76 l0_1 x30_2).f1) : Int) := of_decide_eq_true (by first | (with_reducible assumption) | assumption); have q258 : ((rd_T76 l0_1 x30_2).f1) < (l3.length : Int) := of_decide_eq_true (by first | (with_reducible assumption) | assumption); obtain ⟨ad258, A258_0, c258_0, e258, hx258_0, hl258_0, hi258_0⟩ := at_L3 HR3.out ((rd_T76 l0_1 x30_2).f1) p258 q258; cases e258; have hn258_0 : ad258.block ≠ gb257 := Nat.ne_of_lt (Nat.lt_of_lt_of_le (by have := World.block_lt_of_cell? _ _ hx258_0; first | rwa [add_block] at this | exact this) GW257.out); have hn258_1 : ad258.block ≠ gb257 := Nat.ne_of_lt (Nat.lt_of_lt_of_le (by have := World.block_lt_of_cell? _ _ hx258_0; first | rwa [add_block] at this | exact this) GW257.out); have hn258_2 : ad258.block ≠ gb257 := Nat.ne_of_lt (Nat.lt_of_lt_of_le (by have := World.block_lt_of_cell? _ _ hx258_0; first | rwa [add_block] at this | exact this) GW257.out); replace hx258_0 := (HB.out.cell (World.block_lt_of_cell? w _ hx258_0)).trans hx258_0; have HR258_0 := Aside0.mk hi258_0; have HC258_0 := Aside0.mk hl258_0; clear hi258_0 hl258_0; replace hx258_0 := (cell_far (p := ⟨gb257, 0, none⟩) (by first | (rw [add_block]; exact hn258_0) | (show (Addr.add _ _).block ≠ _; rw [add_block]; exact hn258_0) | exact hn258_0) (.int .i64 ((rd_T76 l0_1 x30_2).f0))).trans hx258_0; replace hx258_0 := (cell_far (p := ⟨gb257, 1, none⟩) (by first | (rw [add_block]; exact hn258_1) | (show (Addr.add _ _).block ≠ _; rw [add_block]; exact hn258_1) | exact hn258_1) (.int .i64 ((rd_T76 l0_1 x30_2).f1))).trans hx258_0; replace hx258_0 := (cell_far (p := ⟨gb257, 2, none⟩) (by first | (rw [add_block]; exact hn258_2) | (show (Addr.add _ _).block ≠ _; rw [add_block]; exact hn258_2) | exact hn258_2) (.int .i64 ((rd_T76 l0_1 x30_2).f2))).trans hx258_0; (try have hy258_0 := fun (n_ : Nat) => (show (((((w33.drewN n_).setCell ⟨gb257, 0, none⟩ (.int .i64 ((rd_T76 l0_1 x30_2).f0))).setCell ⟨gb257, 1, none⟩ (.int .i64 ((rd_T76 l0_1 x30_2).f1))).setCell ⟨gb257, 2, none⟩ (.int .i64 ((rd_T76 l0_1 x30_2).f2)))).cell? _ = some _ from hx258_0)); clear hn258_0; clear hn258_1; clear hn258_2; replace p258 := eq_true p258; replace q258 := eq_true q258; have p259 : 0 ≤ (a2 : Int) := of_decide_eq_true (by first | (with_reducible assumption) | assumption); have q259 : a2 < ((rd_L3 l3 ((rd_T76 l0_1 x30_2).f1)).length : Int) := of_decide_eq_true (by first | (with_reducible assumption) | assumption); obtain ⟨ad259, e259, hx259_0⟩ := Kd.at_int HR258_0.out a2 p259 q259; cases e259; have hn259_0 : ad259.block ≠ gb257 := Nat.ne_of_lt (Nat.lt_of_lt_of_le (by have := World.block_lt_of_cell? _ _ hx259_0; first | rwa [add_block] at this | exact this) GW257.out); have hn259_1 : ad259.block ≠ gb257 := Nat.ne_of_lt (Nat.lt_of_lt_of_le (by have := World.block_lt_of_cell? _ _ hx259_0; first | rwa [add_block] at this | exact this) GW257.out); have hn259_2 : ad259.block ≠ gb257 := Nat.ne_of_lt (Nat.lt_of_lt_of_le (by have := World.block_lt_of_cell? _ _ hx259_0; first | rwa [add_block] at this | exact this) GW257.out); replace hx259_0 := (HB.out.cell (World.block_lt_of_cell? w _ hx259_0)).trans hx259_0; replace hx259_0 := (cell_far (p := ⟨gb257, 0, none⟩) (by first | (rw [add_block]; exact hn259_0) | (show (Addr.add _ _).block ≠ _; rw [add_block]; exact hn259_0) | exact hn259_0) (.int .i64 ((rd_T76 l0_1 x30_2).f0))).trans hx259_0; replace hx259_0 := (cell_far (p := ⟨gb257, 1, none⟩) (by first | (rw [add_block]; exact hn259_1) | (show (Addr.add _ _).block ≠ _; rw [add_block]; exact hn259_1) | exact hn259_1) (.int .i64 ((rd_T76 l0_1 x30_2).f1))).trans hx259_0; replace hx259_0 := (cell_far (p := ⟨gb257, 2, none⟩) (by first | (rw [add_block]; exact hn259_2) | (show (Addr.add _ _).block ≠ _; rw [add_block]; exact hn259_2) | exact hn259_2) (.int .i64 ((rd_T76 l0_1 x30_2).f2))).trans hx259_0; (try have hy259_0 := fun (n_ : Nat) => (show (((((w33.drewN n_).setCell ⟨gb257, 0, none⟩ (.int .i64 ((rd_T76 l0_1 x30_2).f0))).setCell ⟨gb257, 1, none⟩ (.int .i64 ((rd_T76 l0_1 x30_2).f1))).setCell ⟨gb257, 2, none⟩ (.int .i64 ((rd_T76 l0_1 x30_2).f2)))).cell? _ = some _ from hx259_0)); clear hn259_0; clear hn259_1; clear hn259_2; replace p259 := eq_true p259; replace q259 := eq_true q259; have p260 : 0 ≤ (a1 : Int) := of_decide_eq_true (by first | (with_reducible assumption) | assumption); have q260 : a1 < (l3.length : Int) := of_decide_eq_true (by first | (with_reducible assumption) | assumption); obtain ⟨ad260, A260_0, c260_0, e260, hx260_0, hl260_0, hi260_0⟩ := at_L3 HR3.out a1 p260 q260; obtain rfl : ad258 = ad260 := (by injection e260); have hn260_0 : ad258.block ≠ gb257 := Nat.ne_of_lt (Nat.lt_of_lt_of_le (by have := World.block_lt_of_cell? _ _ hx260_0; first | rwa [add_block] at this | exact this) GW257.out); have hn260_1 : ad258.block ≠ gb257 := Nat.ne_of_lt (Nat.lt_of_lt_of_le (by have := World.block_lt_of_cell? _ _ hx260_0; first | rwa [add_block] at this | exact this) GW257.out); have hn260_2 : ad258.block ≠ gb257 := Nat.ne_of_lt (Nat.lt_of_lt_of_le (by have := World.block_lt_of_cell? _ _ hx260_0; first | rwa [add_block] at this | exact this) GW257.out); replace hx260_0 := (HB.out.cell (World.block_lt_of_cell? w _ hx260_0)).trans hx260_0; have HR260_0 := Aside0.mk hi260_0; have HC260_0 := Aside0.mk hl260_0; clear hi260_0 hl260_0; replace hx260_0 := (cell_far (p := ⟨gb257, 0, none⟩) (by first | (rw [add_block]; exact hn260_0) | (show (Addr.add _ _).block ≠ _; rw [add_block]; exact hn260_0) | exact hn260_0) (.int .i64 ((rd_T76 l0_1 x30_2).f0))).trans hx260_0; replace hx260_0 := (cell_far (p := ⟨gb257, 1, none⟩) (by first | (rw [add_block]; exact hn260_1) | (show (Addr.add _ _).block ≠ _; rw [add_block]; exact hn260_1) | exact hn260_1) (.int .i64 ((rd_T76 l0_1 x30_2).f1))).trans hx260_0; replace hx260_0 := (cell_far (p := ⟨gb257, 2, none⟩) (by first | (rw [add_block]; exact hn260_2) | (show (Addr.add _ _).block ≠ _; rw [add_block]; exact hn260_2) | exact hn260_2) (.int .i64 ((rd_T76 l0_1 x30_2).f2))).trans hx260_0; (try have hy260_0 := fun (n_ : Nat) => (show (((((w33.drewN n_).setCell ⟨gb257, 0, none⟩ (.int .i64 ((rd_T76 l0_1 x30_2).f0))).setCell ⟨gb257, 1, none⟩ (.int .i64 ((rd_T76 l0_1 x30_2).f1))).setCell ⟨gb257, 2, none⟩ (.int .i64 ((rd_T76 l0_1 x30_2).f2)))).cell? _ = some _ from hx260_0)); clear hn260_0; clear hn260_1; clear hn260_2; replace p260 := eq_true p260; replace q260 := eq_true q260; have p261 : 0 ≤ (a2 : Int) := of_decide_eq_true (by first | (with_reducible assumption) | assumption); have q261 : a2 < ((rd_L3 l3 a1).length : Int) := of_decide_eq_true (by first | (with_reducible assumption) | assumption); obtain ⟨ad261, e261, hx261_0⟩ := Kd.at_int HR260_0.out a2 p261 q261; cases e261; have hn261_0 : ad261.block ≠ gb257 := Nat.ne_of_lt (Nat.lt_of_lt_of_le (by have := World.block_lt_of_cell? _ _ hx261_0; first | rwa [add_block] at this | exact this) GW257.out); have hn261_1 : ad261.block ≠ gb257 := Nat.ne_of_lt (Nat.lt_of_lt_of_le (by have := World.block_lt_of_cell? _ _ hx261_0; first | rwa [add_block] at this | exact this) GW257.out); have hn261_2 : ad261.block ≠ gb257 := Nat.ne_of_lt (Nat.lt_of_lt_of_le (by have := World.block_lt_of_cell? _ _ hx261_0; first | rwa [add_block] at this | exact this) GW257.out); replace hx261_0 := (HB.out.cell (World.block_lt_of_cell? w _ hx261_0)).trans hx261_0; replace hx261_0 := (cell_far (p := ⟨gb257, 0, none⟩) (by first | (rw [add_block]; exact hn261_0) | (show (Addr.add _ _).block ≠ _; rw [add_block]; exact hn261_0) | exact hn261_0) (.int .i64 ((rd_T76 l0_1 x30_2).f0))).trans hx261_0; replace hx261_0 := (cell_far (p := ⟨gb257, 1, none⟩) (by first | (rw [add_block]; exact hn261_1) | (show (Addr.add _ _).block ≠ _; rw [add_block]; exact hn261_1) | exact hn261_1) (.int .i64 ((rd_T76 l0_1 x30_2).f1))).trans hx261_0; replace hx261_0 := (cell_far (p := ⟨gb257, 2, none⟩) (by first | (rw [add_block]; exact hn261_2) | (show (Addr.add _ _).block ≠ _; rw [add_block]; exact hn261_2) | exact hn261_2) (.int .i64 ((rd_T76 l0_1 x30_2).f2))).trans hx261_0; (try have hy261_0 := fun (n_ : Nat) => (show (((((w33.drewN n_).setCell ⟨gb257, 0, none⟩ (.int .i64 ((rd_T76 l0_1 x30_2).f0))).setCell ⟨gb257, 1, none⟩ (.int .i64 ((rd_T76 l0_1 x30_2).f1))).setCell ⟨gb257, 2, none⟩ (.int .i64 ((rd_T76 l0_1 x30_2).f2)))).cell? _ = some _ from hx261_0)); clear hn261_0; clear hn261_1; clear hn261_2; replace p261 := eq_true p261; replace q261 := eq_true q261)); try go_wp2_with (first | ((with_reducible refine gate_dst (N := 11) rfl ?_); refine box_event ?hg (N := 11) ?hd (cs := #[.int .i64 0, .int .i64 0, .int .i64 0]) (t := 76) ?hr ?_; (case hd => rfl); (case hg => rfl); (case hr => first | (go_simp; done) | (go_simp; rfl)); intro gb257 hg w33 hbox hb; have BK257 := Aside0.mk hbox; have GW257 := ge_ HB hg; have GE257 := ge_ HB hg; have NB250_257 := nl_ BK250 hg; have NB257_250 := ng_ BK250 hg; replace HO_9 := rb_ HO_9 hb; replace HB := Aside0.mk (bt_ HB hb); replace BK250 := Aside0.mk (bb_ BK250 hb); clear hb hbox hg; have hnb34 := NB257_250.out; have hnc34 := NB250_257.out; have hcz35_0 := cz_ BK257 0 (.int .i64 0); have hcz35_1 := cz_ BK257 1 (.int .i64 0); have hcz35_2 := cz_ BK257 2 (.int .i64 0); have hfz35_0 := blk_frozen BK257.out 0; have hfz35_1 := blk_frozen BK257.out 1; have hfz35_2 := blk_frozen BK257.out 2; have p258 : 0 ≤ (((rd_T76 l0_1 x30_2).f1) : Int) := of_decide_eq_true (by first | (with_reducible assumption) | assumption); have q258 : ((rd_T76 l0_1 x30_2).f1) < (l3.length : Int) := of_decide_eq_true (by first | (with_reducible assumption) | assumption); obtain ⟨ad258, A258_0, c258_0, e258, hx258_0, hl258_0, hi258_0⟩ := at_L3 HR3.out ((rd_T76 l0_1 x30_2).f1) p258 q258; cases e258; have hn258_0 : ad258.block ≠ gb257 := Nat.ne_of_lt (Nat.lt_of_lt_of_le (by have := World.block_lt_of_cell? _ _ hx258_0; first | rwa [add_block] at this | exact this) GW257.out); have hn258_1 : ad258.block ≠ gb257 := Nat.ne_of_lt (Nat.lt_of_lt_of_le (by have := World.block_lt_of_cell? _ _ hx258_0; first | rwa [add_block] at this | exact this) GW257.out); have hn258_2 : ad258.block ≠ gb257 := Nat.ne_of_lt (Nat.lt_of_lt_of_le (by have := World.block_lt_of_cell? _ _ hx258_0; first | rwa [add_block] at this | exact this) GW257.out); replace hx258_0 := (HB.out.cell (World.block_lt_of_cell? w _ hx258_0)).trans hx258_0; have HR258_0 := Aside0.mk hi258_0; have HC258_0 := Aside0.mk hl258_0; clear hi258_0 hl258_0; replace hx258_0 := (cell_far (p := ⟨gb257, 0, none⟩) (by first | (rw [add_block]; exact hn258_0) | (show (Addr.add _ _).block ≠ _; rw [add_block]; exact hn258_0) | exact hn258_0) (.int .i64 ((rd_T76 l0_1 x30_2).f0))).trans hx258_0; replace hx258_0 := (cell_far (p := ⟨gb257, 1, none⟩) (by first | (rw [add_block]; exact hn258_1) | (show (Addr.add _ _).block ≠ _; rw [add_block]; exact hn258_1) | exact hn258_1) (.int .i64 ((rd_T76 l0_1 x30_2).f1))).trans hx258_0; replace hx258_0 := (cell_far (p := ⟨gb257, 2, none⟩) (by first | (rw [add_block]; exact hn258_2) | (show (Addr.add _ _).block ≠ _; rw [add_block]; exact hn258_2) | exact hn258_2) (.int .i64 ((rd_T76 l0_1 x30_2).f2))).trans hx258_0; (try have hy258_0 := fun (n_ : Nat) => (show (((((w33.drewN n_).setCell ⟨gb257, 0, none⟩ (.int .i64 ((rd_T76 l0_1 x30_2).f0))).setCell ⟨gb257, 1, none⟩ (.int .i64 ((rd_T76 l0_1 x30_2).f1))).setCell ⟨gb257, 2, none⟩ (.int .i64 ((rd_T76 l0_1 x30_2).f2)))).cell? _ = some _ from hx258_0)); clear hn258_0; clear hn258_1; clear hn258_2; replace p258 := eq_true p258; replace q258 := eq_true q258; have p259 : 0 ≤ (a2 : Int) := of_decide_eq_true (by first | (with_reducible assumption) | assumption); have q259 : a2 < ((rd_L3 l3 ((rd_T76 l0_1 x30_2).f1)).length : Int) := of_decide_eq_true (by first | (with_reducible assumption) | assumption); obtain ⟨ad259, e259, hx259_0⟩ := Kd.at_int HR258_0.out a2 p259 q259; cases e259; have hn259_0 : ad259.block ≠ gb257 := Nat.ne_of_lt (Nat.lt_of_lt_of_le (by have := World.block_lt_of_cell? _ _ hx259_0; first | rwa [add_block] at this | exact this) GW257.out); have hn259_1 : ad259.block ≠ gb257 := Nat.ne_of_lt (Nat.lt_of_lt_of_le (by have := World.block_lt_of_cell? _ _ hx259_0; first | rwa [add_block] at this | exact this) GW257.out); have hn259_2 : ad259.block ≠ gb257 := Nat.ne_of_lt (Nat.lt_of_lt_of_le (by have := World.block_lt_of_cell? _ _ hx259_0; first | rwa [add_block] at this | exact this) GW257.out); replace hx259_0 := (HB.out.cell (World.block_lt_of_cell? w _ hx259_0)).trans hx259_0; replace hx259_0 := (cell_far (p := ⟨gb257, 0, none⟩) (by first | (rw [add_block]; exact hn259_0) | (show (Addr.add _ _).block ≠ _; rw [add_block]; exact hn259_0) | exact hn259_0) (.int .i64 ((rd_T76 l0_1 x30_2).f0))).trans hx259_0; replace hx259_0 := (cell_far (p := ⟨gb257, 1, none⟩) (by first | (rw [add_block]; exact hn259_1) | (show (Addr.add _ _).block ≠ _; rw [add_block]; exact hn259_1) | exact hn259_1) (.int .i64 ((rd_T76 l0_1 x30_2).f1))).trans hx259_0; replace hx259_0 := (cell_far (p := ⟨gb257, 2, none⟩) (by first | (rw [add_block]; exact hn259_2) | (show (Addr.add _ _).block ≠ _; rw [add_block]; exact hn259_2) | exact hn259_2) (.int .i64 ((rd_T76 l0_1 x30_2).f2))).trans hx259_0; (try have hy259_0 := fun (n_ : Nat) => (show (((((w33.drewN n_).setCell ⟨gb257, 0, none⟩ (.int .i64 ((rd_T76 l0_1 x30_2).f0))).setCell ⟨gb257, 1, none⟩ (.int .i64 ((rd_T76 l0_1 x30_2).f1))).setCell ⟨gb257, 2, none⟩ (.int .i64 ((rd_T76 l0_1 x30_2).f2)))).cell? _ = some _ from hx259_0)); clear hn259_0; clear hn259_1; clear hn259_2; replace p259 := eq_true p259; replace q259 := eq_true q259; have p260 : 0 ≤ (a1 : Int) := of_decide_eq_true (by first | (with_reducible assumption) | assumption); have q260 : a1 < (l3.length : Int) := of_decide_eq_true (by first | (with_reducible assumption) | assumption); obtain ⟨ad260, A260_0, c260_0, e260, hx260_0, hl260_0, hi260_0⟩ := at_L3 HR3.out a1 p260 q260; obtain rfl : ad258 = ad260 := (by injection e260); have hn260_0 : ad258.block ≠ gb257 := Nat.ne_of_lt (Nat.lt_of_lt_of_le (by have := World.block_lt_of_cell? _ _ hx260_0; first | rwa [add_block] at this | exact this) GW257.out); have hn260_1 : ad258.block ≠ gb257 := Nat.ne_of_lt (Nat.lt_of_lt_of_le (by have := World.block_lt_of_cell? _ _ hx260_0; first | rwa [add_block] at this | exact this) GW257.out); have hn260_2 : ad258.block ≠ gb257 := Nat.ne_of_lt (Nat.lt_of_lt_of_le (by have := World.block_lt_of_cell? _ _ hx260_0; first | rwa [add_block] at this | exact this) GW257.out); replace hx260_0 := (HB.out.cell (World.block_lt_of_cell? w _ hx260_0)).trans hx260_0; have HR260_0 := Aside0.mk hi260_0; have HC260_0 := Aside0.mk hl260_0; clear hi260_0 hl260_0; replace hx260_0 := (cell_far (p := ⟨gb257, 0, none⟩) (by first | (rw [add_block]; exact hn260_0) | (show (Addr.add _ _).block ≠ _; rw [add_block]; exact hn260_0) | exact hn260_0) (.int .i64 ((rd_T76 l0_1 x30_2).f0))).trans hx260_0; replace hx260_0 := (cell_far (p := ⟨gb257, 1, none⟩) (by first | (rw [add_block]; exact hn260_1) | (show (Addr.add _ _).block ≠ _; rw [add_block]; exact hn260_1) | exact hn260_1) (.int .i64 ((rd_T76 l0_1 x30_2).f1))).trans hx260_0; replace hx260_0 := (cell_far (p := ⟨gb257, 2, none⟩) (by first | (rw [add_block]; exact hn260_2) | (show (Addr.add _ _).block ≠ _; rw [add_block]; exact hn260_2) | exact hn260_2) (.int .i64 ((rd_T76 l0_1 x30_2).f2))).trans hx260_0; (try have hy260_0 := fun (n_ : Nat) => (show (((((w33.drewN n_).setCell ⟨gb257, 0, none⟩ (.int .i64 ((rd_T76 l0_1 x30_2).f0))).setCell ⟨gb257, 1, none⟩ (.int .i64 ((rd_T76 l0_1 x30_2).f1))).setCell ⟨gb257, 2, none⟩ (.int .i64 ((rd_T76 l0_1 x30_2).f2)))).cell? _ = some _ from hx260_0)); clear hn260_0; clear hn260_1; clear hn260_2; replace p260 := eq_true p260; replace q260 := eq_true q260; have p261 : 0 ≤ (a2 : Int) := of_decide_eq_true (by first | (with_reducible assumption) | assumption); have q261 : a2 < ((rd_L3 l3 a1).length : Int) := of_decide_eq_true (by first | (with_reducible assumption) | assumption); obtain ⟨ad261, e261, hx261_0⟩ := Kd.at_int HR260_0.out a2 p261 q261; cases e261; have hn261_0 : ad261.block ≠ gb257 := Nat.ne_of_lt (Nat.lt_of_lt_of_le (by have := World.block_lt_of_cell? _ _ hx261_0; first | rwa [add_block] at this | exact this) GW257.out); have hn261_1 : ad261.block ≠ gb257 := Nat.ne_of_lt (Nat.lt_of_lt_of_le (by have := World.block_lt_of_cell? _ _ hx261_0; first | rwa [add_block] at this | exact this) GW257.out); have hn261_2 : ad261.block ≠ gb257 := Nat.ne_of_lt (Nat.lt_of_lt_of_le (by have := World.block_lt_of_cell? _ _ hx261_0; first | rwa [add_block] at this | exact this) GW257.out); replace hx261_0 := (HB.out.cell (World.block_lt_of_cell? w _ hx261_0)).trans hx261_0; replace hx261_0 := (cell_far (p := ⟨gb257, 0, none⟩) (by first | (rw [add_block]; exact hn261_0) | (show (Addr.add _ _).block ≠ _; rw [add_block]; exact hn261_0) | exact hn261_0) (.int .i64 ((rd_T76 l0_1 x30_2).f0))).trans hx261_0; replace hx261_0 := (cell_far (p := ⟨gb257, 1, none⟩) (by first | (rw [add_block]; exact hn261_1) | (show (Addr.add _ _).block ≠ _; rw [add_block]; exact hn261_1) | exact hn261_1) (.int .i64 ((rd_T76 l0_1 x30_2).f1))).trans hx261_0; replace hx261_0 := (cell_far (p := ⟨gb257, 2, none⟩) (by first | (rw [add_block]; exact hn261_2) | (show (Addr.add _ _).block ≠ _; rw [add_block]; exact hn261_2) | exact hn261_2) (.int .i64 ((rd_T76 l0_1 x30_2).f2))).trans hx261_0; (try have hy261_0 := fun (n_ : Nat) => (show (((((w33.drewN n_).setCell ⟨gb257, 0, none⟩ (.int .i64 ((rd_T76 l0_1 x30_2).f0))).setCell ⟨gb257, 1, none⟩ (.int .i64 ((rd_T76 l0_1 x30_2).f1))).setCell ⟨gb257, 2, none⟩ (.int .i64 ((rd_T76 l0_1 x30_2).f2)))).cell? _ = some _ from hx261_0)); clear hn261_0; clear hn261_1; clear hn261_2; replace p261 := eq_true p261; replace q261 := eq_true q261)))
                  go_roundg k2
                  case measure => have := HJ4.out; have := HK2.out; omega
                  case rel => exact ⟨(x9_2), (wrap64 (x30_2 + 1)), (by first | rfl | (simp; done) | (simp [*]; done)), H', ⟨by have := HJ4.out; have := HK2.out; omega⟩, ⟨by (with_reducible repeat (first | apply Kd.R_alloc | apply Kd.R_drewN | apply Kd.R_drew)); exact Kd.R_mono (Kd.R_far (p := ⟨gb257, 2, none⟩) (Kd.R_far (p := ⟨gb257, 1, none⟩) (Kd.R_far (p := ⟨gb257, 0, none⟩) (Kd.R_types HO_9.out BK257.out (by decide)) (fun _ hk => hk.2) (.int .i64 ((rd_T76 l0_1 x30_2).f0))) (fun _ hk => hk.2) (.int .i64 ((rd_T76 l0_1 x30_2).f1))) (fun _ hk => hk.2) (.int .i64 ((rd_T76 l0_1 x30_2).f2))) (fun _ hk => trivial)⟩, ⟨by (with_reducible repeat (first | refine blk_drewN ?_ _ | refine blk_drew ?_ | refine blk_alloc ?_ _)); refine blk_far ?_ NB250_257.out _; (with_reducible repeat (first | refine blk_drewN ?_ _ | refine blk_drew ?_ | refine blk_alloc ?_ _)); refine blk_far ?_ NB250_257.out _; (with_reducible repeat (first | refine blk_drewN ?_ _ | refine blk_drew ?_ | refine blk_alloc ?_ _)); refine blk_far ?_ NB250_257.out _; (with_reducible repeat (first | refine blk_drewN ?_ _ | refine blk_drew ?_ | refine blk_alloc ?_ _)); exact BK250.out⟩, ⟨by repeat (first | (with_reducible first | exact HB.out | apply below_alloc | apply pw_below_drewN | apply below_drew1 | refine below_set ?_ GE250.out | refine below_set ?_ GE257.out) | exact HB.out)⟩⟩
                ·rw [if_neg c26] at H
                 exact absurd H (by simp)
               ·rw [if_neg c25] at H
                exact absurd H (by simp)
              ·rw [if_neg c24] at H
               exact absurd H (by simp)
             ·rw [if_neg c23] at H
              exact absurd H (by simp)
            ·rw [if_neg c22] at H
             exact absurd H (by simp)
           ·rw [if_neg c21] at H
            exact absurd H (by simp)
          ·rw [if_neg c20] at H
           exact absurd H (by simp)
         ·rw [if_neg c19] at H
          have c19b0 : (((rd_T76 l0_1 x30_2).f0) == a1) = false := beq_eq_false_iff_ne.mpr c19
          have c19b1 : (((rd_T76 l0_1 x30_2).f0) != a1) = true := bne_iff_ne.mpr c19
          have H' := Aside0.mk H
          clear H
          have p256 : 0 ≤ (x30_2 : Int) := of_decide_eq_true (by first | (with_reducible assumption) | assumption)
          have q256 : x30_2 < (l0_1.length : Int) := of_decide_eq_true (by first | (with_reducible assumption) | assumption)
          obtain ⟨ad256, e256, hx256_0, hx256_1, hx256_2⟩ := at_T76 HR0_1.out x30_2 p256 q256
          cases e256
          replace hx256_0 := (HB.out.cell (World.block_lt_of_cell? w _ hx256_0)).trans hx256_0
          replace hx256_1 := (HB.out.cell (World.block_lt_of_cell? w _ hx256_1)).trans hx256_1
          replace hx256_2 := (HB.out.cell (World.block_lt_of_cell? w _ hx256_2)).trans hx256_2
          replace p256 := eq_true p256
          replace q256 := eq_true q256
          go_wp2_with (first | ((with_reducible refine gate_dst (N := 11) rfl ?_); refine box_event ?hg (N := 11) ?hd (cs := #[.int .i64 0, .int .i64 0, .int .i64 0]) (t := 76) ?hr ?_; (case hd => rfl); (case hg => rfl); (case hr => first | (go_simp; done) | (go_simp; rfl)); intro gb257 hg w36 hbox hb; have BK257 := Aside0.mk hbox; have GW257 := ge_ HB hg; have GE257 := ge_ HB hg; have NB250_257 := nl_ BK250 hg; have NB257_250 := ng_ BK250 hg; replace HO_9 := rb_ HO_9 hb; replace HB := Aside0.mk (bt_ HB hb); replace BK250 := Aside0.mk (bb_ BK250 hb); clear hb hbox hg; have hnb37 := NB257_250.out; have hnc37 := NB250_257.out; have hcz38_0 := cz_ BK257 0 (.int .i64 0); have hcz38_1 := cz_ BK257 1 (.int .i64 0); have hcz38_2 := cz_ BK257 2 (.int .i64 0); have hfz38_0 := blk_frozen BK257.out 0; have hfz38_1 := blk_frozen BK257.out 1; have hfz38_2 := blk_frozen BK257.out 2))
          repeat (go_quiet (first | ((with_reducible refine gate_dst (N := 11) rfl ?_); refine box_event ?hg (N := 11) ?hd (cs := #[.int .i64 0, .int .i64 0, .int .i64 0]) (t := 76) ?hr ?_; (case hd => rfl); (case hg => rfl); (case hr => first | (go_simp; done) | (go_simp; rfl)); intro gb257 hg w36 hbox hb; have BK257 := Aside0.mk hbox; have GW257 := ge_ HB hg; have GE257 := ge_ HB hg; have NB250_257 := nl_ BK250 hg; have NB257_250 := ng_ BK250 hg; replace HO_9 := rb_ HO_9 hb; replace HB := Aside0.mk (bt_ HB hb); replace BK250 := Aside0.mk (bb_ BK250 hb); clear hb hbox hg; have hnb37 := NB257_250.out; have hnc37 := NB250_257.out; have hcz38_0 := cz_ BK257 0 (.int .i64 0); have hcz38_1 := cz_ BK257 1 (.int .i64 0); have hcz38_2 := cz_ BK257 2 (.int .i64 0); have hfz38_0 := blk_frozen BK257.out 0; have hfz38_1 := blk_frozen BK257.out 1; have hfz38_2 := blk_frozen BK257.out 2)); try go_wp2_with (first | ((with_reducible refine gate_dst (N := 11) rfl ?_); refine box_event ?hg (N := 11) ?hd (cs := #[.int .i64 0, .int .i64 0, .int .i64 0]) (t := 76) ?hr ?_; (case hd => rfl); (case hg => rfl); (case hr => first | (go_simp; done) | (go_simp; rfl)); intro gb257 hg w36 hbox hb; have BK257 := Aside0.mk hbox; have GW257 := ge_ HB hg; have GE257 := ge_ HB hg; have NB250_257 := nl_ BK250 hg; have NB257_250 := ng_ BK250 hg; replace HO_9 := rb_ HO_9 hb; replace HB := Aside0.mk (bt_ HB hb); replace BK250 := Aside0.mk (bb_ BK250 hb); clear hb hbox hg; have hnb37 := NB257_250.out; have hnc37 := NB250_257.out; have hcz38_0 := cz_ BK257 0 (.int .i64 0); have hcz38_1 := cz_ BK257 1 (.int .i64 0); have hcz38_2 := cz_ BK257 2 (.int .i64 0); have hfz38_0 := blk_frozen BK257.out 0; have hfz38_1 := blk_frozen BK257.out 1; have hfz38_2 := blk_frozen BK257.out 2)))
          go_roundg k2
          case measure => have := HJ4.out; have := HK2.out; omega
          case rel => exact ⟨(x9_2), (wrap64 (x30_2 + 1)), (by first | rfl | (simp; done) | (simp [*]; done)), H', ⟨by have := HJ4.out; have := HK2.out; omega⟩, ⟨by (with_reducible repeat (first | apply Kd.R_alloc | apply Kd.R_drewN | apply Kd.R_drew)); exact Kd.R_mono (Kd.R_far (p := ⟨gb257, 2, none⟩) (Kd.R_far (p := ⟨gb257, 1, none⟩) (Kd.R_far (p := ⟨gb257, 0, none⟩) (Kd.R_types HO_9.out BK257.out (by decide)) (fun _ hk => hk.2) (.int .i64 ((rd_T76 l0_1 x30_2).f0))) (fun _ hk => hk.2) (.int .i64 ((rd_T76 l0_1 x30_2).f1))) (fun _ hk => hk.2) (.int .i64 ((rd_T76 l0_1 x30_2).f2))) (fun _ hk => trivial)⟩, ⟨by (with_reducible repeat (first | refine blk_drewN ?_ _ | refine blk_drew ?_ | refine blk_alloc ?_ _)); refine blk_far ?_ NB250_257.out _; (with_reducible repeat (first | refine blk_drewN ?_ _ | refine blk_drew ?_ | refine blk_alloc ?_ _)); refine blk_far ?_ NB250_257.out _; (with_reducible repeat (first | refine blk_drewN ?_ _ | refine blk_drew ?_ | refine blk_alloc ?_ _)); refine blk_far ?_ NB250_257.out _; (with_reducible repeat (first | refine blk_drewN ?_ _ | refine blk_drew ?_ | refine blk_alloc ?_ _)); exact BK250.out⟩, ⟨by repeat (first | (with_reducible first | exact HB.out | apply below_alloc | apply pw_below_drewN | apply below_drew1 | refine below_set ?_ GE250.out | refine below_set ?_ GE257.out) | exact HB.out)⟩⟩
        ·rw [if_neg c18] at H
         exact absurd H (by simp)
       ·rw [if_neg c17] at H
        exact absurd H (by simp)
      ·rw [if_neg c16] at H
       have c16b0 : decide (x30_2 < (l0_1.length : Int)) = false := decide_eq_false c16
       clear c16
       obtain rfl := Option.some.inj H
       go_wp2
       repeat (go_quiet (fail); try go_wp2)
       go_ret
       exact ⟨_, by first | rfl | (simp [errW_none, errW_some] <;> rfl) | (simp [*, errW_none, errW_some] <;> rfl), by (with_reducible repeat (first | apply Kd.R_alloc | apply Kd.R_drewN | apply Kd.R_drew)); exact HO_9.out, by repeat (first | (with_reducible first | exact HB.out | apply below_alloc | apply pw_below_drewN | apply below_drew1 | refine below_set ?_ GE250.out) | exact HB.out)⟩

/-! ### impl_Graph_hopTable: function 60 -/
def impl_Graph_hopTable.l0 : Nat → Int → List (List Int) → List (List Int) → Int → Int → Int → List (S76) → Option ((List (List Int)))
 | 0, _, _, _, _, _, _, _ => none
 | k + 1, x1, x5, x6, x12, x13, x266000, x266001 => if x13 < x12 then ((impl_Graph_hopsTo.f k x266000 x266001 x1 x13 x5).bind fun t272 => (if x6.length < 5864062014805 then (impl_Graph_hopTable.l0 k x1 x5 (x6 ++ [t272]) x12 (wrap64 (x13 + 1)) x266000 x266001) else (none))) else (some x6)
def impl_Graph_hopTable.f (k : Nat) (a0_0 : Int) (l0_1 : List (S76)) (a1 : Int) : Option ((List (List Int))) := (impl_Graph_all.f k a0_0 l0_1).bind fun t266 => (impl_Graph_hopTable.l0 k a1 t266 (([] : List (List Int))) a0_0 0 a0_0 l0_1)
theorem impl_Graph_hopTable.mono_l : ∀ k, (∀ y0 y1 y2 y3 y4 y5 y6, LeO (impl_Graph_hopTable.l0 k y0 y1 y2 y3 y4 y5 y6) (impl_Graph_hopTable.l0 (k + 1) y0 y1 y2 y3 y4 y5 y6))
 | 0 => fun _ _ _ _ _ _ _ r h => by simp [impl_Graph_hopTable.l0] at h
 | k + 1 => by
  have ih0 := impl_Graph_hopTable.mono_l k
  ·intro y0 y1 y2 y3 y4 y5 y6
   unfold impl_Graph_hopTable.l0
   repeat' first
   | (with_reducible exact ih0 _ _ _ _ _ _ _)
   | (with_reducible exact impl_Graph_all.mono _ _ _)
   | (with_reducible exact impl_Graph_hopsTo.mono _ _ _ _ _ _)
   | (with_reducible exact LeO.refl _)
   | (with_reducible exact LeO.none _)
   | (with_reducible refine LeO.ite ?_ ?_)
   | (with_reducible refine LeO.bind ?_ (fun _ => ?_))
   | exact ih0 _ _ _ _ _ _ _
   | exact impl_Graph_all.mono _ _ _
   | exact impl_Graph_hopsTo.mono _ _ _ _ _ _
   | exact LeO.none _
   | refine LeO.ite ?_ ?_
   | refine LeO.bind ?_ (fun _ => ?_)
theorem impl_Graph_hopTable.mono : ∀ a0 a1 a2 k, LeO (impl_Graph_hopTable.f k a0 a1 a2) (impl_Graph_hopTable.f (k + 1) a0 a1 a2) := by
 intro a0 a1 a2 k
 have ih0 := impl_Graph_hopTable.mono_l k
 unfold impl_Graph_hopTable.f
 repeat' first
   | (with_reducible exact ih0 _ _ _ _ _ _ _)
   | (with_reducible exact impl_Graph_all.mono _ _ _)
   | (with_reducible exact impl_Graph_hopsTo.mono _ _ _ _ _ _)
   | (with_reducible exact LeO.refl _)
   | (with_reducible exact LeO.none _)
   | (with_reducible refine LeO.ite ?_ ?_)
   | (with_reducible refine LeO.bind ?_ (fun _ => ?_))
   | exact ih0 _ _ _ _ _ _ _
   | exact impl_Graph_all.mono _ _ _
   | exact impl_Graph_hopsTo.mono _ _ _ _ _ _
   | exact LeO.none _
   | refine LeO.ite ?_ ?_
   | refine LeO.bind ?_ (fun _ => ?_)
set_option maxHeartbeats 8000000 in
set_option maxRecDepth 100000 in
theorem impl_Graph_hopTable.calls (k : Nat) (a0_0 : Int) (A0_1 : Option Addr) (c0_1 : Nat) (l0_1 : List (S76)) (a1 : Int) (r : List (List Int)) (w : World) (hr0_1 : Kd.C k76 w A0_1 l0_1.length l0_1) (hc0_1 : l0_1.length ≤ c0_1) (h : impl_Graph_hopTable.f k a0_0 l0_1 a1 = some r) :
  Calls Try.prog 60 #[.agg #[.int .i64 a0_0, .slice A0_1 l0_1.length c0_1], .int .i64 a1] w fun e w' => ∃ v0_ : Value, e = .returned (v0_) ∧ Kd.S (Kd.slice 3 (Kd.int .i64)) 26 w' w.heap.size (fun _ => True) v0_ r ∧ Below w.heap.size w w' := by
 have hu30 := Try.underlying30
 have HR0_1 := Aside0.mk hr0_1
 have HC0_1 := Aside0.mk hc0_1
 clear hr0_1 hc0_1
 have HB := Aside0.mk (Below.refl w.heap.size w)
 have H : ((impl_Graph_all.f k a0_0 l0_1).bind fun t266 => (impl_Graph_hopTable.l0 k a1 t266 (([] : List (List Int))) a0_0 0 a0_0 l0_1)) = some r := h
 clear h
 replace H := Option.bind_eq_some_iff.mp H
 obtain ⟨t266, A30, H⟩ := H
 have A3 := Aside0.mk A30
 clear A30
 obtain ⟨y269, hy269⟩ : ∃ y_ : List (List Int), y_ = (([] : List (List Int))) := ⟨_, rfl⟩
 replace H : (impl_Graph_hopTable.l0 k a1 t266 y269 a0_0 0 a0_0 l0_1) = some r := by first | (rw [hy269]; with_reducible exact H) | (have H2_ := (Option.bind_some _ _).symm.trans H; rw [hy269]; with_reducible exact H2_) | (have H2_ := (Option.bind_some _ _).symm.trans H; with_reducible exact H2_) | with_reducible exact H | (rw [hy269]; exact H) | exact H
 have Ny269 := Aside0.mk hy269
 clear hy269
 have H' := Aside0.mk H
 clear H
 go_enter Try.func60, Try.ntmps60
 go_wp2_with (first | ((with_reducible refine gate_dst (N := 2) rfl ?_); refine box_event ?hg (N := 2) ?hd (cs := #[.int .i64 a0_0, .slice A0_1 l0_1.length c0_1]) (t := 30) ?hr ?_; (case hd => rfl); (case hg => rfl); (case hr => first | (go_simp; done) | (go_simp; rfl)); intro gb265 hg w4 hbox hb; have BK265 := Aside0.mk hbox; have GW265 := ge_ HB hg; have GE265 := ge_ HB hg; replace HB := Aside0.mk (bt_ HB hb); clear hb hbox hg; have hcz5_0 := cz_ BK265 0 (.int .i64 a0_0); have hcz5_1 := cz_ BK265 1 (.slice A0_1 l0_1.length c0_1); have hfz5_0 := blk_frozen BK265.out 0; have hfz5_1 := blk_frozen BK265.out 1) | ((with_reducible refine gate_callee (f := 55) rfl ?_); refine gl_ (some 9) Try.func55 #[.agg #[.int .i64 a0_0, .slice A0_1 l0_1.length c0_1]] ?_; (with_reducible refine (impl_Graph_all.calls k a0_0 _ _ l0_1 t266 _ ?side1 ?side2 A3.out).mono ?_); (case side1 => exact cb_ HR0_1 HB); (case side2 => exact HC0_1.out); rintro e w6 ⟨v267, rfl, ho0, hb⟩; refine ⟨_, rfl, ?_⟩; have HO268 := Aside0.mk (Kd.S_lower ho0 (bz_ HB)); replace BK265 := Aside0.mk (bb_ BK265 hb); replace HB := Aside0.mk (bt_ HB hb); (try clear hb); (try clear hb2); (try clear hk); (try clear hi); (try clear ho0)) | ((with_reducible refine gate_dst (N := 10) rfl ?_); refine Kd.S_lit (Kd.slice 3 (Kd.int .i64)) _ 26 ?hg (N := 10) ?hd (xs := ([] : List (List Int))) (inner := []) (ok := fun _ => True) (okp := fun _ => True) ?hr ?hp (fun _ hk => hk) trivial (Below.refl _ _) (Nat.le_refl _) (by simp) ?_; (case hd => rfl); (case hg => rfl); (case hr => first | (go_simp; done) | (go_simp; rfl)); (case hp => exact (Reps.none _ _)); intro v270 w7 ho8 hb hg_ hnew_; clear hg_ hnew_; (first | rw [← Ny269.out] at ho8 | (simp only [Int.reduceToNat] at ho8; rw [← Ny269.out] at ho8)); have HO271 := Aside0.mk (Kd.S_lower (Kd.S_new' ho8 (Kd.S_lt (by (with_reducible repeat (first | apply Kd.S_alloc | apply Kd.S_drewN | apply Kd.S_drew)); exact HO268.out))) (bz_ HB)); replace HO268 := Aside0.mk (Kd.S_elder' (by (with_reducible repeat (first | apply Kd.S_alloc | apply Kd.S_drewN | apply Kd.S_drew)); exact HO268.out) (Kd.S_base ho8) hb); replace BK265 := Aside0.mk (bb_ BK265 hb); replace HB := Aside0.mk (bt_ HB hb); clear hb ho8; have hcz9_0 := cz_ BK265 0 (.int .i64 a0_0); have hcz9_1 := cz_ BK265 1 (.slice A0_1 l0_1.length c0_1); have hfz9_0 := blk_frozen BK265.out 0; have hfz9_1 := blk_frozen BK265.out 1))
 go_loopg [6, 13] k (fun kq v6 v13 w' => ∃ (x6_1 : List (List Int)) (x13_1 : Int), v13 = .int .i64 x13_1 ∧ Aside0 (impl_Graph_hopTable.l0 kq a1 t266 x6_1 a0_0 x13_1 a0_0 l0_1 = some r) ∧ Aside0 (kq ≤ k) ∧ Aside0 (Kd.S (Kd.slice 3 (Kd.int .i64)) 26 w' w.heap.size (fun k_ => some k_ ≠ (v6 : Value).ownBlock) v267 t266) ∧ Aside0 (Kd.S (Kd.slice 3 (Kd.int .i64)) 26 w' w.heap.size (fun k_ => some k_ ≠ (v267 : Value).ownBlock) v6 x6_1) ∧ Aside0 (w'.heap[gb265]? = some (.cells #[.int .i64 a0_0, (.slice A0_1 l0_1.length c0_1)] 30 (0, 0))) ∧ Aside0 (Below w.heap.size w w'))
 case atStart => exact ⟨(y269), (0), (by first | rfl | (simp; done) | (simp [*]; done)), H', ⟨Nat.le_refl _⟩, ⟨by (with_reducible repeat (first | apply Kd.S_alloc | apply Kd.S_drewN | apply Kd.S_drew)); exact Kd.S_mono HO268.out (fun _ hk => hk.2)⟩, ⟨by (with_reducible repeat (first | apply Kd.S_alloc | apply Kd.S_drewN | apply Kd.S_drew)); exact Kd.S_mono HO271.out (fun _ hk => hk.2)⟩, ⟨by (with_reducible repeat (first | refine blk_drewN ?_ _ | refine blk_drew ?_ | refine blk_alloc ?_ _)); exact BK265.out⟩, ⟨by repeat (first | (with_reducible first | exact HB.out | apply below_alloc | apply pw_below_drewN | apply below_drew1 | refine below_set ?_ GE265.out) | exact HB.out)⟩⟩
 case round =>
  clear H'
  try clear p2
  try clear c5
  try clear c6
  try clear hcz5_0
  try clear hcz5_1
  try clear hcz9_0
  try clear hcz9_1
  try clear hfz5_0
  try clear hfz5_1
  try clear hfz9_0
  try clear hfz9_1
  obtain ⟨x6_1, x13_1, rfl, HA, HK1, HO_5, HO_6, BK265, HB⟩ := hrel
  cases gk with
  | zero => exact absurd HA.out (by simp [impl_Graph_hopTable.l0])
  | succ k1 =>
   have H := HA.out
   clear HA
   simp only [impl_Graph_hopTable.l0] at H
   by_cases c10 : x13_1 < a0_0
   ·rw [if_pos c10] at H
    have c10b0 : decide (x13_1 < a0_0) = true := decide_eq_true c10
    clear c10
    replace H := Option.bind_eq_some_iff.mp H
    obtain ⟨t272, A110, H⟩ := H
    have A11 := Aside0.mk A110
    clear A110
    by_cases c12 : x6_1.length < 5864062014805
    ·rw [if_pos c12] at H
     have LMc12 := Aside0.mk c12
     clear c12
     obtain ⟨y275, hy275⟩ : ∃ y_ : List (List Int), y_ = (x6_1 ++ [t272]) := ⟨_, rfl⟩
     replace H : (impl_Graph_hopTable.l0 k1 a1 t266 y275 a0_0 (wrap64 (x13_1 + 1)) a0_0 l0_1) = some r := by first | (rw [hy275]; with_reducible exact H) | (have H2_ := (Option.bind_some _ _).symm.trans H; rw [hy275]; with_reducible exact H2_) | (have H2_ := (Option.bind_some _ _).symm.trans H; with_reducible exact H2_) | with_reducible exact H | (rw [hy275]; exact H) | exact H
     have Ny275 := Aside0.mk hy275
     clear hy275
     have H' := Aside0.mk H
     clear H
     have hcz13_0 := cz_ BK265 0 (.int .i64 a0_0)
     have hcz13_1 := cz_ BK265 1 (.slice A0_1 l0_1.length c0_1)
     have hfz13_0 := blk_frozen BK265.out 0
     have hfz13_1 := blk_frozen BK265.out 1
     obtain ⟨Ao14, co14, eo14⟩ := Kd.S_slice HO_5.out
     subst eo14
     go_wp2_with (first | ((with_reducible refine gate_callee (f := 58) rfl ?_); refine gl_ (some 21) Try.func58 #[.agg #[.int .i64 a0_0, .slice A0_1 l0_1.length c0_1], .int .i64 a1, .int .i64 x13_1, .slice Ao14 t266.length co14] ?_; (with_reducible refine (impl_Graph_hopsTo.calls k1 a0_0 _ _ l0_1 a1 x13_1 _ _ t266 t272 _ ?side1 ?side2 ?side3 ?side4 A11.out).mono ?_); (case side1 => exact cb_ HR0_1 HB); (case side2 => exact HC0_1.out); (case side3 => repeat (first | exact (Kd.S_reads' HO_5.out).2.2 | (with_reducible refine Kd.C_alloc ?_ _) | (with_reducible refine Kd.C_drewN ?_ _) | (with_reducible refine Kd.C_drew ?_))); (case side4 => exact (Kd.S_reads' HO_5.out).2.1); rintro e w15 ⟨v273, rfl, ho0, hb⟩; refine ⟨_, rfl, ?_⟩; have HO274 := Aside0.mk (Kd.R_lower ho0 (bz_ HB)); replace HO_5 := Aside0.mk (Kd.S_elder' (by (with_reducible repeat (first | apply Kd.S_alloc | apply Kd.S_drewN | apply Kd.S_drew)); exact HO_5.out) (Kd.R_base ho0) hb); replace HO_6 := Aside0.mk (Kd.S_elder' (by (with_reducible repeat (first | apply Kd.S_alloc | apply Kd.S_drewN | apply Kd.S_drew)); exact HO_6.out) (Kd.R_base ho0) hb); replace BK265 := Aside0.mk (bb_ BK265 hb); replace HB := Aside0.mk (bt_ HB hb); (try clear hb); (try clear hb2); (try clear hk); (try clear hi); (try clear ho0); obtain ⟨Ao17, co17, eo17⟩ := Kd.R_slice HO274.out; subst eo17) | ((with_reducible refine gate_builtin (b := .append) (xs := #[.tmp 16, .tmp 22]) rfl ?_); at_builtin; refine Kd.S_append (Kd.slice 3 (Kd.int .i64)) (w0 := w) w.heap.size rfl (.tmp 16) (.tmp 22) 45 26 (.slice none 0 0) 24 rfl Try.underlying45 info26 rfl (by decide) (by omega) u6 x6_1 t272 [.slice Ao17 t272.length co17] (fun k_ => some k_ ≠ (.slice Ao14 t266.length co14 : Value).ownBlock) (fun k_ => some k_ = (.slice Ao17 t272.length co17 : Value).ownBlock) rfl rfl ?aP (fun k_ hk_ => ((Kd.R_mono (ok' := fun k_ => ((fun k_ => some k_ ≠ (.slice Ao14 t266.length co14 : Value).ownBlock)) k_ ∧ some k_ ≠ (u6 : Value).ownBlock) (Kd.R_apart' (Kd.R_apart' (HO274.out) (Kd.S_typed HO_5.out) (by decide)) (Kd.S_typed HO_6.out) (by decide)) (fun k_ hk => ⟨hk.1.2, hk.2⟩))).1 k_ hk_.symm) ?aF ?aO ?aB ?aS ?aL ?_; (case aP => exact Kd.M_row (Kd.R_mono (Kd.R_tight rfl (Kd.R_mono (ok' := fun k_ => ((fun k_ => some k_ ≠ (.slice Ao14 t266.length co14 : Value).ownBlock)) k_ ∧ some k_ ≠ (u6 : Value).ownBlock) (Kd.R_apart' (Kd.R_apart' (HO274.out) (Kd.S_typed HO_5.out) (by decide)) (Kd.S_typed HO_6.out) (by decide)) (fun k_ hk => ⟨hk.1.2, hk.2⟩))) (fun _ h_ => h_))); (case aB => exact (by repeat (first | (with_reducible first | exact HB.out | apply below_alloc | apply pw_below_drewN | apply below_drew1 | refine below_set ?_ GE265.out) | exact HB.out))); (case aF => exact (fun k_ hk => Kd.fresh' (Kd.S_lt (by (with_reducible repeat (first | apply Kd.S_alloc | apply Kd.S_drewN | apply Kd.S_drew)); exact HO_5.out)) k_ hk)); (case aO => exact (by (with_reducible repeat (first | apply Kd.S_alloc | apply Kd.S_drewN | apply Kd.S_drew)); exact Kd.S_mono HO_6.out (fun k_ hk => ⟨hk.1, fun e_ => hk.2 e_⟩))); (case aS => exact (bz_ HB)); (case aL => have := LMc12.out; omega); intro v276 w16 ho hb hg hat; rw [← Ny275.out] at ho; have HO277 := Aside0.mk ho; replace HO_5 := Aside0.mk (Kd.S_after (ok := (fun k_ => some k_ ≠ (.slice Ao17 t272.length co17 : Value).ownBlock)) (by (with_reducible repeat (first | apply Kd.S_alloc | apply Kd.S_drewN | apply Kd.S_drew)); exact Kd.S_mono HO_5.out (fun _ hk => by first | exact ⟨hk.2, hk.1⟩ | grind)) hg hat); replace BK265 := Aside0.mk (blk_grown (g := gb265) (o := .cells #[.int .i64 a0_0, .slice A0_1 l0_1.length c0_1] 30 (0, 0)) (by (with_reducible repeat (first | refine blk_drewN ?_ _ | refine blk_drew ?_ | refine blk_alloc ?_ _)); exact BK265.out) hg (Kd.S_ne HO_6.out BK265.out (by decide))); replace HB := Aside0.mk (hb); clear HO_6 HO274; clear ho hb hg hat))
     go_roundg k1
     case measure => have := HK1.out; omega
     case rel => exact ⟨(y275), (wrap64 (x13_1 + 1)), (by first | rfl | (simp; done) | (simp [*]; done)), H', ⟨by have := HK1.out; omega⟩, ⟨by (with_reducible repeat (first | apply Kd.S_alloc | apply Kd.S_drewN | apply Kd.S_drew)); exact Kd.S_mono HO_5.out (fun _ hk => hk.2)⟩, ⟨by (with_reducible repeat (first | apply Kd.S_alloc | apply Kd.S_drewN | apply Kd.S_drew)); exact HO277.out⟩, ⟨by (with_reducible repeat (first | refine blk_drewN ?_ _ | refine blk_drew ?_ | refine blk_alloc ?_ _)); exact BK265.out⟩, ⟨by repeat (first | (with_reducible first | exact HB.out | apply below_alloc | apply pw_below_drewN | apply below_drew1 | refine below_set ?_ GE265.out) | exact HB.out)⟩⟩
    ·rw [if_neg c12] at H
     exact absurd H (by simp)
   ·rw [if_neg c10] at H
    have c10b0 : decide (x13_1 < a0_0) = false := decide_eq_false c10
    clear c10
    obtain rfl := Option.some.inj H
    go_wp2
    go_ret
    exact ⟨_, by first | rfl | (simp [errW_none, errW_some] <;> rfl) | (simp [*, errW_none, errW_some] <;> rfl), by (with_reducible repeat (first | apply Kd.S_alloc | apply Kd.S_drewN | apply Kd.S_drew)); exact Kd.S_mono HO_6.out (fun _ hk => trivial), by repeat (first | (with_reducible first | exact HB.out | apply below_alloc | apply pw_below_drewN | apply below_drew1 | refine below_set ?_ GE265.out) | exact HB.out)⟩

/-! ### slices_Equal_int_int: function 61 -/
def slices_Equal_int_int.l0 : Nat → List Int → List Int → Int → Int → Option (Bool)
 | 0, _, _, _, _ => none
 | k + 1, x0, x1, x12, x13 => if x13 < x12 then (if 0 ≤ x13 then (if x13 < (x0.length : Int) then (if x13 < (x1.length : Int) then (if (rd x0 x13) = (rd x1 x13) then (slices_Equal_int_int.l0 k x0 x1 x12 (wrap64 (x13 + 1))) else (some false)) else (none)) else (none)) else (none)) else (some true)
def slices_Equal_int_int.f (k : Nat) (l0 : List Int) (l1 : List Int) : Option (Bool) := if (l0.length : Int) = (l1.length : Int) then (slices_Equal_int_int.l0 k l0 l1 (l0.length : Int) 0) else (some false)
theorem slices_Equal_int_int.mono_l : ∀ k, (∀ y0 y1 y2 y3, LeO (slices_Equal_int_int.l0 k y0 y1 y2 y3) (slices_Equal_int_int.l0 (k + 1) y0 y1 y2 y3))
 | 0 => fun _ _ _ _ r h => by simp [slices_Equal_int_int.l0] at h
 | k + 1 => by
  have ih0 := slices_Equal_int_int.mono_l k
  ·intro y0 y1 y2 y3
   unfold slices_Equal_int_int.l0
   repeat' first
   | (with_reducible exact ih0 _ _ _ _)
   | (with_reducible exact LeO.refl _)
   | (with_reducible exact LeO.none _)
   | (with_reducible refine LeO.ite ?_ ?_)
   | (with_reducible refine LeO.bind ?_ (fun _ => ?_))
   | exact ih0 _ _ _ _
   | exact LeO.none _
   | refine LeO.ite ?_ ?_
   | refine LeO.bind ?_ (fun _ => ?_)
theorem slices_Equal_int_int.mono : ∀ a0 a1 k, LeO (slices_Equal_int_int.f k a0 a1) (slices_Equal_int_int.f (k + 1) a0 a1) := by
 intro a0 a1 k
 have ih0 := slices_Equal_int_int.mono_l k
 unfold slices_Equal_int_int.f
 repeat' first
   | (with_reducible exact ih0 _ _ _ _)
   | (with_reducible exact LeO.refl _)
   | (with_reducible exact LeO.none _)
   | (with_reducible refine LeO.ite ?_ ?_)
   | (with_reducible refine LeO.bind ?_ (fun _ => ?_))
   | exact ih0 _ _ _ _
   | exact LeO.none _
   | refine LeO.ite ?_ ?_
   | refine LeO.bind ?_ (fun _ => ?_)
set_option maxHeartbeats 8000000 in
set_option maxRecDepth 100000 in
theorem slices_Equal_int_int.calls (k : Nat) (A0 : Option Addr) (c0 : Nat) (l0 : List Int) (A1 : Option Addr) (c1 : Nat) (l1 : List Int) (r : Bool) (w : World) (hr0 : Kd.C (Kd.int .i64) w A0 l0.length l0) (hc0 : l0.length ≤ c0) (hr1 : Kd.C (Kd.int .i64) w A1 l1.length l1) (hc1 : l1.length ≤ c1) (h : slices_Equal_int_int.f k l0 l1 = some r) :
  Calls Try.prog 61 #[.slice A0 l0.length c0, .slice A1 l1.length c1] w fun e w' => e = .returned (.bool r) ∧ Drawn0 w w' := by
 have HR0 := Aside0.mk hr0
 have HC0 := Aside0.mk hc0
 clear hr0 hc0
 have HR1 := Aside0.mk hr1
 have HC1 := Aside0.mk hc1
 clear hr1 hc1
 have H : (if (l0.length : Int) = (l1.length : Int) then (slices_Equal_int_int.l0 k l0 l1 (l0.length : Int) 0) else (some false)) = some r := h
 clear h
 by_cases c3 : (l0.length : Int) = (l1.length : Int)
 ·rw [if_pos c3] at H
  have c3b0 : ((l0.length : Int) == (l1.length : Int)) = true := beq_iff_eq.mpr c3
  have c3b1 : ((l0.length : Int) != (l1.length : Int)) = false := bne_eq_false_iff_eq.mpr c3
  have c3b2 : (l0.length == l1.length) = true := by first | simpa using c3 | (simp at c3 ⊢; omega)
  clear c3
  have H' := Aside0.mk H
  clear H
  go_enter Try.func61, Try.ntmps61
  go_wp2
  repeat (go_quiet (fail); try go_wp2)
  go_loopg [13] k (fun kq v13 w' => ∃ (x13_1 : Int), v13 = .int .i64 x13_1 ∧ Aside0 (slices_Equal_int_int.l0 kq l0 l1 (l0.length : Int) x13_1 = some r) ∧ Aside0 (kq ≤ k) ∧ Drawn0 w w')
  case atStart => exact ⟨(0), (by first | rfl | (simp; done) | (simp [*]; done)), H', ⟨Nat.le_refl _⟩, by repeat (first | exact Drawn0.refl _ | apply Drawn0.step)⟩
  case round =>
   clear H'
   try clear c1
   try clear p2
   try clear c3
   try clear c3b0
   try clear c3b1
   try clear c3b2
   obtain ⟨x13_1, rfl, HA, HK1, ⟨m1, rfl⟩⟩ := hrel
   cases gk with
   | zero => exact absurd HA.out (by simp [slices_Equal_int_int.l0])
   | succ k1 =>
    have H := HA.out
    clear HA
    simp only [slices_Equal_int_int.l0] at H
    by_cases c4 : x13_1 < (l0.length : Int)
    ·rw [if_pos c4] at H
     have c4b0 : decide (x13_1 < (l0.length : Int)) = true := decide_eq_true c4
     clear c4
     by_cases c5 : 0 ≤ x13_1
     ·rw [if_pos c5] at H
      have c5b0 : decide (0 ≤ x13_1) = true := decide_eq_true c5
      clear c5
      by_cases c6 : x13_1 < (l0.length : Int)
      ·rw [if_pos c6] at H
       have c6b0 : decide (x13_1 < (l0.length : Int)) = true := decide_eq_true c6
       clear c6
       by_cases c7 : x13_1 < (l1.length : Int)
       ·rw [if_pos c7] at H
        have c7b0 : decide (x13_1 < (l1.length : Int)) = true := decide_eq_true c7
        clear c7
        by_cases c8 : (rd l0 x13_1) = (rd l1 x13_1)
        ·rw [if_pos c8] at H
         have c8b0 : ((rd l0 x13_1) == (rd l1 x13_1)) = true := beq_iff_eq.mpr c8
         have c8b1 : ((rd l0 x13_1) != (rd l1 x13_1)) = false := bne_eq_false_iff_eq.mpr c8
         clear c8
         have H' := Aside0.mk H
         clear H
         have p278 : 0 ≤ (x13_1 : Int) := of_decide_eq_true (by first | (with_reducible assumption) | assumption)
         have q278 : x13_1 < (l0.length : Int) := of_decide_eq_true (by first | (with_reducible assumption) | assumption)
         obtain ⟨ad278, e278, hx278_0⟩ := Kd.at_int HR0.out x13_1 p278 q278
         cases e278
         replace p278 := eq_true p278
         replace q278 := eq_true q278
         have p279 : 0 ≤ (x13_1 : Int) := of_decide_eq_true (by first | (with_reducible assumption) | assumption)
         have q279 : x13_1 < (l1.length : Int) := of_decide_eq_true (by first | (with_reducible assumption) | assumption)
         obtain ⟨ad279, e279, hx279_0⟩ := Kd.at_int HR1.out x13_1 p279 q279
         cases e279
         replace p279 := eq_true p279
         replace q279 := eq_true q279
         go_wp2
         repeat (go_quiet (fail); try go_wp2)
         go_roundg k1
         case measure => have := HK1.out; omega
         case rel => exact ⟨(wrap64 (x13_1 + 1)), (by first | rfl | (simp; done) | (simp [*]; done)), H', ⟨by have := HK1.out; omega⟩, by repeat (first | exact Drawn0.refl _ | apply Drawn0.step)⟩
        ·rw [if_neg c8] at H
         have c8b0 : ((rd l0 x13_1) == (rd l1 x13_1)) = false := beq_eq_false_iff_ne.mpr c8
         have c8b1 : ((rd l0 x13_1) != (rd l1 x13_1)) = true := bne_iff_ne.mpr c8
         obtain rfl := Option.some.inj H
         have p278 : 0 ≤ (x13_1 : Int) := of_decide_eq_true (by first | (with_reducible assumption) | assumption)
         have q278 : x13_1 < (l0.length : Int) := of_decide_eq_true (by first | (with_reducible assumption) | assumption)
         obtain ⟨ad278, e278, hx278_0⟩ := Kd.at_int HR0.out x13_1 p278 q278
         cases e278
         replace p278 := eq_true p278
         replace q278 := eq_true q278
         have p279 : 0 ≤ (x13_1 : Int) := of_decide_eq_true (by first | (with_reducible assumption) | assumption)
         have q279 : x13_1 < (l1.length : Int) := of_decide_eq_true (by first | (with_reducible assumption) | assumption)
         obtain ⟨ad279, e279, hx279_0⟩ := Kd.at_int HR1.out x13_1 p279 q279
         cases e279
         replace p279 := eq_true p279
         replace q279 := eq_true q279
         go_wp2
         repeat (go_quiet (fail); try go_wp2)
         go_ret
         exact ⟨by first | rfl | (simp; done) | (simp [*]; done), by repeat (first | exact Drawn0.refl _ | apply Drawn0.step)⟩
       ·rw [if_neg c7] at H
        exact absurd H (by simp)
      ·rw [if_neg c6] at H
       exact absurd H (by simp)
     ·rw [if_neg c5] at H
      exact absurd H (by simp)
    ·rw [if_neg c4] at H
     have c4b0 : decide (x13_1 < (l0.length : Int)) = false := decide_eq_false c4
     clear c4
     obtain rfl := Option.some.inj H
     go_wp2
     repeat (go_quiet (fail); try go_wp2)
     go_ret
     exact ⟨by first | rfl | (simp; done) | (simp [*]; done), by repeat (first | exact Drawn0.refl _ | apply Drawn0.step)⟩
 ·rw [if_neg c3] at H
  have c3b0 : ((l0.length : Int) == (l1.length : Int)) = false := beq_eq_false_iff_ne.mpr c3
  have c3b1 : ((l0.length : Int) != (l1.length : Int)) = true := bne_iff_ne.mpr c3
  have c3b2 : (l0.length == l1.length) = false := by first | simpa using c3 | (simp at c3 ⊢; omega)
  obtain rfl := Option.some.inj H
  go_enter Try.func61, Try.ntmps61
  go_wp2
  repeat (go_quiet (fail); try go_wp2)
  go_ret
  exact ⟨by first | rfl | (simp; done) | (simp [*]; done), by repeat (first | exact Drawn0.refl _ | apply Drawn0.step)⟩

end Go.Proofs.Ythmahcohcphljaa.QFnExactChanged
