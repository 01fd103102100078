/- Contracts of functions that the law reaches: what each call returns and what it leaves in memory. Made by this session over the print of the kit. -/
import Derived.Test.YteopiggdpadolaaQFnExactBothWaysx0
import Derived.Test.YteopiggdpadolaaQFnExactBothWaysx3
import Derived.Test.YteopiggdpadolaaQFnExactBothWaysx4
namespace Go.Proofs.Yteopiggdpadolaa.QFnExactBothWays
open Go.RowKit Go.Proofs.YteopiggdpadolaaY.PrintWords Go.Proofs.YteopiggdpadolaaY.PrintLast Go.Proofs.YteopiggdpadolaaY.PrintMore
attribute [local go_sem] max2_int min2_int max_two min_two max_three min_three max_four min_four   -- for this text's walks alone
set_option linter.unusedVariables false
set_option linter.unusedSimpArgs false
def ba5_0 : Array Bool := #[false, false, false, false, false, false, false, false, false, false, false, false, false, false, false]
def ba5_1 : Array Bool := #[false, true, false, false, false, false, false, false, false, false, false, false, false, false, false]
def ba5_2 : Array Bool := #[false, true, false, true, false, false, false, false, false, false, false, false, false, false, false]
def ba5_3 : Array Bool := #[false, true, false, true, false, false, false, true, false, false, false, false, false, false, false]
def ba5_4 : Array Bool := #[false, true, false, true, false, false, false, true, false, true, false, false, false, false, false]
def ba5_5 : Array Bool := #[true, true, false, true, false, false, false, true, false, true, false, false, false, false, false]
def ba5_6 : Array Bool := #[true, true, true, true, false, false, false, true, false, true, false, false, false, false, false]
def ba5_7 : Array Bool := #[true, true, true, true, true, false, false, true, false, true, false, false, false, false, false]
def ba5_8 : Array Bool := #[true, true, true, true, true, true, false, true, false, true, false, false, false, false, false]
def ba5_9 : Array Bool := #[true, true, true, true, true, true, true, true, false, true, false, false, false, false, false]
def ba5_10 : Array Bool := #[true, true, true, true, true, true, true, true, true, true, false, false, false, false, false]
def ba5_11 : Array Bool := #[true, true, true, true, true, true, true, true, true, true, true, false, false, false, false]
def ba5_12 : Array Bool := #[true, true, true, true, true, true, true, true, true, true, true, true, false, false, false]
def ba5_13 : Array Bool := #[true, true, true, true, true, true, true, true, true, true, true, true, true, false, false]
def ba5_14 : Array Bool := #[true, true, true, true, true, true, true, true, true, true, true, true, true, true, false]
def ba5_15 : Array Bool := #[true, true, true, true, true, true, true, true, true, true, true, true, true, true, true]
def ba5_16 : Array Bool := #[false, false, false, false, false, false, false, false, false, false, false]
def ba5_17 : Array Bool := #[true, false, false, false, false, false, false, false, false, false, false]
def ba5_18 : Array Bool := #[true, false, true, false, false, false, false, false, false, false, false]
def ba5_19 : Array Bool := #[true, false, true, false, true, false, false, false, false, false, false]
def ba5_20 : Array Bool := #[true, true, true, false, true, false, false, false, false, false, false]
def ba5_21 : Array Bool := #[true, true, true, true, true, false, false, false, false, false, false]
def ba5_22 : Array Bool := #[true, true, true, true, true, true, false, false, false, false, false]
def ba5_23 : Array Bool := #[true, true, true, true, true, true, true, false, false, false, false]
def ba5_24 : Array Bool := #[true, true, true, true, true, true, true, true, false, false, false]
def ba5_25 : Array Bool := #[true, true, true, true, true, true, true, true, true, false, false]
def ba5_26 : Array Bool := #[true, true, true, true, true, true, true, true, true, true, false]
def ba5_27 : Array Bool := #[true, true, true, true, true, true, true, true, true, true, true]

/-! ### spec_BothWays: function 28 -/
def spec_BothWays.l0 : Nat → Int → Int → List (S67) → Int → List (S67) → Option (Int × (List (S67)) × Bool)
 | 0, _, _, _, _, _ => none
 | k + 1, x5, x157000, x157001, x160000, x160001 => if x5 < (x157001.length : Int) then (if 0 ≤ x5 then ((spec_l03Cost.f k x157000 x157001 ((rd_T67 x157001 x5).f1) ((rd_T67 x157001 x5).f0)).bind fun t162 => (if t162 < 1000000 then (if x160001.length < 5864062014805 then (spec_BothWays.l0 k (wrap64 (x5 + 1)) x157000 x157001 x160000 (x160001 ++ [(⟨(rd_T67 x157001 x5).f0, (rd_T67 x157001 x5).f1, (rd_T67 x157001 x5).f2⟩ : S67)])) else (none)) else (spec_BothWays.l0 k (wrap64 (x5 + 1)) x157000 x157001 x160000 x160001))) else (none)) else (some (x160000, x160001, true))
def spec_BothWays.f (k : Nat) (a0_0 : Int) (l0_1 : List (S67)) : Option (Int × (List (S67)) × Bool) := (spec_GraphOk.f k a0_0 l0_1).bind fun t158 => (if t158 = true then (spec_BothWays.l0 k 0 a0_0 l0_1 a0_0 ([] : List (S67))) else (some (0, ([] : List (S67)), false)))
theorem spec_BothWays.mono_l : ∀ k, (∀ y0 y1 y2 y3 y4, LeO (spec_BothWays.l0 k y0 y1 y2 y3 y4) (spec_BothWays.l0 (k + 1) y0 y1 y2 y3 y4))
 | 0 => fun _ _ _ _ _ r h => by simp [spec_BothWays.l0] at h
 | k + 1 => by
  have ih0 := spec_BothWays.mono_l k
  ·intro y0 y1 y2 y3 y4
   unfold spec_BothWays.l0
   repeat' first
   | (with_reducible exact ih0 _ _ _ _ _)
   | (with_reducible exact spec_GraphOk.mono _ _ _)
   | (with_reducible exact spec_l03Cost.mono _ _ _ _ _)
   | (with_reducible exact LeO.refl _)
   | (with_reducible exact LeO.none _)
   | (with_reducible refine LeO.ite ?_ ?_)
   | (with_reducible refine LeO.bind ?_ (fun _ => ?_))
   | exact ih0 _ _ _ _ _
   | exact spec_GraphOk.mono _ _ _
   | exact spec_l03Cost.mono _ _ _ _ _
   | exact LeO.none _
   | refine LeO.ite ?_ ?_
   | refine LeO.bind ?_ (fun _ => ?_)
theorem spec_BothWays.mono : ∀ a0 a1 k, LeO (spec_BothWays.f k a0 a1) (spec_BothWays.f (k + 1) a0 a1) := by
 intro a0 a1 k
 have ih0 := spec_BothWays.mono_l k
 unfold spec_BothWays.f
 repeat' first
   | (with_reducible exact ih0 _ _ _ _ _)
   | (with_reducible exact spec_GraphOk.mono _ _ _)
   | (with_reducible exact spec_l03Cost.mono _ _ _ _ _)
   | (with_reducible exact LeO.refl _)
   | (with_reducible exact LeO.none _)
   | (with_reducible refine LeO.ite ?_ ?_)
   | (with_reducible refine LeO.bind ?_ (fun _ => ?_))
   | exact ih0 _ _ _ _ _
   | exact spec_GraphOk.mono _ _ _
   | exact spec_l03Cost.mono _ _ _ _ _
   | exact LeO.none _
   | refine LeO.ite ?_ ?_
   | refine LeO.bind ?_ (fun _ => ?_)
def spec_BothWays.T7 : Bool × List (List Nat × List Nat) := (true, [([], []), ([], []), ([1], [1]), ([], []), ([2, 3], [2, 3]), ([4], [4]), ([5], [5]), ([], []), ([7], [7]), ([], []), ([8, 9], [8, 9]), ([10], [10]), ([11], [11]), ([0, 6, 12], [0, 6, 12]), ([13], [13])])
def spec_BothWays.B7 : List Nat := [0, 0, 2, 0, 14, 30, 62, 0, 128, 0, 896, 1920, 3968, 8191, 16383]
theorem spec_BothWays.tab7 : rtab .any (opsOf Try.f28 7) = spec_BothWays.T7 := by kernel_rfl
theorem spec_BothWays.bits7 : waitsOk spec_BothWays.T7.2 spec_BothWays.B7 = true := by kernel_rfl
def spec_BothWays.T8 : Bool × List (List Nat × List Nat) := (true, [([], []), ([0], [0]), ([], []), ([2], [2]), ([], []), ([3, 4], [3, 4]), ([5], [5]), ([6], [6]), ([1, 7], [1, 7]), ([0, 1, 2, 3, 4, 5, 6, 7, 8], []), ([9, 8, 8, 0, 1, 2, 3, 4, 5, 6, 7, 8], [8, 9])])
def spec_BothWays.B8 : List Nat := [0, 1, 0, 4, 0, 28, 60, 124, 255, 511, 1023]
theorem spec_BothWays.tab8 : rtab .any (opsOf Try.f28 8) = spec_BothWays.T8 := by kernel_rfl
theorem spec_BothWays.bits8 : waitsOk spec_BothWays.T8.2 spec_BothWays.B8 = true := by kernel_rfl
set_option maxHeartbeats 8000000 in
set_option maxRecDepth 100000 in
theorem spec_BothWays.calls (k : Nat) (a0_0 : Int) (A0_1 : Option Addr) (c0_1 : Nat) (l0_1 : List (S67)) (r1 : Int) (r2 : List (S67)) (r3 : Bool) (w : World) (hr0_1 : Kd.C k67 w A0_1 l0_1.length l0_1) (hc0_1 : l0_1.length ≤ c0_1) (h : spec_BothWays.f k a0_0 l0_1 = some (r1, r2, r3)) :
  Calls Try.prog 28 #[.agg #[.int .i64 a0_0, .slice A0_1 l0_1.length c0_1]] w fun e w' => ∃ v1_ : Value, e = .returned (.tuple #[.agg #[.int .i64 r1, v1_], .bool r3]) ∧ Kd.R k67 67 w' w.heap.size (fun _ => True) v1_ r2 ∧ Below w.heap.size w w' := by
 have hu30 := Try.underlying30
 have hu67 := Try.underlying67
 have HR0_1 := Aside0.mk hr0_1
 have HC0_1 := Aside0.mk hc0_1
 clear hr0_1 hc0_1
 have HB := Aside0.mk (Below.refl w.heap.size w)
 have H : ((spec_GraphOk.f k a0_0 l0_1).bind fun t158 => (if t158 = true then (spec_BothWays.l0 k 0 a0_0 l0_1 a0_0 ([] : List (S67))) else (some (0, ([] : List (S67)), false)))) = some (r1, r2, r3) := h
 clear h
 replace H := Option.bind_eq_some_iff.mp H
 obtain ⟨t158, A20, H⟩ := H
 have A2 := Aside0.mk A20
 clear A20
 by_cases c3 : t158 = true
 ·subst c3
  rw [if_pos rfl] at H
  have H' := Aside0.mk H
  clear H
  go_enter Try.func28, Try.ntmps28
  go_wp2_with (first | ((with_reducible refine gate_dst (N := 1) rfl ?_); refine box_event ?hg (N := 1) ?hd (cs := #[.int .i64 a0_0, .slice A0_1 l0_1.length c0_1]) (t := 30) ?hr ?_; (case hd => rfl); (case hg => rfl); (case hr => first | (go_simp; done) | (go_simp; rfl)); intro gb156 hg w4 hbox hb; have BK156 := Aside0.mk hbox; have GW156 := ge_ HB hg; have GE156 := ge_ HB hg; replace HB := Aside0.mk (bt_ HB hb); clear hb hbox hg) | ((with_reducible refine gate_dst (N := 2) rfl ?_); refine box_event ?hg (N := 2) ?hd (cs := #[.int .i64 0, .slice none 0 0]) (t := 30) ?hr ?_; (case hd => rfl); (case hg => rfl); (case hr => first | (go_simp; done) | (go_simp; rfl)); intro gb157 hg w5 hbox hb; have BK157 := Aside0.mk hbox; have GW157 := ge_ HB hg; have GE157 := ge_ HB hg; have NB156_157 := nl_ BK156 hg; have NB157_156 := ng_ BK156 hg; replace HB := Aside0.mk (bt_ HB hb); replace BK156 := Aside0.mk (bb_ BK156 hb); clear hb hbox hg; have hnb6 := NB156_157.out; have hnc6 := NB157_156.out; have hcz7_0 := cz_ BK156 0 (.int .i64 a0_0); have hcz7_1 := cz_ BK156 1 (.slice A0_1 l0_1.length c0_1); have hfz7_0 := blk_frozen BK156.out 0; have hfz7_1 := blk_frozen BK156.out 1) | ((with_reducible refine gate_callee (f := 52) rfl ?_); refine gl_ (some 7) Try.func52 #[.agg #[.int .i64 a0_0, .slice A0_1 l0_1.length c0_1]] ?_; (with_reducible refine (spec_GraphOk.calls k a0_0 _ _ l0_1 true _ ?side1 ?side2 A2.out).mono ?_); (case side1 => exact cb_ HR0_1 HB); (case side2 => exact HC0_1.out); rintro e w8 ⟨rfl, hb⟩; refine ⟨_, rfl, ?_⟩; replace BK156 := Aside0.mk (bb_ BK156 hb); replace BK157 := Aside0.mk (bb_ BK157 hb); replace HB := Aside0.mk (bt_ HB hb); (try clear hb); (try clear hb2); (try clear hk); (try clear hi); have hcz9_0 := cz_ BK156 0 (.int .i64 a0_0); have hcz9_1 := cz_ BK156 1 (.slice A0_1 l0_1.length c0_1); have hfz9_0 := blk_frozen BK156.out 0; have hfz9_1 := blk_frozen BK156.out 1) | ((with_reducible refine gate_dst (N := 4) rfl ?_); refine box_event ?hg (N := 4) ?hd (cs := #[.int .i64 0, .slice none 0 0]) (t := 30) ?hr ?_; (case hd => rfl); (case hg => rfl); (case hr => first | (go_simp; done) | (go_simp; rfl)); intro gb159 hg w10 hbox hb; have BK159 := Aside0.mk hbox; have GW159 := ge_ HB hg; have GE159 := ge_ HB hg; have NB156_159 := nl_ BK156 hg; have NB159_156 := ng_ BK156 hg; have NB157_159 := nl_ BK157 hg; have NB159_157 := ng_ BK157 hg; replace HB := Aside0.mk (bt_ HB hb); replace BK156 := Aside0.mk (bb_ BK156 hb); replace BK157 := Aside0.mk (bb_ BK157 hb); clear hb hbox hg; have hnb11 := NB159_156.out; have hnc11 := NB156_159.out; have hnb12 := NB159_157.out; have hnc12 := NB157_159.out; have hcz13_0 := cz_ BK159 0 (.int .i64 0); have hcz13_1 := cz_ BK159 1 (.slice none 0 0); have hfz13_0 := blk_frozen BK159.out 0; have hfz13_1 := blk_frozen BK159.out 1))
  (try simp only [Act.put, List.setIfInBounds_toArray, List.set_cons_zero, List.set_cons_succ])
  go_loopg [5] k (fun kq v5 w' => ∃ (x5_1 : Int) (x160001_1 : List (S67)) (u160001 : Value), v5 = .int .i64 x5_1 ∧ Aside0 (spec_BothWays.l0 kq x5_1 a0_0 l0_1 a0_0 x160001_1 = some (r1, r2, r3)) ∧ Aside0 (kq ≤ k) ∧ Aside0 (Kd.R k67 67 w' w.heap.size (fun _ => True) u160001 x160001_1) ∧ Aside0 (w'.heap[gb156]? = some (.cells #[.int .i64 a0_0, (.slice A0_1 l0_1.length c0_1)] 30 (0, 0))) ∧ Aside0 (w'.heap[gb157]? = some (.cells #[.int .i64 0, (.slice none 0 0)] 30 (0, 0))) ∧ Aside0 (w'.heap[gb159]? = some (.cells #[.int .i64 a0_0, u160001] 30 (0, 0))) ∧ Aside0 (Below w.heap.size w w'))
  case atStart => exact ⟨(0), (([] : List (S67))), (.slice none 0 0), (by first | rfl | (simp; done) | (simp [*]; done)), H', ⟨Nat.le_refl _⟩, ⟨by first | exact Kd.R_nil _ _ _ _ _ | exact Kd.N_nil _ _ _ _ _ | exact Kd.V_nil _ _ _ _ _ | exact Kd.Q_nil _ _ _ _ _ | exact Kd.S_nil _ _ _ _ _⟩, ⟨by (with_reducible repeat (first | refine blk_drewN ?_ _ | refine blk_drew ?_ | refine blk_alloc ?_ _)); refine blk_far ?_ NB156_159.out _; (with_reducible repeat (first | refine blk_drewN ?_ _ | refine blk_drew ?_ | refine blk_alloc ?_ _)); refine blk_far ?_ NB156_159.out _; (with_reducible repeat (first | refine blk_drewN ?_ _ | refine blk_drew ?_ | refine blk_alloc ?_ _)); exact BK156.out⟩, ⟨by (with_reducible repeat (first | refine blk_drewN ?_ _ | refine blk_drew ?_ | refine blk_alloc ?_ _)); refine blk_far ?_ NB157_159.out _; (with_reducible repeat (first | refine blk_drewN ?_ _ | refine blk_drew ?_ | refine blk_alloc ?_ _)); refine blk_far ?_ NB157_159.out _; (with_reducible repeat (first | refine blk_drewN ?_ _ | refine blk_drew ?_ | refine blk_alloc ?_ _)); exact BK157.out⟩, ⟨by (with_reducible repeat (first | refine blk_drewN ?_ _ | refine blk_drew ?_ | refine blk_alloc ?_ _)); refine blk_put (cs := #[.int .i64 a0_0, .slice none 0 0]) ?_ 1 _ rfl; (with_reducible repeat (first | refine blk_drewN ?_ _ | refine blk_drew ?_ | refine blk_alloc ?_ _)); refine blk_put (cs := #[.int .i64 0, .slice none 0 0]) ?_ 0 _ rfl; (with_reducible repeat (first | refine blk_drewN ?_ _ | refine blk_drew ?_ | refine blk_alloc ?_ _)); exact BK159.out⟩, ⟨by repeat (first | (with_reducible first | exact HB.out | apply below_alloc | apply pw_below_drewN | apply below_drew1 | refine below_set ?_ GE156.out | refine below_set ?_ GE157.out | refine below_set ?_ GE159.out) | exact HB.out)⟩⟩
  case round =>
   clear H'
   try clear c1
   try clear c2
   try clear p2
   try clear c3
   try clear c5
   try clear c6
   try clear c11
   try clear c12
   try clear hcz13_0
   try clear hcz13_1
   try clear hcz7_0
   try clear hcz7_1
   try clear hcz9_0
   try clear hcz9_1
   try clear hfz13_0
   try clear hfz13_1
   try clear hfz7_0
   try clear hfz7_1
   try clear hfz9_0
   try clear hfz9_1
   obtain ⟨x5_1, x160001_1, u160001, rfl, HA, HK1, HO_160001, BK156, BK157, BK159, HB⟩ := hrel
   cases gk with
   | zero => exact absurd HA.out (by simp [spec_BothWays.l0])
   | succ k1 =>
    have H := HA.out
    clear HA
    simp only [spec_BothWays.l0] at H
    by_cases c14 : x5_1 < (l0_1.length : Int)
    ·rw [if_pos c14] at H
     have c14b0 : decide (x5_1 < (l0_1.length : Int)) = true := decide_eq_true c14
     clear c14
     by_cases c15 : 0 ≤ x5_1
     ·rw [if_pos c15] at H
      have c15b0 : decide (0 ≤ x5_1) = true := decide_eq_true c15
      clear c15
      replace H := Option.bind_eq_some_iff.mp H
      obtain ⟨t162, A160, H⟩ := H
      have A16 := Aside0.mk A160
      clear A160
      by_cases c17 : t162 < 1000000
      ·rw [if_pos c17] at H
       have c17b0 : decide (t162 < 1000000) = true := decide_eq_true c17
       clear c17
       by_cases c18 : x160001_1.length < 5864062014805
       ·rw [if_pos c18] at H
        have LMc18 := Aside0.mk c18
        clear c18
        obtain ⟨y164, hy164⟩ : ∃ y_ : List (S67), y_ = (x160001_1 ++ [(⟨(rd_T67 l0_1 x5_1).f0, (rd_T67 l0_1 x5_1).f1, (rd_T67 l0_1 x5_1).f2⟩ : S67)]) := ⟨_, rfl⟩
        replace H : (spec_BothWays.l0 k1 (wrap64 (x5_1 + 1)) a0_0 l0_1 a0_0 y164) = some (r1, r2, r3) := by first | (rw [hy164]; with_reducible exact H) | (have H2_ := (Option.bind_some _ _).symm.trans H; rw [hy164]; with_reducible exact H2_) | (have H2_ := (Option.bind_some _ _).symm.trans H; with_reducible exact H2_) | with_reducible exact H | (rw [hy164]; exact H) | exact H
        have Ny164 := Aside0.mk hy164
        clear hy164
        have H' := Aside0.mk H
        clear H
        have hnb19 := NB156_157.out
        have hnc19 := NB157_156.out
        have hnb20 := NB156_159.out
        have hnc20 := NB159_156.out
        have hcz21_0 := cz_ BK156 0 (.int .i64 a0_0)
        have hcz21_1 := cz_ BK156 1 (.slice A0_1 l0_1.length c0_1)
        have hfz21_0 := blk_frozen BK156.out 0
        have hfz21_1 := blk_frozen BK156.out 1
        try go_wp2
        replace HO_160001 := Aside0.mk (Kd.R_drew HO_160001.out)
        replace BK156 := Aside0.mk (blk_drew BK156.out)
        replace BK157 := Aside0.mk (blk_drew BK157.out)
        replace BK159 := Aside0.mk (blk_drew BK159.out)
        replace HB := Aside0.mk (below_drew1 HB.out)
        have p160 : 0 ≤ (x5_1 : Int) := of_decide_eq_true (by first | (with_reducible assumption) | assumption)
        have q160 : x5_1 < (l0_1.length : Int) := of_decide_eq_true (by first | (with_reducible assumption) | assumption)
        obtain ⟨ad160, e160, hx160_0, hx160_1, hx160_2⟩ := at_T67 HR0_1.out x5_1 p160 q160
        have hw160_2 := hx160_2
        have hw160_1 := hx160_1
        have hw160_0 := hx160_0
        cases e160
        replace hx160_0 := (HB.out.cell (World.block_lt_of_cell? w _ hx160_0)).trans hx160_0
        replace hx160_1 := (HB.out.cell (World.block_lt_of_cell? w _ hx160_1)).trans hx160_1
        replace hx160_2 := (HB.out.cell (World.block_lt_of_cell? w _ hx160_2)).trans hx160_2
        replace p160 := eq_true p160
        replace q160 := eq_true q160
        have p161 : 0 ≤ (x5_1 : Int) := of_decide_eq_true (by first | (with_reducible assumption) | assumption)
        have q161 : x5_1 < (l0_1.length : Int) := of_decide_eq_true (by first | (with_reducible assumption) | assumption)
        obtain ⟨ad161, e161, hx161_0, hx161_1, hx161_2⟩ := at_T67 HR0_1.out x5_1 p161 q161
        have hw161_2 := hx161_2
        have hw161_1 := hx161_1
        have hw161_0 := hx161_0
        obtain rfl : ad160 = ad161 := (by injection e161)
        replace hx161_0 := (HB.out.cell (World.block_lt_of_cell? w _ hx161_0)).trans hx161_0
        replace hx161_1 := (HB.out.cell (World.block_lt_of_cell? w _ hx161_1)).trans hx161_1
        replace hx161_2 := (HB.out.cell (World.block_lt_of_cell? w _ hx161_2)).trans hx161_2
        replace p161 := eq_true p161
        replace q161 := eq_true q161
        refine start_ (n := 15) (S := fun w' => w'.cell? ⟨gb156, 0, none⟩ = some (.int .i64 a0_0) ∧ w'.cell? ⟨gb156, 1, none⟩ = some (.slice (some ad160) l0_1.length c0_1) ∧ w'.cell? (ad160.add ((x5_1).toNat * 3)) = some (.int .i64 ((rd_T67 l0_1 x5_1).f0)) ∧ w'.cell? ⟨(ad160.add ((x5_1).toNat * 3)).block, (ad160.add ((x5_1).toNat * 3)).off + 1, none⟩ = some (.int .i64 ((rd_T67 l0_1 x5_1).f1)) ∧ w'.cell? ⟨(ad160.add ((x5_1).toNat * 3)).block, (ad160.add ((x5_1).toNat * 3)).off + 2, none⟩ = some (.int .i64 ((rd_T67 l0_1 x5_1).f2)) ∧ w'.cell? (ad160.add ((x5_1).toNat * 3)) = some (.int .i64 ((rd_T67 l0_1 x5_1).f0)) ∧ w'.cell? ⟨(ad160.add ((x5_1).toNat * 3)).block, (ad160.add ((x5_1).toNat * 3)).off + 1, none⟩ = some (.int .i64 ((rd_T67 l0_1 x5_1).f1)) ∧ w'.cell? ⟨(ad160.add ((x5_1).toNat * 3)).block, (ad160.add ((x5_1).toNat * 3)).off + 2, none⟩ = some (.int .i64 ((rd_T67 l0_1 x5_1).f2))) (ds := []) ba5_0 (by kernel_rfl) rfl rfl ⟨(blk_cell BK156.out 0).trans rfl, (blk_cell BK156.out 1).trans rfl, (hc_ HB hw160_0), (hc_ HB hw160_1), (hc_ HB hw160_2), (hc_ HB hw161_0), (hc_ HB hw161_1), (hc_ HB hw161_2)⟩ (fun hHeld => ?_); refine with_tabW spec_BothWays.tab7 spec_BothWays.bits7 (fun HT_ HW_ => ?_)
        generalize wr.drew = w22 at HO_160001 BK156 BK157 BK159 HB hx160_0 hx160_1 hx160_2 hx161_0 hx161_1 hx161_2 hHeld ⊢
        refine pz_ 1 21 ba5_1 HT_ ?_
        refine pz_ 3 23 ba5_2 HT_ ?_
        refine pz_ 7 27 ba5_3 HT_ ?_
        refine pz_ 9 29 ba5_4 HT_ ?_
        refine pt_ 0 20 ba5_5 HT_ HW_ hHeld ?_
        refine pt_ 2 22 ba5_6 HT_ HW_ hHeld ?_
        refine pz_ 4 24 ba5_7 HT_ ?_
        refine pz_ 5 25 ba5_8 HT_ ?_
        refine pt_ 6 26 ba5_9 HT_ HW_ hHeld ?_
        refine pt_ 8 28 ba5_10 HT_ HW_ hHeld ?_
        refine pz_ 10 30 ba5_11 HT_ ?_
        refine pz_ 11 31 ba5_12 HT_ ?_
        refine pt_ 12 32 ba5_13 HT_ HW_ hHeld ?_
        refine one_ (i := 13) (N := some 33) ba5_14 rfl rfl (one_of HT_.out (by kernel_rfl)) (by decide) (fun K hK => ?_)
        refine gz_ Try.func54 #[.agg #[.int .i64 a0_0, .slice (some ad160) l0_1.length c0_1], .int .i64 ((rd_T67 l0_1 x5_1).f1), .int .i64 ((rd_T67 l0_1 x5_1).f0)] ?_
        with_reducible refine (spec_l03Cost.calls k1 a0_0 _ _ l0_1 ((rd_T67 l0_1 x5_1).f1) ((rd_T67 l0_1 x5_1).f0) t162 _ ?side1 ?side2 A16.out).mono ?_
        (case side1 => exact cb_ HR0_1 HB)
        (case side2 => exact HC0_1.out)
        rintro e w23 ⟨rfl, hb⟩
        refine ⟨_, rfl, ?_⟩
        replace HO_160001 := rb_ HO_160001 hb
        replace BK156 := Aside0.mk (bb_ BK156 hb)
        replace BK157 := Aside0.mk (bb_ BK157 hb)
        replace BK159 := Aside0.mk (bb_ BK159 hb)
        replace HB := Aside0.mk (bt_ HB hb)
        (try clear hb)
        (try clear hb2)
        (try clear hk)
        (try clear hi)
        refine hK.out _ _ ⟨(blk_cell BK156.out 0).trans rfl, (blk_cell BK156.out 1).trans rfl, (hc_ HB hw160_0), (hc_ HB hw160_1), (hc_ HB hw160_2), (hc_ HB hw161_0), (hc_ HB hw161_1), (hc_ HB hw161_2)⟩ (fun hHeld => ?_)
        clear hK K
        refine nz_ 33 ?_
        refine pz_ 14 34 ba5_15 HT_ ?_
        refine done_ (done_of HT_.out (by kernel_rfl)) ?_
        try go_wp2
        replace HO_160001 := Aside0.mk (Kd.R_drew HO_160001.out)
        replace BK156 := Aside0.mk (blk_drew BK156.out)
        replace BK157 := Aside0.mk (blk_drew BK157.out)
        replace BK159 := Aside0.mk (blk_drew BK159.out)
        replace HB := Aside0.mk (below_drew1 HB.out)
        have p163 : 0 ≤ (x5_1 : Int) := of_decide_eq_true (by first | (with_reducible assumption) | assumption)
        have q163 : x5_1 < (l0_1.length : Int) := of_decide_eq_true (by first | (with_reducible assumption) | assumption)
        obtain ⟨ad163, e163, hx163_0, hx163_1, hx163_2⟩ := at_T67 HR0_1.out x5_1 p163 q163
        have hw163_2 := hx163_2
        have hw163_1 := hx163_1
        have hw163_0 := hx163_0
        obtain rfl : ad160 = ad163 := (by injection e163)
        replace hx163_0 := (HB.out.cell (World.block_lt_of_cell? w _ hx163_0)).trans hx163_0
        replace hx163_1 := (HB.out.cell (World.block_lt_of_cell? w _ hx163_1)).trans hx163_1
        replace hx163_2 := (HB.out.cell (World.block_lt_of_cell? w _ hx163_2)).trans hx163_2
        replace p163 := eq_true p163
        replace q163 := eq_true q163
        refine start_ (n := 11) (S := fun w' => w'.cell? ⟨gb159, 0, none⟩ = some (.int .i64 a0_0) ∧ w'.cell? ⟨gb159, 1, none⟩ = some (u160001) ∧ w'.cell? ⟨gb156, 0, none⟩ = some (.int .i64 a0_0) ∧ w'.cell? ⟨gb156, 1, none⟩ = some (.slice (some ad160) l0_1.length c0_1) ∧ w'.cell? (ad160.add ((x5_1).toNat * 3)) = some (.int .i64 ((rd_T67 l0_1 x5_1).f0)) ∧ w'.cell? ⟨(ad160.add ((x5_1).toNat * 3)).block, (ad160.add ((x5_1).toNat * 3)).off + 1, none⟩ = some (.int .i64 ((rd_T67 l0_1 x5_1).f1)) ∧ w'.cell? ⟨(ad160.add ((x5_1).toNat * 3)).block, (ad160.add ((x5_1).toNat * 3)).off + 2, none⟩ = some (.int .i64 ((rd_T67 l0_1 x5_1).f2))) (ds := [10]) ba5_16 (by kernel_rfl) rfl rfl ⟨(blk_cell BK159.out 0).trans rfl, (blk_cell BK159.out 1).trans rfl, (blk_cell BK156.out 0).trans rfl, (blk_cell BK156.out 1).trans rfl, (hc_ HB hw163_0), (hc_ HB hw163_1), (hc_ HB hw163_2)⟩ (fun hHeld => ?_); refine with_tabW spec_BothWays.tab8 spec_BothWays.bits8 (fun HT_ HW_ => ?_)
        generalize w23.drew = w24 at HO_160001 BK156 BK157 BK159 HB hx163_0 hx163_1 hx163_2 hHeld ⊢
        refine pz_ 0 35 ba5_17 HT_ ?_
        refine pz_ 2 37 ba5_18 HT_ ?_
        refine pz_ 4 39 ba5_19 HT_ ?_
        refine pt_ 1 36 ba5_20 HT_ HW_ hHeld ?_
        refine pt_ 3 38 ba5_21 HT_ HW_ hHeld ?_
        refine pz_ 5 40 ba5_22 HT_ ?_
        refine pt_ 6 41 ba5_23 HT_ HW_ hHeld ?_
        refine one_ (i := 7) (N := some 42) ba5_24 rfl rfl (one_of HT_.out (by kernel_rfl)) (by decide) (fun K hK => ?_)
        refine value_ (w1 := ?_) (v := ?_) (by rfl) rfl ?_ ?_
        rotate_left 2
        ·go_simp
         constructor
         ·rfl
         ·rfl
        refine hK.out _ _ ⟨(blk_cell (blk_alloc BK159.out _) 0).trans rfl, (blk_cell (blk_alloc BK159.out _) 1).trans rfl, (blk_cell (blk_alloc BK156.out _) 0).trans rfl, (blk_cell (blk_alloc BK156.out _) 1).trans rfl, (World.cell?_alloc_lt _ _ _ (World.block_lt_of_cell? _ _ ((hc_ HB hw163_0)))).trans ((hc_ HB hw163_0)), (World.cell?_alloc_lt _ _ _ (World.block_lt_of_cell? _ _ ((hc_ HB hw163_1)))).trans ((hc_ HB hw163_1)), (World.cell?_alloc_lt _ _ _ (World.block_lt_of_cell? _ _ ((hc_ HB hw163_2)))).trans ((hc_ HB hw163_2))⟩ (fun hHeld => ?_)
        clear hK K
        refine nz_ 42 ?_
        refine one_ (i := 8) (N := some 43) ba5_25 rfl rfl (one_of HT_.out (by kernel_rfl)) (by decide) (fun K hK => ?_)
        refine Kd.R_append_step k67 (w0 := w) w.heap.size (by rfl) (.tmp 36) (.tmp 42) 28 67 (.agg #[(.int .i64 0), (.int .i64 0), (.int .i64 0)]) 24 rfl Try.underlying28 info67 rfl (by decide) (by omega) u160001 x160001_1 (⟨(rd_T67 l0_1 x5_1).f0, (rd_T67 l0_1 x5_1).f1, (rd_T67 l0_1 x5_1).f2⟩ : S67) [.int .i64 ((rd_T67 l0_1 x5_1).f0), .int .i64 ((rd_T67 l0_1 x5_1).f1), .int .i64 ((rd_T67 l0_1 x5_1).f2)] (fun _ => True) (fun _ => False) rfl rfl ?aP (fun _ hk => hk.elim) ?aF ?aO ?aB ?aS ?aL ?_
        (case aP => exact k67_mkM _ _ _ (⟨(rd_T67 l0_1 x5_1).f0, (rd_T67 l0_1 x5_1).f1, (rd_T67 l0_1 x5_1).f2⟩ : S67))
        (case aB => exact (by repeat (first | (with_reducible first | exact HB.out | apply below_alloc | apply pw_below_drewN | apply below_drew1 | refine below_set ?_ GE156.out | refine below_set ?_ GE157.out | refine below_set ?_ GE159.out) | exact HB.out)))
        (case aF => exact (fun _ _ => trivial))
        (case aO => exact (hd_ HO_160001))
        (case aS => exact (bz_ HB))
        (case aL => have := LMc18.out; omega)
        intro v165 w25 ho hb hg hat
        rw [← Ny164.out] at ho
        have HO166 := Aside0.mk ho
        replace BK156 := Aside0.mk (blk_grown (g := gb156) (o := .cells #[.int .i64 a0_0, .slice (some ad160) l0_1.length c0_1] 30 (0, 0)) (by (with_reducible repeat (first | refine blk_drewN ?_ _ | refine blk_drew ?_ | refine blk_alloc ?_ _)); exact BK156.out) hg (Kd.R_ne HO_160001.out BK156.out (by decide)))
        replace BK157 := Aside0.mk (blk_grown (g := gb157) (o := .cells #[.int .i64 0, .slice none 0 0] 30 (0, 0)) (by (with_reducible repeat (first | refine blk_drewN ?_ _ | refine blk_drew ?_ | refine blk_alloc ?_ _)); exact BK157.out) hg (Kd.R_ne HO_160001.out BK157.out (by decide)))
        replace BK159 := Aside0.mk (blk_grown (g := gb159) (o := .cells #[.int .i64 a0_0, u160001] 30 (0, 0)) (by (with_reducible repeat (first | refine blk_drewN ?_ _ | refine blk_drew ?_ | refine blk_alloc ?_ _)); exact BK159.out) hg (Kd.R_ne HO_160001.out BK159.out (by decide)))
        replace HB := Aside0.mk (hb)
        clear HO_160001
        clear ho hb hg hat
        obtain ⟨Ao26, co26, eo26⟩ := Kd.R_slice HO166.out
        (first | subst eo26 | (injection eo26 with f1_ f2_ f3_; have f4_ := f1_.symm; have f5_ := f3_.symm; clear f1_ f2_ f3_; subst f4_; subst f5_))
        refine hK.out _ _ ⟨(blk_cell BK159.out 0).trans rfl, (blk_cell BK159.out 1).trans rfl, (blk_cell BK156.out 0).trans rfl, (blk_cell BK156.out 1).trans rfl, (hc_ HB hw163_0), (hc_ HB hw163_1), (hc_ HB hw163_2)⟩ (fun hHeld => ?_)
        clear hK K
        refine nz_ 43 ?_
        refine pz_ 9 44 ba5_26 HT_ ?_
        refine last_ (i := 10) (N := none) ba5_27 rfl rfl (one_of HT_.out (by kernel_rfl)) (by decide) (fun K hK => ?_)
        have hs27 : w25.cell? ⟨gb159, 1, none⟩ = some (u160001) := (blk_cell BK159.out 1).trans rfl
        have hfs27 := blk_frozen BK159.out 1
        have hns27_0 := NB156_159.out
        have hns27_1 := NB157_159.out
        have hms27_0 := NB159_156.out
        have hms27_1 := NB159_157.out
        refine skip_ (w1 := ?_) (by rfl) rfl ?_ ?_
        rotate_left; · go_simp; rfl
        refine hK.out _ _ ?_
        clear hK K
        refine done_ (done_of HT_.out (by kernel_rfl)) ?_
        try go_wp2
        go_roundg k1
        case measure => have := HK1.out; omega
        case rel => exact ⟨(wrap64 (x5_1 + 1)), (y164), (.slice Ao26 y164.length co26), (by first | rfl | (simp; done) | (simp [*]; done)), H', ⟨by have := HK1.out; omega⟩, ⟨by (with_reducible repeat (first | apply Kd.R_alloc | apply Kd.R_drewN | apply Kd.R_drew)); exact Kd.R_mono (Kd.R_far (p := ⟨gb159, 1, none⟩) (Kd.R_types HO166.out BK159.out (by decide)) (fun _ hk => hk.2) (.slice Ao26 y164.length co26)) (fun _ hk => trivial)⟩, ⟨by (with_reducible repeat (first | refine blk_drewN ?_ _ | refine blk_drew ?_ | refine blk_alloc ?_ _)); refine blk_far ?_ NB156_159.out _; (with_reducible repeat (first | refine blk_drewN ?_ _ | refine blk_drew ?_ | refine blk_alloc ?_ _)); exact BK156.out⟩, ⟨by (with_reducible repeat (first | refine blk_drewN ?_ _ | refine blk_drew ?_ | refine blk_alloc ?_ _)); refine blk_far ?_ NB157_159.out _; (with_reducible repeat (first | refine blk_drewN ?_ _ | refine blk_drew ?_ | refine blk_alloc ?_ _)); exact BK157.out⟩, ⟨by (with_reducible repeat (first | refine blk_drewN ?_ _ | refine blk_drew ?_ | refine blk_alloc ?_ _)); refine blk_put (cs := #[.int .i64 a0_0, u160001]) ?_ 1 _ rfl; (with_reducible repeat (first | refine blk_drewN ?_ _ | refine blk_drew ?_ | refine blk_alloc ?_ _)); exact BK159.out⟩, ⟨by repeat (first | (with_reducible first | exact HB.out | apply below_alloc | apply pw_below_drewN | apply below_drew1 | refine below_set ?_ GE156.out | refine below_set ?_ GE157.out | refine below_set ?_ GE159.out) | exact HB.out)⟩⟩
       ·rw [if_neg c18] at H
        exact absurd H (by simp)
      ·rw [if_neg c17] at H
       have c17b0 : decide (t162 < 1000000) = false := decide_eq_false c17
       clear c17
       have H' := Aside0.mk H
       clear H
       have hnb28 := NB156_157.out
       have hnc28 := NB157_156.out
       have hnb29 := NB156_159.out
       have hnc29 := NB159_156.out
       have hcz30_0 := cz_ BK156 0 (.int .i64 a0_0)
       have hcz30_1 := cz_ BK156 1 (.slice A0_1 l0_1.length c0_1)
       have hfz30_0 := blk_frozen BK156.out 0
       have hfz30_1 := blk_frozen BK156.out 1
       try go_wp2
       replace HO_160001 := Aside0.mk (Kd.R_drew HO_160001.out)
       replace BK156 := Aside0.mk (blk_drew BK156.out)
       replace BK157 := Aside0.mk (blk_drew BK157.out)
       replace BK159 := Aside0.mk (blk_drew BK159.out)
       replace HB := Aside0.mk (below_drew1 HB.out)
       have p160 : 0 ≤ (x5_1 : Int) := of_decide_eq_true (by first | (with_reducible assumption) | assumption)
       have q160 : x5_1 < (l0_1.length : Int) := of_decide_eq_true (by first | (with_reducible assumption) | assumption)
       obtain ⟨ad160, e160, hx160_0, hx160_1, hx160_2⟩ := at_T67 HR0_1.out x5_1 p160 q160
       have hw160_2 := hx160_2
       have hw160_1 := hx160_1
       have hw160_0 := hx160_0
       cases e160
       replace hx160_0 := (HB.out.cell (World.block_lt_of_cell? w _ hx160_0)).trans hx160_0
       replace hx160_1 := (HB.out.cell (World.block_lt_of_cell? w _ hx160_1)).trans hx160_1
       replace hx160_2 := (HB.out.cell (World.block_lt_of_cell? w _ hx160_2)).trans hx160_2
       replace p160 := eq_true p160
       replace q160 := eq_true q160
       have p161 : 0 ≤ (x5_1 : Int) := of_decide_eq_true (by first | (with_reducible assumption) | assumption)
       have q161 : x5_1 < (l0_1.length : Int) := of_decide_eq_true (by first | (with_reducible assumption) | assumption)
       obtain ⟨ad161, e161, hx161_0, hx161_1, hx161_2⟩ := at_T67 HR0_1.out x5_1 p161 q161
       have hw161_2 := hx161_2
       have hw161_1 := hx161_1
       have hw161_0 := hx161_0
       obtain rfl : ad160 = ad161 := (by injection e161)
       replace hx161_0 := (HB.out.cell (World.block_lt_of_cell? w _ hx161_0)).trans hx161_0
       replace hx161_1 := (HB.out.cell (World.block_lt_of_cell? w _ hx161_1)).trans hx161_1
       replace hx161_2 := (HB.out.cell (World.block_lt_of_cell? w _ hx161_2)).trans hx161_2
       replace p161 := eq_true p161
       replace q161 := eq_true q161
       refine start_ (n := 15) (S := fun w' => w'.cell? ⟨gb156, 0, none⟩ = some (.int .i64 a0_0) ∧ w'.cell? ⟨gb156, 1, none⟩ = some (.slice (some ad160) l0_1.length c0_1) ∧ w'.cell? (ad160.add ((x5_1).toNat * 3)) = some (.int .i64 ((rd_T67 l0_1 x5_1).f0)) ∧ w'.cell? ⟨(ad160.add ((x5_1).toNat * 3)).block, (ad160.add ((x5_1).toNat * 3)).off + 1, none⟩ = some (.int .i64 ((rd_T67 l0_1 x5_1).f1)) ∧ w'.cell? ⟨(ad160.add ((x5_1).toNat * 3)).block, (ad160.add ((x5_1).toNat * 3)).off + 2, none⟩ = some (.int .i64 ((rd_T67 l0_1 x5_1).f2)) ∧ w'.cell? (ad160.add ((x5_1).toNat * 3)) = some (.int .i64 ((rd_T67 l0_1 x5_1).f0)) ∧ w'.cell? ⟨(ad160.add ((x5_1).toNat * 3)).block, (ad160.add ((x5_1).toNat * 3)).off + 1, none⟩ = some (.int .i64 ((rd_T67 l0_1 x5_1).f1)) ∧ w'.cell? ⟨(ad160.add ((x5_1).toNat * 3)).block, (ad160.add ((x5_1).toNat * 3)).off + 2, none⟩ = some (.int .i64 ((rd_T67 l0_1 x5_1).f2))) (ds := []) ba5_0 (by kernel_rfl) rfl rfl ⟨(blk_cell BK156.out 0).trans rfl, (blk_cell BK156.out 1).trans rfl, (hc_ HB hw160_0), (hc_ HB hw160_1), (hc_ HB hw160_2), (hc_ HB hw161_0), (hc_ HB hw161_1), (hc_ HB hw161_2)⟩ (fun hHeld => ?_); refine with_tabW spec_BothWays.tab7 spec_BothWays.bits7 (fun HT_ HW_ => ?_)
       generalize wr.drew = w31 at HO_160001 BK156 BK157 BK159 HB hx160_0 hx160_1 hx160_2 hx161_0 hx161_1 hx161_2 hHeld ⊢
       refine pz_ 1 21 ba5_1 HT_ ?_
       refine pz_ 3 23 ba5_2 HT_ ?_
       refine pz_ 7 27 ba5_3 HT_ ?_
       refine pz_ 9 29 ba5_4 HT_ ?_
       refine pt_ 0 20 ba5_5 HT_ HW_ hHeld ?_
       refine pt_ 2 22 ba5_6 HT_ HW_ hHeld ?_
       refine pz_ 4 24 ba5_7 HT_ ?_
       refine pz_ 5 25 ba5_8 HT_ ?_
       refine pt_ 6 26 ba5_9 HT_ HW_ hHeld ?_
       refine pt_ 8 28 ba5_10 HT_ HW_ hHeld ?_
       refine pz_ 10 30 ba5_11 HT_ ?_
       refine pz_ 11 31 ba5_12 HT_ ?_
       refine pt_ 12 32 ba5_13 HT_ HW_ hHeld ?_
       refine one_ (i := 13) (N := some 33) ba5_14 rfl rfl (one_of HT_.out (by kernel_rfl)) (by decide) (fun K hK => ?_)
       refine gz_ Try.func54 #[.agg #[.int .i64 a0_0, .slice (some ad160) l0_1.length c0_1], .int .i64 ((rd_T67 l0_1 x5_1).f1), .int .i64 ((rd_T67 l0_1 x5_1).f0)] ?_
       with_reducible refine (spec_l03Cost.calls k1 a0_0 _ _ l0_1 ((rd_T67 l0_1 x5_1).f1) ((rd_T67 l0_1 x5_1).f0) t162 _ ?side1 ?side2 A16.out).mono ?_
       (case side1 => exact cb_ HR0_1 HB)
       (case side2 => exact HC0_1.out)
       rintro e w32 ⟨rfl, hb⟩
       refine ⟨_, rfl, ?_⟩
       replace HO_160001 := rb_ HO_160001 hb
       replace BK156 := Aside0.mk (bb_ BK156 hb)
       replace BK157 := Aside0.mk (bb_ BK157 hb)
       replace BK159 := Aside0.mk (bb_ BK159 hb)
       replace HB := Aside0.mk (bt_ HB hb)
       (try clear hb)
       (try clear hb2)
       (try clear hk)
       (try clear hi)
       refine hK.out _ _ ⟨(blk_cell BK156.out 0).trans rfl, (blk_cell BK156.out 1).trans rfl, (hc_ HB hw160_0), (hc_ HB hw160_1), (hc_ HB hw160_2), (hc_ HB hw161_0), (hc_ HB hw161_1), (hc_ HB hw161_2)⟩ (fun hHeld => ?_)
       clear hK K
       refine nz_ 33 ?_
       refine pz_ 14 34 ba5_15 HT_ ?_
       refine done_ (done_of HT_.out (by kernel_rfl)) ?_
       try go_wp2
       go_roundg k1
       case measure => have := HK1.out; omega
       case rel => exact ⟨(wrap64 (x5_1 + 1)), (x160001_1), (u160001), (by first | rfl | (simp; done) | (simp [*]; done)), H', ⟨by have := HK1.out; omega⟩, ⟨by (with_reducible repeat (first | apply Kd.R_alloc | apply Kd.R_drewN | apply Kd.R_drew)); exact HO_160001.out⟩, ⟨by (with_reducible repeat (first | refine blk_drewN ?_ _ | refine blk_drew ?_ | refine blk_alloc ?_ _)); exact BK156.out⟩, ⟨by (with_reducible repeat (first | refine blk_drewN ?_ _ | refine blk_drew ?_ | refine blk_alloc ?_ _)); exact BK157.out⟩, ⟨by (with_reducible repeat (first | refine blk_drewN ?_ _ | refine blk_drew ?_ | refine blk_alloc ?_ _)); exact BK159.out⟩, ⟨by repeat (first | (with_reducible first | exact HB.out | apply below_alloc | apply pw_below_drewN | apply below_drew1 | refine below_set ?_ GE156.out | refine below_set ?_ GE157.out | refine below_set ?_ GE159.out) | exact HB.out)⟩⟩
     ·rw [if_neg c15] at H
      exact absurd H (by simp)
    ·rw [if_neg c14] at H
     have c14b0 : decide (x5_1 < (l0_1.length : Int)) = false := decide_eq_false c14
     clear c14
     simp only [Option.some.injEq, Prod.mk.injEq] at H
     obtain ⟨rfl, rfl, rfl⟩ := H
     have hnb33 := NB156_157.out
     have hnc33 := NB157_156.out
     have hnb34 := NB156_159.out
     have hnc34 := NB159_156.out
     have hcz35_0 := cz_ BK156 0 (.int .i64 a0_0)
     have hcz35_1 := cz_ BK156 1 (.slice A0_1 l0_1.length c0_1)
     have hfz35_0 := blk_frozen BK156.out 0
     have hfz35_1 := blk_frozen BK156.out 1
     have hnb36 := NB159_157.out
     have hnc36 := NB157_159.out
     have hcz37_0 := cz_ BK159 0 (.int .i64 a0_0)
     have hcz37_1 := cz_ BK159 1 (u160001)
     have hfz37_0 := blk_frozen BK159.out 0
     have hfz37_1 := blk_frozen BK159.out 1
     have hcz38_0 := cz_ BK157 0 (.int .i64 0)
     have hcz38_1 := cz_ BK157 1 (.slice none 0 0)
     have hfz38_0 := blk_frozen BK157.out 0
     have hfz38_1 := blk_frozen BK157.out 1
     obtain ⟨Ao39, co39, eo39⟩ := Kd.R_slice HO_160001.out
     subst eo39
     go_wp2
     refine bodyPost_ret (results_ct rfl _ _ gb157 30 #[.int .i64 a0_0, .slice Ao39 x160001_1.length co39] (0, 0) _ rfl (by (with_reducible repeat (first | refine blk_drewN ?_ _ | refine blk_drew ?_ | refine blk_alloc ?_ _)); refine blk_put (cs := #[.int .i64 a0_0, .slice none 0 0]) ?_ 1 _ rfl; (with_reducible repeat (first | refine blk_drewN ?_ _ | refine blk_drew ?_ | refine blk_alloc ?_ _)); refine blk_put (cs := #[.int .i64 0, .slice none 0 0]) ?_ 0 _ rfl; (with_reducible repeat (first | refine blk_drewN ?_ _ | refine blk_drew ?_ | refine blk_alloc ?_ _)); exact BK157.out) Try.underlying30 rfl (by kernel_rfl)) rfl ?_
     exact ⟨_, by first | rfl | (simp [errW_none, errW_some] <;> rfl) | (simp [*, errW_none, errW_some] <;> rfl), by (with_reducible repeat (first | apply Kd.R_alloc | apply Kd.R_drewN | apply Kd.R_drew)); exact Kd.R_mono (Kd.R_far (p := ⟨gb157, 1, none⟩) (Kd.R_far (p := ⟨gb157, 0, none⟩) (Kd.R_types HO_160001.out BK157.out (by decide)) (fun _ hk => hk.2) (.int .i64 a0_0)) (fun _ hk => hk.2) (.slice Ao39 x160001_1.length co39)) (fun _ hk => trivial), by repeat (first | (with_reducible first | exact HB.out | apply below_alloc | apply pw_below_drewN | apply below_drew1 | refine below_set ?_ GE156.out | refine below_set ?_ GE157.out | refine below_set ?_ GE159.out) | exact HB.out)⟩
 ·replace c3 := Bool.eq_false_iff.mpr c3
  subst c3
  rw [if_neg (show ¬ (false = true) by decide)] at H
  simp only [Option.some.injEq, Prod.mk.injEq] at H
  obtain ⟨rfl, rfl, rfl⟩ := H
  go_enter Try.func28, Try.ntmps28
  go_wp2_with (first | ((with_reducible refine gate_dst (N := 1) rfl ?_); refine box_event ?hg (N := 1) ?hd (cs := #[.int .i64 a0_0, .slice A0_1 l0_1.length c0_1]) (t := 30) ?hr ?_; (case hd => rfl); (case hg => rfl); (case hr => first | (go_simp; done) | (go_simp; rfl)); intro gb156 hg w40 hbox hb; have BK156 := Aside0.mk hbox; have GW156 := ge_ HB hg; have GE156 := ge_ HB hg; replace HB := Aside0.mk (bt_ HB hb); clear hb hbox hg) | ((with_reducible refine gate_dst (N := 2) rfl ?_); refine box_event ?hg (N := 2) ?hd (cs := #[.int .i64 0, .slice none 0 0]) (t := 30) ?hr ?_; (case hd => rfl); (case hg => rfl); (case hr => first | (go_simp; done) | (go_simp; rfl)); intro gb157 hg w41 hbox hb; have BK157 := Aside0.mk hbox; have GW157 := ge_ HB hg; have GE157 := ge_ HB hg; have NB156_157 := nl_ BK156 hg; have NB157_156 := ng_ BK156 hg; replace HB := Aside0.mk (bt_ HB hb); replace BK156 := Aside0.mk (bb_ BK156 hb); clear hb hbox hg; have hnb42 := NB156_157.out; have hnc42 := NB157_156.out; have hcz43_0 := cz_ BK156 0 (.int .i64 a0_0); have hcz43_1 := cz_ BK156 1 (.slice A0_1 l0_1.length c0_1); have hfz43_0 := blk_frozen BK156.out 0; have hfz43_1 := blk_frozen BK156.out 1) | ((with_reducible refine gate_callee (f := 52) rfl ?_); refine gl_ (some 7) Try.func52 #[.agg #[.int .i64 a0_0, .slice A0_1 l0_1.length c0_1]] ?_; (with_reducible refine (spec_GraphOk.calls k a0_0 _ _ l0_1 false _ ?side1 ?side2 A2.out).mono ?_); (case side1 => exact cb_ HR0_1 HB); (case side2 => exact HC0_1.out); rintro e w44 ⟨rfl, hb⟩; refine ⟨_, rfl, ?_⟩; replace BK156 := Aside0.mk (bb_ BK156 hb); replace BK157 := Aside0.mk (bb_ BK157 hb); replace HB := Aside0.mk (bt_ HB hb); (try clear hb); (try clear hb2); (try clear hk); (try clear hi); have hcz45_0 := cz_ BK157 0 (.int .i64 0); have hcz45_1 := cz_ BK157 1 (.slice none 0 0); have hfz45_0 := blk_frozen BK157.out 0; have hfz45_1 := blk_frozen BK157.out 1))
  refine bodyPost_ret (results_ct rfl _ _ gb157 30 #[.int .i64 0, .slice none 0 0] (0, 0) _ rfl (by (with_reducible repeat (first | refine blk_drewN ?_ _ | refine blk_drew ?_ | refine blk_alloc ?_ _)); refine blk_put (cs := #[.int .i64 0, .slice none 0 0]) ?_ 1 _ rfl; (with_reducible repeat (first | refine blk_drewN ?_ _ | refine blk_drew ?_ | refine blk_alloc ?_ _)); refine blk_put (cs := #[.int .i64 0, .slice none 0 0]) ?_ 0 _ rfl; (with_reducible repeat (first | refine blk_drewN ?_ _ | refine blk_drew ?_ | refine blk_alloc ?_ _)); exact BK157.out) Try.underlying30 rfl (by kernel_rfl)) rfl ?_
  exact ⟨_, by first | rfl | (simp [errW_none, errW_some] <;> rfl) | (simp [*, errW_none, errW_some] <;> rfl), by first | exact Kd.R_nil _ _ _ _ _ | exact Kd.N_nil _ _ _ _ _ | exact Kd.V_nil _ _ _ _ _ | exact Kd.Q_nil _ _ _ _ _ | exact Kd.S_nil _ _ _ _ _, by repeat (first | (with_reducible first | exact HB.out | apply below_alloc | apply pw_below_drewN | apply below_drew1 | refine below_set ?_ GE156.out | refine below_set ?_ GE157.out) | exact HB.out)⟩

/-! ### impl_within: function 57 -/
def impl_within.f (a0 : Int) (a1 : Int) (a2 : Int) : Option (Bool) := if a0 ≥ a1 then (some (decide (a0 ≤ a2))) else (some false)
set_option maxHeartbeats 8000000 in
set_option maxRecDepth 100000 in
theorem impl_within.calls (a0 : Int) (a1 : Int) (a2 : Int) (r : Bool) (w : World) (h : impl_within.f a0 a1 a2 = some r) :
  Calls Try.prog 57 #[.int .i64 a0, .int .i64 a1, .int .i64 a2] w fun e w' => e = .returned (.bool r) ∧ Drawn0 w w' := by
 have H : (if a0 ≥ a1 then (some (decide (a0 ≤ a2))) else (some false)) = some r := h
 clear h
 by_cases c4 : a0 ≥ a1
 ·rw [if_pos c4] at H
  have c4b0 : decide (a1 ≤ a0) = true := decide_eq_true c4
  clear c4
  obtain rfl := Option.some.inj H
  go_enter Try.func57, Try.ntmps57
  go_wp2
  go_ret
  exact ⟨by first | rfl | (simp; done) | (simp [*]; done), by repeat (first | exact Drawn0.refl _ | apply Drawn0.step)⟩
 ·rw [if_neg c4] at H
  have c4b0 : decide (a1 ≤ a0) = false := decide_eq_false c4
  clear c4
  obtain rfl := Option.some.inj H
  go_enter Try.func57, Try.ntmps57
  go_wp2
  go_ret
  exact ⟨by first | rfl | (simp; done) | (simp [*]; done), by repeat (first | exact Drawn0.refl _ | apply Drawn0.step)⟩

/-! ### impl_Graph_isNode: function 58 -/
def impl_Graph_isNode.f (a0_0 : Int) (l0_1 : List (S67)) (a1 : Int) : Option (Bool) := (impl_within.f a1 0 (wrap64 (a0_0 - 1))).bind fun t168 => (some t168)
set_option maxHeartbeats 8000000 in
set_option maxRecDepth 100000 in
theorem impl_Graph_isNode.calls (a0_0 : Int) (A0_1 : Option Addr) (c0_1 : Nat) (l0_1 : List (S67)) (a1 : Int) (r : Bool) (w : World) (hr0_1 : Kd.C k67 w A0_1 l0_1.length l0_1) (hc0_1 : l0_1.length ≤ c0_1) (h : impl_Graph_isNode.f a0_0 l0_1 a1 = some r) :
  Calls Try.prog 58 #[.agg #[.int .i64 a0_0, .slice A0_1 l0_1.length c0_1], .int .i64 a1] w fun e w' => e = .returned (.bool r) ∧ Below w.heap.size w w' := by
 have hu30 := Try.underlying30
 have HR0_1 := Aside0.mk hr0_1
 have HC0_1 := Aside0.mk hc0_1
 clear hr0_1 hc0_1
 have HB := Aside0.mk (Below.refl w.heap.size w)
 have H : ((impl_within.f a1 0 (wrap64 (a0_0 - 1))).bind fun t168 => (some t168)) = some r := h
 clear h
 replace H := Option.bind_eq_some_iff.mp H
 obtain ⟨t168, A30, H⟩ := H
 have A3 := Aside0.mk A30
 clear A30
 obtain rfl := Option.some.inj H
 go_enter Try.func58, Try.ntmps58
 go_wp2_with (first | ((with_reducible refine gate_dst (N := 2) rfl ?_); refine box_event ?hg (N := 2) ?hd (cs := #[.int .i64 a0_0, .slice A0_1 l0_1.length c0_1]) (t := 30) ?hr ?_; (case hd => rfl); (case hg => rfl); (case hr => first | (go_simp; done) | (go_simp; rfl)); intro gb167 hg w4 hbox hb; have BK167 := Aside0.mk hbox; have GW167 := ge_ HB hg; have GE167 := ge_ HB hg; replace HB := Aside0.mk (bt_ HB hb); clear hb hbox hg; have hcz5_0 := cz_ BK167 0 (.int .i64 a0_0); have hcz5_1 := cz_ BK167 1 (.slice A0_1 l0_1.length c0_1); have hfz5_0 := blk_frozen BK167.out 0; have hfz5_1 := blk_frozen BK167.out 1) | ((with_reducible refine gate_callee (f := 57) rfl ?_); refine gl_ (some 9) Try.func57 #[.int .i64 a1, .int .i64 0, .int .i64 (wrap64 (a0_0 - 1))] ?_; (with_reducible refine (impl_within.calls a1 0 (wrap64 (a0_0 - 1)) t168 _ A3.out).mono ?_); rintro e w' ⟨rfl, ⟨nd, rfl⟩⟩; refine ⟨_, rfl, ?_⟩))
 go_ret
 exact ⟨by first | rfl | (simp [errW_none, errW_some] <;> rfl) | (simp [*, errW_none, errW_some] <;> rfl), by repeat (first | (with_reducible first | exact HB.out | apply below_alloc | apply pw_below_drewN | apply below_drew1 | refine below_set ?_ GE167.out) | exact HB.out)⟩

/-! ### impl_compareEdges: function 82 -/
def impl_compareEdges.f (a0_0 : Int) (a0_1 : Int) (a0_2 : Int) (a1_0 : Int) (a1_1 : Int) (a1_2 : Int) : Option (Int) := if a0_0 = a1_0 then (some (wrap64 (a0_1 - a1_1))) else (some (wrap64 (a0_0 - a1_0)))
set_option maxHeartbeats 8000000 in
set_option maxRecDepth 100000 in
theorem impl_compareEdges.calls (a0_0 : Int) (a0_1 : Int) (a0_2 : Int) (a1_0 : Int) (a1_1 : Int) (a1_2 : Int) (r : Int) (w : World) (h : impl_compareEdges.f a0_0 a0_1 a0_2 a1_0 a1_1 a1_2 = some r) :
  Calls Try.prog 82 #[.agg #[.int .i64 a0_0, .int .i64 a0_1, .int .i64 a0_2], .agg #[.int .i64 a1_0, .int .i64 a1_1, .int .i64 a1_2]] w fun e w' => e = .returned (.int .i64 r) ∧ Below w.heap.size w w' := by
 have hu67 := Try.underlying67
 have HB := Aside0.mk (Below.refl w.heap.size w)
 have H : (if a0_0 = a1_0 then (some (wrap64 (a0_1 - a1_1))) else (some (wrap64 (a0_0 - a1_0)))) = some r := h
 clear h
 by_cases c3 : a0_0 = a1_0
 ·rw [if_pos c3] at H
  have c3b0 : (a0_0 == a1_0) = true := beq_iff_eq.mpr c3
  have c3b1 : (a0_0 != a1_0) = false := bne_eq_false_iff_eq.mpr c3
  clear c3
  obtain rfl := Option.some.inj H
  go_enter Try.func82, Try.ntmps82
  go_wp2_with (first | ((with_reducible refine gate_dst (N := 2) rfl ?_); refine box_event ?hg (N := 2) ?hd (cs := #[.int .i64 a0_0, .int .i64 a0_1, .int .i64 a0_2]) (t := 67) ?hr ?_; (case hd => rfl); (case hg => rfl); (case hr => first | (go_simp; done) | (go_simp; rfl)); intro gb169 hg w4 hbox hb; have BK169 := Aside0.mk hbox; have GW169 := ge_ HB hg; have GE169 := ge_ HB hg; replace HB := Aside0.mk (bt_ HB hb); clear hb hbox hg) | ((with_reducible refine gate_dst (N := 3) rfl ?_); refine box_event ?hg (N := 3) ?hd (cs := #[.int .i64 a1_0, .int .i64 a1_1, .int .i64 a1_2]) (t := 67) ?hr ?_; (case hd => rfl); (case hg => rfl); (case hr => first | (go_simp; done) | (go_simp; rfl)); intro gb170 hg w5 hbox hb; have BK170 := Aside0.mk hbox; have GW170 := ge_ HB hg; have GE170 := ge_ HB hg; have NB169_170 := nl_ BK169 hg; have NB170_169 := ng_ BK169 hg; replace HB := Aside0.mk (bt_ HB hb); replace BK169 := Aside0.mk (bb_ BK169 hb); clear hb hbox hg; have hnb6 := NB169_170.out; have hnc6 := NB170_169.out; have hcz7_0 := cz_ BK169 0 (.int .i64 a0_0); have hcz7_1 := cz_ BK169 1 (.int .i64 a0_1); have hcz7_2 := cz_ BK169 2 (.int .i64 a0_2); have hfz7_0 := blk_frozen BK169.out 0; have hfz7_1 := blk_frozen BK169.out 1; have hfz7_2 := blk_frozen BK169.out 2; have hcz8_0 := cz_ BK170 0 (.int .i64 a1_0); have hcz8_1 := cz_ BK170 1 (.int .i64 a1_1); have hcz8_2 := cz_ BK170 2 (.int .i64 a1_2); have hfz8_0 := blk_frozen BK170.out 0; have hfz8_1 := blk_frozen BK170.out 1; have hfz8_2 := blk_frozen BK170.out 2))
  go_ret
  exact ⟨by first | rfl | (simp [errW_none, errW_some] <;> rfl) | (simp [*, errW_none, errW_some] <;> rfl), by repeat (first | (with_reducible first | exact HB.out | apply below_alloc | apply pw_below_drewN | apply below_drew1 | refine below_set ?_ GE169.out | refine below_set ?_ GE170.out) | exact HB.out)⟩
 ·rw [if_neg c3] at H
  have c3b0 : (a0_0 == a1_0) = false := beq_eq_false_iff_ne.mpr c3
  have c3b1 : (a0_0 != a1_0) = true := bne_iff_ne.mpr c3
  obtain rfl := Option.some.inj H
  go_enter Try.func82, Try.ntmps82
  go_wp2_with (first | ((with_reducible refine gate_dst (N := 2) rfl ?_); refine box_event ?hg (N := 2) ?hd (cs := #[.int .i64 a0_0, .int .i64 a0_1, .int .i64 a0_2]) (t := 67) ?hr ?_; (case hd => rfl); (case hg => rfl); (case hr => first | (go_simp; done) | (go_simp; rfl)); intro gb169 hg w9 hbox hb; have BK169 := Aside0.mk hbox; have GW169 := ge_ HB hg; have GE169 := ge_ HB hg; replace HB := Aside0.mk (bt_ HB hb); clear hb hbox hg) | ((with_reducible refine gate_dst (N := 3) rfl ?_); refine box_event ?hg (N := 3) ?hd (cs := #[.int .i64 a1_0, .int .i64 a1_1, .int .i64 a1_2]) (t := 67) ?hr ?_; (case hd => rfl); (case hg => rfl); (case hr => first | (go_simp; done) | (go_simp; rfl)); intro gb170 hg w10 hbox hb; have BK170 := Aside0.mk hbox; have GW170 := ge_ HB hg; have GE170 := ge_ HB hg; have NB169_170 := nl_ BK169 hg; have NB170_169 := ng_ BK169 hg; replace HB := Aside0.mk (bt_ HB hb); replace BK169 := Aside0.mk (bb_ BK169 hb); clear hb hbox hg; have hnb11 := NB169_170.out; have hnc11 := NB170_169.out; have hcz12_0 := cz_ BK169 0 (.int .i64 a0_0); have hcz12_1 := cz_ BK169 1 (.int .i64 a0_1); have hcz12_2 := cz_ BK169 2 (.int .i64 a0_2); have hfz12_0 := blk_frozen BK169.out 0; have hfz12_1 := blk_frozen BK169.out 1; have hfz12_2 := blk_frozen BK169.out 2; have hcz13_0 := cz_ BK170 0 (.int .i64 a1_0); have hcz13_1 := cz_ BK170 1 (.int .i64 a1_1); have hcz13_2 := cz_ BK170 2 (.int .i64 a1_2); have hfz13_0 := blk_frozen BK170.out 0; have hfz13_1 := blk_frozen BK170.out 1; have hfz13_2 := blk_frozen BK170.out 2))
  go_ret
  exact ⟨by first | rfl | (simp [errW_none, errW_some] <;> rfl) | (simp [*, errW_none, errW_some] <;> rfl), by repeat (first | (with_reducible first | exact HB.out | apply below_alloc | apply pw_below_drewN | apply below_drew1 | refine below_set ?_ GE169.out | refine below_set ?_ GE170.out) | exact HB.out)⟩

end Go.Proofs.Yteopiggdpadolaa.QFnExactBothWays
