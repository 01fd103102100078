/- Contracts of functions that the law reaches: what each call returns and what it leaves in memory. Made by this session over the print of the kit. -/
import Derived.Test.YtjepabdgmholjaaQFnExactTableSpansx0
import Derived.Test.YtjepabdgmholjaaQFnExactTableSpansx2
import Derived.Test.YtjepabdgmholjaaQFnExactTableSpansx3
namespace Go.Proofs.Ytjepabdgmholjaa.QFnExactTableSpans
open Go.RowKit Go.Proofs.YtjepabdgmholjaaU.PrintWords Go.Proofs.YtjepabdgmholjaaU.PrintLast Go.Proofs.YtjepabdgmholjaaU.PrintMore
attribute [local go_sem] max2_int min2_int max_two min_two max_three min_three max_four min_four   -- for this text's walks alone
set_option linter.unusedVariables false
set_option linter.unusedSimpArgs false
def ba4_0 : Array Bool := #[false, false, false, false, false, false, false, false, false, false, false, false, false]
def ba4_1 : Array Bool := #[true, false, false, false, false, false, false, false, false, false, false, false, false]
def ba4_2 : Array Bool := #[true, true, false, false, false, false, false, false, false, false, false, false, false]
def ba4_3 : Array Bool := #[true, true, false, true, false, false, false, false, false, false, false, false, false]
def ba4_4 : Array Bool := #[true, true, false, true, false, true, false, false, false, false, false, false, false]
def ba4_5 : Array Bool := #[true, true, false, true, false, true, false, true, false, false, false, false, false]
def ba4_6 : Array Bool := #[true, true, true, true, false, true, false, true, false, false, false, false, false]
def ba4_7 : Array Bool := #[true, true, true, true, true, true, false, true, false, false, false, false, false]
def ba4_8 : Array Bool := #[true, true, true, true, true, true, true, true, false, false, false, false, false]
def ba4_9 : Array Bool := #[true, true, true, true, true, true, true, true, true, false, false, false, false]
def ba4_10 : Array Bool := #[true, true, true, true, true, true, true, true, true, true, false, false, false]
def ba4_11 : Array Bool := #[true, true, true, true, true, true, true, true, true, true, true, false, false]
def ba4_12 : Array Bool := #[true, true, true, true, true, true, true, true, true, true, true, true, false]
def ba4_13 : Array Bool := #[true, true, true, true, true, true, true, true, true, true, true, true, true]

/-! ### spec_l02Paint: function 63 -/
mutual
def spec_l02Paint.l0 : Nat → List Int → Int → List (S29) → Option (List Int)
 | 0, _, _, _ => none
 | k + 1, x3, x4, x158000 => if x4 < 65536 then (if 0 ≤ x4 then (if x4 < (x3.length : Int) then (spec_l02Paint.l0 k (x3.set (x4 : Int).toNat (-1)) (wrap64 (x4 + 1)) x158000) else (none)) else (none)) else (spec_l02Paint.l1 k x3 0 x158000)
def spec_l02Paint.l1 : Nat → List Int → Int → List (S29) → Option (List Int)
 | 0, _, _, _ => none
 | k + 1, x3, x5, x158000 => if x5 ≤ 16 then (spec_l02Paint.l2 k x3 x5 0 x158000) else (some x3)
def spec_l02Paint.l2 : Nat → List Int → Int → Int → List (S29) → Option (List Int)
 | 0, _, _, _, _ => none
 | k + 1, x3, x5, x6, x158000 => if x6 < (x158000.length : Int) then (if 0 ≤ x6 then (if ((rd_T29 x158000 x6).f0.f1) = x5 then (spec_l02Paint.l3 k x3 x5 x6 0 x158000 ((rd_T29 x158000 x6).f0.f0) ((rd_T29 x158000 x6).f0.f1)) else (spec_l02Paint.l2 k x3 x5 (wrap64 (x6 + 1)) x158000)) else (none)) else (spec_l02Paint.l1 k x3 (wrap64 (x5 + 1)) x158000)
def spec_l02Paint.l3 : Nat → List Int → Int → Int → Int → List (S29) → Int → Int → Option (List Int)
 | 0, _, _, _, _, _, _, _ => none
 | k + 1, x3, x5, x6, x8, x158000, x164000, x164001 => (spec_l01Size2.f x5).bind fun t164 => (if x8 < t164 then (if 0 ≤ x6 then (if x6 < (x158000.length : Int) then (if 0 ≤ (wrap64 (x164000 + x8)) then (if (wrap64 (x164000 + x8)) < (x3.length : Int) then (spec_l02Paint.l3 k (x3.set ((wrap64 (x164000 + x8)) : Int).toNat ((rd_T29 x158000 x6).f1)) x5 x6 (wrap64 (x8 + 1)) x158000 x164000 x164001) else (none)) else (none)) else (none)) else (none)) else (spec_l02Paint.l2 k x3 x5 (wrap64 (x6 + 1)) x158000))
end
def spec_l02Paint.f (k : Nat) (l0_0 : List (S29)) : Option (List Int) := if 65536 ≤ 35184372088832 then (spec_l02Paint.l0 k (List.replicate 65536 0) 0 l0_0) else (none)
theorem spec_l02Paint.mono_l : ∀ k, (∀ y0 y1 y2, LeO (spec_l02Paint.l0 k y0 y1 y2) (spec_l02Paint.l0 (k + 1) y0 y1 y2)) ∧ (∀ y0 y1 y2, LeO (spec_l02Paint.l1 k y0 y1 y2) (spec_l02Paint.l1 (k + 1) y0 y1 y2)) ∧ (∀ y0 y1 y2 y3, LeO (spec_l02Paint.l2 k y0 y1 y2 y3) (spec_l02Paint.l2 (k + 1) y0 y1 y2 y3)) ∧ (∀ y0 y1 y2 y3 y4 y5 y6, LeO (spec_l02Paint.l3 k y0 y1 y2 y3 y4 y5 y6) (spec_l02Paint.l3 (k + 1) y0 y1 y2 y3 y4 y5 y6))
 | 0 => ⟨fun _ _ _ r h => by simp [spec_l02Paint.l0] at h, fun _ _ _ r h => by simp [spec_l02Paint.l1] at h, fun _ _ _ _ r h => by simp [spec_l02Paint.l2] at h, fun _ _ _ _ _ _ _ r h => by simp [spec_l02Paint.l3] at h⟩
 | k + 1 => by
  obtain ⟨ih0, ih1, ih2, ih3⟩ := spec_l02Paint.mono_l k
  refine ⟨?_, ?_, ?_, ?_⟩
  ·intro y0 y1 y2
   unfold spec_l02Paint.l0
   repeat' first
   | (with_reducible exact ih0 _ _ _)
   | (with_reducible exact ih1 _ _ _)
   | (with_reducible exact ih2 _ _ _ _)
   | (with_reducible exact ih3 _ _ _ _ _ _ _)
   | (with_reducible exact LeO.refl _)
   | (with_reducible exact LeO.none _)
   | (with_reducible refine LeO.ite ?_ ?_)
   | (with_reducible refine LeO.bind ?_ (fun _ => ?_))
   | exact ih0 _ _ _
   | exact ih1 _ _ _
   | exact ih2 _ _ _ _
   | exact ih3 _ _ _ _ _ _ _
   | exact LeO.none _
   | refine LeO.ite ?_ ?_
   | refine LeO.bind ?_ (fun _ => ?_)
  ·intro y0 y1 y2
   unfold spec_l02Paint.l1
   repeat' first
   | (with_reducible exact ih0 _ _ _)
   | (with_reducible exact ih1 _ _ _)
   | (with_reducible exact ih2 _ _ _ _)
   | (with_reducible exact ih3 _ _ _ _ _ _ _)
   | (with_reducible exact LeO.refl _)
   | (with_reducible exact LeO.none _)
   | (with_reducible refine LeO.ite ?_ ?_)
   | (with_reducible refine LeO.bind ?_ (fun _ => ?_))
   | exact ih0 _ _ _
   | exact ih1 _ _ _
   | exact ih2 _ _ _ _
   | exact ih3 _ _ _ _ _ _ _
   | exact LeO.none _
   | refine LeO.ite ?_ ?_
   | refine LeO.bind ?_ (fun _ => ?_)
  ·intro y0 y1 y2 y3
   unfold spec_l02Paint.l2
   repeat' first
   | (with_reducible exact ih0 _ _ _)
   | (with_reducible exact ih1 _ _ _)
   | (with_reducible exact ih2 _ _ _ _)
   | (with_reducible exact ih3 _ _ _ _ _ _ _)
   | (with_reducible exact LeO.refl _)
   | (with_reducible exact LeO.none _)
   | (with_reducible refine LeO.ite ?_ ?_)
   | (with_reducible refine LeO.bind ?_ (fun _ => ?_))
   | exact ih0 _ _ _
   | exact ih1 _ _ _
   | exact ih2 _ _ _ _
   | exact ih3 _ _ _ _ _ _ _
   | exact LeO.none _
   | refine LeO.ite ?_ ?_
   | refine LeO.bind ?_ (fun _ => ?_)
  ·intro y0 y1 y2 y3 y4 y5 y6
   unfold spec_l02Paint.l3
   repeat' first
   | (with_reducible exact ih0 _ _ _)
   | (with_reducible exact ih1 _ _ _)
   | (with_reducible exact ih2 _ _ _ _)
   | (with_reducible exact ih3 _ _ _ _ _ _ _)
   | (with_reducible exact LeO.refl _)
   | (with_reducible exact LeO.none _)
   | (with_reducible refine LeO.ite ?_ ?_)
   | (with_reducible refine LeO.bind ?_ (fun _ => ?_))
   | exact ih0 _ _ _
   | exact ih1 _ _ _
   | exact ih2 _ _ _ _
   | exact ih3 _ _ _ _ _ _ _
   | exact LeO.none _
   | refine LeO.ite ?_ ?_
   | refine LeO.bind ?_ (fun _ => ?_)
theorem spec_l02Paint.mono : ∀ a0 k, LeO (spec_l02Paint.f k a0) (spec_l02Paint.f (k + 1) a0) := by
 intro a0 k
 obtain ⟨ih0, ih1, ih2, ih3⟩ := spec_l02Paint.mono_l k
 unfold spec_l02Paint.f
 repeat' first
   | (with_reducible exact ih0 _ _ _)
   | (with_reducible exact ih1 _ _ _)
   | (with_reducible exact ih2 _ _ _ _)
   | (with_reducible exact ih3 _ _ _ _ _ _ _)
   | (with_reducible exact LeO.refl _)
   | (with_reducible exact LeO.none _)
   | (with_reducible refine LeO.ite ?_ ?_)
   | (with_reducible refine LeO.bind ?_ (fun _ => ?_))
   | exact ih0 _ _ _
   | exact ih1 _ _ _
   | exact ih2 _ _ _ _
   | exact ih3 _ _ _ _ _ _ _
   | exact LeO.none _
   | refine LeO.ite ?_ ?_
   | refine LeO.bind ?_ (fun _ => ?_)
def spec_l02Paint.T17 : Bool × List (List Nat × List Nat) := (true, [([], []), ([], []), ([1], [1]), ([], []), ([2, 3], [2, 3]), ([], []), ([5], [5]), ([], []), ([6, 7], [6, 7]), ([8], [8]), ([9], [9]), ([0, 4, 0, 1, 2, 3, 4, 5, 6, 7, 8, 9, 10], [0, 4]), ([11, 10, 0, 1, 2, 3, 4, 5, 6, 7, 8, 9, 10], [10, 11])])
def spec_l02Paint.B17 : List Nat := [0, 0, 2, 0, 14, 0, 32, 0, 224, 480, 992, 2047, 4095]
theorem spec_l02Paint.tab17 : rtab .any (opsOf Try.f63 17) = spec_l02Paint.T17 := by kernel_rfl
theorem spec_l02Paint.bits17 : waitsOk spec_l02Paint.T17.2 spec_l02Paint.B17 = true := by kernel_rfl
set_option maxHeartbeats 8000000 in
set_option maxRecDepth 100000 in
theorem spec_l02Paint.calls (k : Nat) (A0_0 : Option Addr) (c0_0 : Nat) (l0_0 : List (S29)) (r : List Int) (w : World) (hr0_0 : Kd.C k29 w A0_0 l0_0.length l0_0) (hc0_0 : l0_0.length ≤ c0_0) (h : spec_l02Paint.f k l0_0 = some r) :
  Calls Try.prog 63 #[.agg #[.slice A0_0 l0_0.length c0_0]] w fun e w' => ∃ v0_ : Value, e = .returned (v0_) ∧ Kd.R (Kd.int .i64) 3 w' w.heap.size (fun _ => True) v0_ r ∧ Below w.heap.size w w' := by
 have hu34 := Try.underlying34
 have hu27 := Try.underlying27
 have HR0_0 := Aside0.mk hr0_0
 have HC0_0 := Aside0.mk hc0_0
 clear hr0_0 hc0_0
 have HB := Aside0.mk (Below.refl w.heap.size w)
 have H : (if 65536 ≤ 35184372088832 then (spec_l02Paint.l0 k (List.replicate 65536 0) 0 l0_0) else (none)) = some r := h
 clear h
 by_cases c2 : 65536 ≤ 35184372088832
 ·rw [if_pos c2] at H
  have c2b0 := eq_true c2
  have c2b1 : decide (65536 ≤ 35184372088832) = true := decide_eq_true c2
  clear c2
  obtain ⟨y158, hy158⟩ : ∃ y_ : List Int, y_ = (List.replicate 65536 0) := ⟨_, rfl⟩
  replace H : (spec_l02Paint.l0 k y158 0 l0_0) = some r := by first | (rw [hy158]; with_reducible exact H) | (have H2_ := (Option.bind_some _ _).symm.trans H; rw [hy158]; with_reducible exact H2_) | (have H2_ := (Option.bind_some _ _).symm.trans H; with_reducible exact H2_) | with_reducible exact H | (rw [hy158]; exact H) | exact H
  have Ny158 := Aside0.mk hy158
  clear hy158
  have H' := Aside0.mk H
  clear H
  go_enter Try.func63, Try.ntmps63
  go_wp2_with (first | ((with_reducible refine gate_dst (N := 1) rfl ?_); refine box_event ?hg (N := 1) ?hd (cs := #[.slice A0_0 l0_0.length c0_0]) (t := 34) ?hr ?_; (case hd => rfl); (case hg => rfl); (case hr => first | (go_simp; done) | (go_simp; rfl)); intro gb157 hg w3 hbox hb; have BK157 := Aside0.mk hbox; have GW157 := ge_ HB hg; have GE157 := ge_ HB hg; replace HB := Aside0.mk (bt_ HB hb); clear hb hbox hg) | ((with_reducible refine gate_dst (N := 9) rfl ?_); refine Kd.R_make (Kd.int .i64) _ 3 rfl (N := 9) rfl 53 _ _ rfl 65536 rfl rfl Try.underlying53 (.int .i64 0) 8 info3 rfl (by decide) (by omega) 0 (ok := fun _ => True) (okp := fun _ => True) rfl (fun _ hk => hk) trivial (by omega) (by omega) (Below.refl _ _) (Nat.le_refl _) ?_; intro v159 w4 ho5 hb hg_ hnew_; clear hg_ hnew_; (first | rw [← Ny158.out] at ho5 | (simp only [Int.reduceToNat] at ho5; rw [← Ny158.out] at ho5)); have HO160 := Aside0.mk (Kd.R_lower ho5 (bz_ HB)); replace BK157 := Aside0.mk (bb_ BK157 hb); replace HB := Aside0.mk (bt_ HB hb); clear hb ho5))
  go_loopg [4] k (fun kq v4 w' => ∃ (x3_1 : List Int) (x4_1 : Int), v4 = .int .i64 x4_1 ∧ Aside0 (spec_l02Paint.l0 kq x3_1 x4_1 l0_0 = some r) ∧ Aside0 (kq ≤ k) ∧ Aside0 (Kd.R (Kd.int .i64) 3 w' w.heap.size (fun _ => True) v159 x3_1) ∧ Aside0 (w'.heap[gb157]? = some (.cells #[(.slice A0_0 l0_0.length c0_0)] 34 (0, 0))) ∧ Aside0 (Below w.heap.size w w'))
  case atStart => exact ⟨(y158), (0), (by first | rfl | (simp; done) | (simp [*]; done)), H', ⟨Nat.le_refl _⟩, ⟨by (with_reducible repeat (first | apply Kd.R_alloc | apply Kd.R_drewN | apply Kd.R_drew)); exact HO160.out⟩, ⟨by (with_reducible repeat (first | refine blk_drewN ?_ _ | refine blk_drew ?_ | refine blk_alloc ?_ _)); exact BK157.out⟩, ⟨by repeat (first | (with_reducible first | exact HB.out | apply below_alloc | apply pw_below_drewN | apply below_drew1 | refine below_set ?_ GE157.out) | exact HB.out)⟩⟩
  case round =>
   clear H'
   try clear c2
   try clear c2b0
   try clear c2b1
   try clear p2
   obtain ⟨x3_1, x4_1, rfl, HA, HK1, HO_3, BK157, HB⟩ := hrel
   cases gk with
   | zero => exact absurd HA.out (by simp [spec_l02Paint.l0])
   | succ k1 =>
    have H := HA.out
    clear HA
    simp only [spec_l02Paint.l0] at H
    by_cases c6 : x4_1 < 65536
    ·rw [if_pos c6] at H
     have c6b0 : decide (x4_1 < 65536) = true := decide_eq_true c6
     clear c6
     by_cases c7 : 0 ≤ x4_1
     ·rw [if_pos c7] at H
      have c7b0 : decide (0 ≤ x4_1) = true := decide_eq_true c7
      clear c7
      by_cases c8 : x4_1 < (x3_1.length : Int)
      ·rw [if_pos c8] at H
       have c8b0 : decide (x4_1 < (x3_1.length : Int)) = true := decide_eq_true c8
       clear c8
       obtain ⟨y161, hy161⟩ : ∃ y_ : List Int, y_ = (x3_1.set (x4_1 : Int).toNat (-1)) := ⟨_, rfl⟩
       replace H : (spec_l02Paint.l0 k1 y161 (wrap64 (x4_1 + 1)) l0_0) = some r := by first | (rw [hy161]; with_reducible exact H) | (have H2_ := (Option.bind_some _ _).symm.trans H; rw [hy161]; with_reducible exact H2_) | (have H2_ := (Option.bind_some _ _).symm.trans H; with_reducible exact H2_) | with_reducible exact H | (rw [hy161]; exact H) | exact H
       have Ny161 := Aside0.mk hy161
       clear hy161
       have H' := Aside0.mk H
       clear H
       have p9 : 0 ≤ (x4_1 : Int) := of_decide_eq_true (by first | (with_reducible assumption) | assumption)
       have q9 : (x4_1 : Int) < ((x3_1.length : Int) : Int) := of_decide_eq_true (by first | (with_reducible assumption) | assumption)
       obtain ⟨go9, co9, eo9, gb9, gl9, cl9, HG9⟩ := Kd.R_form HO_3.out (by omega)
       (first | cases eo9 | (injection eo9 with ea_ en_ ec_; (first | subst ea_ | (injection ea_ with ea_; subst ea_)); subst ec_; clear en_))
       have GB9 := Aside0.mk gb9
       have GG9 := Aside0.mk HG9
       clear gb9 gl9 HG9
       obtain ⟨hx9_0, hf9_0⟩ := Kd.R_celln 0 HO_3.out (x4_1 : Int) p9 q9
       replace p9 := eq_true p9
       replace q9 := eq_true q9
       have HP10 := Kd.R_putg HO_3.out (x4_1 : Int) (-1)
       go_wp2_with (first | ((with_reducible refine gate_store (t := 3) (p := 16) rfl ?_); refine store_event (t := 3) (p := 16) (v := ?vo_w11) (w1 := (wr.setCell ⟨go9, (x4_1 : Int).toNat, none⟩ (.int .i64 (-1)))) ?hg ?ho ?hn ?hr ?_; (case ho => rfl); (case hg => rfl); (case hn => rfl); (case hr => first | (go_simp; done) | (go_simp; rfl)); intro w11 hw; have hg : wr.grownBy w11 (some go9) := (by rw [hw]; exact HP10.2); have hp_ : Kd.R (Kd.int .i64) 3 w11 w.heap.size (fun _ => True) (.slice (some ⟨go9, 0, none⟩) x3_1.length co9) y161 := (by rw [hw, Ny161.out]; exact HP10.1); clear HP10; replace BK157 := Aside0.mk (blk_grown (g := gb157) (o := .cells #[.slice A0_0 l0_0.length c0_0] 34 (0, 0)) (by (with_reducible repeat (first | refine blk_drewN ?_ _ | refine blk_drew ?_ | refine blk_alloc ?_ _)); exact BK157.out) hg (Kd.R_ne HO_3.out BK157.out (by decide))); replace HO_3 := Aside0.mk (hp_); replace HB := Aside0.mk ((by rw [hw]; exact below_set (HB.out) GB9.out : Below w.heap.size w w11)); clear hg hw hp_))
       go_roundg k1
       case measure => have := HK1.out; omega
       case rel => exact ⟨(y161), (wrap64 (x4_1 + 1)), (by first | rfl | (simp; done) | (simp [*]; done)), H', ⟨by have := HK1.out; omega⟩, ⟨by (with_reducible repeat (first | apply Kd.R_alloc | apply Kd.R_drewN | apply Kd.R_drew)); exact HO_3.out⟩, ⟨by (with_reducible repeat (first | refine blk_drewN ?_ _ | refine blk_drew ?_ | refine blk_alloc ?_ _)); exact BK157.out⟩, ⟨by repeat (first | (with_reducible first | exact HB.out | apply below_alloc | apply pw_below_drewN | apply below_drew1 | refine below_set ?_ GE157.out) | exact HB.out)⟩⟩
      ·rw [if_neg c8] at H
       exact absurd H (by simp)
     ·rw [if_neg c7] at H
      exact absurd H (by simp)
    ·rw [if_neg c6] at H
     have c6b0 : decide (x4_1 < 65536) = false := decide_eq_false c6
     clear c6
     have H' := Aside0.mk H
     clear H
     go_wp2
     go_loopg [5] k1 (fun kq v5 w' => ∃ (x3_2 : List Int) (x5_2 : Int), v5 = .int .i64 x5_2 ∧ Aside0 (spec_l02Paint.l1 kq x3_2 x5_2 l0_0 = some r) ∧ Aside0 (kq ≤ k1) ∧ Aside0 (Kd.R (Kd.int .i64) 3 w' w.heap.size (fun _ => True) v159 x3_2) ∧ Aside0 (w'.heap[gb157]? = some (.cells #[(.slice A0_0 l0_0.length c0_0)] 34 (0, 0))) ∧ Aside0 (Below w.heap.size w w'))
     case atStart => exact ⟨(x3_1), (0), (by first | rfl | (simp; done) | (simp [*]; done)), H', ⟨Nat.le_refl _⟩, ⟨by (with_reducible repeat (first | apply Kd.R_alloc | apply Kd.R_drewN | apply Kd.R_drew)); exact HO_3.out⟩, ⟨by (with_reducible repeat (first | refine blk_drewN ?_ _ | refine blk_drew ?_ | refine blk_alloc ?_ _)); exact BK157.out⟩, ⟨by repeat (first | (with_reducible first | exact HB.out | apply below_alloc | apply pw_below_drewN | apply below_drew1 | refine below_set ?_ GE157.out) | exact HB.out)⟩⟩
     case round =>
      clear H'
      try clear c2
      try clear c2b0
      try clear c2b1
      try clear p2
      try clear c6
      try clear c6b0
      try clear p6
      try clear c7
      try clear c7b0
      try clear c8
      try clear c8b0
      try clear p9
      try clear q9
      try clear hx9
      try clear hf9
      try clear hx9_0
      try clear p2
      try clear p9
      try clear q9
      obtain ⟨x3_2, x5_2, rfl, HA, HK2, HO_3, BK157, HB⟩ := hrel
      cases gk with
      | zero => exact absurd HA.out (by simp [spec_l02Paint.l1])
      | succ k2 =>
       have H := HA.out
       clear HA
       simp only [spec_l02Paint.l1] at H
       by_cases c12 : x5_2 ≤ 16
       ·rw [if_pos c12] at H
        have c12b0 : decide (x5_2 ≤ 16) = true := decide_eq_true c12
        clear c12
        have H' := Aside0.mk H
        clear H
        go_wp2
        go_loopg [6] k2 (fun kq v6 w' => ∃ (x3_3 : List Int) (x6_3 : Int), v6 = .int .i64 x6_3 ∧ Aside0 (spec_l02Paint.l2 kq x3_3 x5_2 x6_3 l0_0 = some r) ∧ Aside0 (kq ≤ k2) ∧ Aside0 (Kd.R (Kd.int .i64) 3 w' w.heap.size (fun _ => True) v159 x3_3) ∧ Aside0 (w'.heap[gb157]? = some (.cells #[(.slice A0_0 l0_0.length c0_0)] 34 (0, 0))) ∧ Aside0 (Below w.heap.size w w'))
        case atStart => exact ⟨(x3_2), (0), (by first | rfl | (simp; done) | (simp [*]; done)), H', ⟨Nat.le_refl _⟩, ⟨by (with_reducible repeat (first | apply Kd.R_alloc | apply Kd.R_drewN | apply Kd.R_drew)); exact HO_3.out⟩, ⟨by (with_reducible repeat (first | refine blk_drewN ?_ _ | refine blk_drew ?_ | refine blk_alloc ?_ _)); exact BK157.out⟩, ⟨by repeat (first | (with_reducible first | exact HB.out | apply below_alloc | apply pw_below_drewN | apply below_drew1 | refine below_set ?_ GE157.out) | exact HB.out)⟩⟩
        case round =>
         clear H'
         try clear c1
         try clear c2
         try clear c2b0
         try clear c2b1
         try clear p2
         try clear c6
         try clear c6b0
         try clear p6
         try clear c7
         try clear c7b0
         try clear c8
         try clear c8b0
         try clear p9
         try clear q9
         try clear hx9
         try clear hf9
         try clear c12
         try clear c12b0
         try clear hx9_0
         try clear p2
         try clear p6
         try clear p9
         try clear q9
         obtain ⟨x3_3, x6_3, rfl, HA, HK3, HO_3, BK157, HB⟩ := hrel
         cases gk with
         | zero => exact absurd HA.out (by simp [spec_l02Paint.l2])
         | succ k3 =>
          have H := HA.out
          clear HA
          simp only [spec_l02Paint.l2] at H
          by_cases c13 : x6_3 < (l0_0.length : Int)
          ·rw [if_pos c13] at H
           have c13b0 : decide (x6_3 < (l0_0.length : Int)) = true := decide_eq_true c13
           clear c13
           by_cases c14 : 0 ≤ x6_3
           ·rw [if_pos c14] at H
            have c14b0 : decide (0 ≤ x6_3) = true := decide_eq_true c14
            clear c14
            by_cases c15 : ((rd_T29 l0_0 x6_3).f0.f1) = x5_2
            ·rw [if_pos c15] at H
             have c15b0 : (((rd_T29 l0_0 x6_3).f0.f1) == x5_2) = true := beq_iff_eq.mpr c15
             have c15b1 : (((rd_T29 l0_0 x6_3).f0.f1) != x5_2) = false := bne_eq_false_iff_eq.mpr c15
             clear c15
             have H' := Aside0.mk H
             clear H
             have hcz16_0 := cz_ BK157 0 (.slice A0_0 l0_0.length c0_0)
             have hfz16_0 := blk_frozen BK157.out 0
             have p162 : 0 ≤ (x6_3 : Int) := of_decide_eq_true (by first | (with_reducible assumption) | assumption)
             have q162 : x6_3 < (l0_0.length : Int) := of_decide_eq_true (by first | (with_reducible assumption) | assumption)
             obtain ⟨ad162, e162, hx162_0, hx162_1, hx162_2⟩ := at_T29 HR0_0.out x6_3 p162 q162
             cases e162
             replace hx162_0 := (HB.out.cell (World.block_lt_of_cell? w _ hx162_0)).trans hx162_0
             replace hx162_1 := (HB.out.cell (World.block_lt_of_cell? w _ hx162_1)).trans hx162_1
             replace hx162_2 := (HB.out.cell (World.block_lt_of_cell? w _ hx162_2)).trans hx162_2
             replace p162 := eq_true p162
             replace q162 := eq_true q162
             go_wp2_with (first | ((with_reducible refine gate_dst (N := 7) rfl ?_); refine box_event ?hg (N := 7) ?hd (cs := #[.int .i64 0, .int .i64 0]) (t := 27) ?hr ?_; (case hd => rfl); (case hg => rfl); (case hr => first | (go_simp; done) | (go_simp; rfl)); intro gb163 hg w17 hbox hb; have BK163 := Aside0.mk hbox; have GW163 := ge_ HB hg; have GE163 := ge_ HB hg; have NB157_163 := nl_ BK157 hg; have NB163_157 := ng_ BK157 hg; replace HO_3 := rb_ HO_3 hb; replace HB := Aside0.mk (bt_ HB hb); replace BK157 := Aside0.mk (bb_ BK157 hb); clear hb hbox hg; have hnb18 := NB163_157.out; have hnc18 := NB157_163.out; have hcz19_0 := cz_ BK163 0 (.int .i64 0); have hcz19_1 := cz_ BK163 1 (.int .i64 0); have hfz19_0 := blk_frozen BK163.out 0; have hfz19_1 := blk_frozen BK163.out 1))
             go_loopg [8] k3 (fun kq v8 w' => ∃ (x3_4 : List Int) (x8_4 : Int), v8 = .int .i64 x8_4 ∧ Aside0 (spec_l02Paint.l3 kq x3_4 x5_2 x6_3 x8_4 l0_0 ((rd_T29 l0_0 x6_3).f0.f0) ((rd_T29 l0_0 x6_3).f0.f1) = some r) ∧ Aside0 (kq ≤ k3) ∧ Aside0 (Kd.R (Kd.int .i64) 3 w' w.heap.size (fun _ => True) v159 x3_4) ∧ Aside0 (w'.heap[gb157]? = some (.cells #[(.slice (some ad162) l0_0.length c0_0)] 34 (0, 0))) ∧ Aside0 (w'.heap[gb163]? = some (.cells #[.int .i64 ((rd_T29 l0_0 x6_3).f0.f0), .int .i64 ((rd_T29 l0_0 x6_3).f0.f1)] 27 (0, 0))) ∧ Aside0 (Below w.heap.size w w'))
             case atStart => exact ⟨(x3_3), (0), (by first | rfl | (simp; done) | (simp [*]; done)), H', ⟨Nat.le_refl _⟩, ⟨by (with_reducible repeat (first | apply Kd.R_alloc | apply Kd.R_drewN | apply Kd.R_drew)); exact Kd.R_mono (Kd.R_far (p := ⟨gb163, 1, none⟩) (Kd.R_far (p := ⟨gb163, 0, none⟩) (Kd.R_types HO_3.out BK163.out (by decide)) (fun _ hk => hk.2) (.int .i64 ((rd_T29 l0_0 x6_3).f0.f0))) (fun _ hk => hk.2) (.int .i64 ((rd_T29 l0_0 x6_3).f0.f1))) (fun _ hk => trivial)⟩, ⟨by (with_reducible repeat (first | refine blk_drewN ?_ _ | refine blk_drew ?_ | refine blk_alloc ?_ _)); refine blk_far ?_ NB157_163.out _; (with_reducible repeat (first | refine blk_drewN ?_ _ | refine blk_drew ?_ | refine blk_alloc ?_ _)); refine blk_far ?_ NB157_163.out _; (with_reducible repeat (first | refine blk_drewN ?_ _ | refine blk_drew ?_ | refine blk_alloc ?_ _)); exact BK157.out⟩, ⟨by (with_reducible repeat (first | refine blk_drewN ?_ _ | refine blk_drew ?_ | refine blk_alloc ?_ _)); refine blk_put (cs := #[.int .i64 ((rd_T29 l0_0 x6_3).f0.f0), .int .i64 0]) ?_ 1 _ rfl; (with_reducible repeat (first | refine blk_drewN ?_ _ | refine blk_drew ?_ | refine blk_alloc ?_ _)); refine blk_put (cs := #[.int .i64 0, .int .i64 0]) ?_ 0 _ rfl; (with_reducible repeat (first | refine blk_drewN ?_ _ | refine blk_drew ?_ | refine blk_alloc ?_ _)); exact BK163.out⟩, ⟨by repeat (first | (with_reducible first | exact HB.out | apply below_alloc | apply pw_below_drewN | apply below_drew1 | refine below_set ?_ GE157.out | refine below_set ?_ GE163.out) | exact HB.out)⟩⟩
             case round =>
              clear H'
              try clear c1
              try clear p1
              try clear q1
              try clear hx1
              try clear c2
              try clear c2b0
              try clear c2b1
              try clear p2
              try clear c6
              try clear c6b0
              try clear p6
              try clear c7
              try clear c7b0
              try clear c8
              try clear c8b0
              try clear p9
              try clear q9
              try clear hx9
              try clear hf9
              try clear c12
              try clear c12b0
              try clear c13
              try clear c13b0
              try clear c14
              try clear c14b0
              try clear c15
              try clear c15b0
              try clear c15b1
              try clear p16
              try clear q16
              try clear hx16
              try clear c18
              try clear hcz16_0
              try clear hcz19_0
              try clear hcz19_1
              try clear hfz16_0
              try clear hfz19_0
              try clear hfz19_1
              try clear hx162_0
              try clear hx162_1
              try clear hx162_2
              try clear hx9_0
              try clear p162
              try clear p2
              try clear p6
              try clear p9
              try clear q162
              try clear q9
              obtain ⟨x3_4, x8_4, rfl, HA, HK4, HO_3, BK157, BK163, HB⟩ := hrel
              cases gk with
              | zero => exact absurd HA.out (by simp [spec_l02Paint.l3])
              | succ k4 =>
               have H := HA.out
               clear HA
               simp only [spec_l02Paint.l3] at H
               replace H := Option.bind_eq_some_iff.mp H
               obtain ⟨t164, A200, H⟩ := H
               have A20 := Aside0.mk A200
               clear A200
               by_cases c21 : x8_4 < t164
               ·rw [if_pos c21] at H
                have c21b0 : decide (x8_4 < t164) = true := decide_eq_true c21
                clear c21
                by_cases c22 : 0 ≤ x6_3
                ·rw [if_pos c22] at H
                 have c22b0 : decide (0 ≤ x6_3) = true := decide_eq_true c22
                 clear c22
                 by_cases c23 : x6_3 < (l0_0.length : Int)
                 ·rw [if_pos c23] at H
                  have c23b0 : decide (x6_3 < (l0_0.length : Int)) = true := decide_eq_true c23
                  clear c23
                  obtain ⟨ji24, hji24⟩ : ∃ j_ : Int, (wrap64 (((rd_T29 l0_0 x6_3).f0.f0) + x8_4)) = j_ := ⟨_, rfl⟩
                  first | rw [hji24] at H | simp only [hji24] at H
                  (try rw [hji24] at A20)
                  have hji24w : (IntKind.i64.wrap (((rd_T29 l0_0 x6_3).f0.f0) + x8_4)) = ji24 := (i64_w _).trans hji24
                  by_cases c25 : 0 ≤ (ji24)
                  ·rw [if_pos c25] at H
                   have c25b0 : decide (0 ≤ (ji24)) = true := decide_eq_true c25
                   clear c25
                   by_cases c26 : (ji24) < (x3_4.length : Int)
                   ·rw [if_pos c26] at H
                    have c26b0 : decide ((ji24) < (x3_4.length : Int)) = true := decide_eq_true c26
                    clear c26
                    obtain ⟨y166, hy166⟩ : ∃ y_ : List Int, y_ = (x3_4.set ((ji24) : Int).toNat ((rd_T29 l0_0 x6_3).f1)) := ⟨_, rfl⟩
                    replace H : (spec_l02Paint.l3 k4 y166 x5_2 x6_3 (wrap64 (x8_4 + 1)) l0_0 ((rd_T29 l0_0 x6_3).f0.f0) ((rd_T29 l0_0 x6_3).f0.f1)) = some r := by first | (rw [hy166]; with_reducible exact H) | (have H2_ := (Option.bind_some _ _).symm.trans H; rw [hy166]; with_reducible exact H2_) | (have H2_ := (Option.bind_some _ _).symm.trans H; with_reducible exact H2_) | with_reducible exact H | (rw [hy166]; exact H) | exact H
                    have Ny166 := Aside0.mk hy166
                    clear hy166
                    have H' := Aside0.mk H
                    clear H
                    try go_wp2_with (first | ((with_reducible refine gate_callee (f := 74) rfl ?_); refine gl_ (some 40) Try.func74 #[.int .i64 x5_2] ?_; (with_reducible refine (spec_l01Size2.calls x5_2 t164 _ A20.out).mono ?_); rintro e w' ⟨rfl, ⟨nd, rfl⟩⟩; refine ⟨_, rfl, ?_⟩; (try (rw [drewN_self wr]; generalize hq_ : World.drewN wr _ = wr; replace HO_3 : Aside0 (Kd.R (Kd.int .i64) 3 wr w.heap.size (fun _ => True) v159 x3_4) := ⟨by rw [← hq_]; exact (hd_ HO_3)⟩; replace BK157 : Aside0 (wr.heap[gb157]? = some (.cells #[.slice (some ad162) l0_0.length c0_0] 34 (0, 0))) := ⟨by rw [← hq_]; exact (by (with_reducible repeat (first | refine blk_drewN ?_ _ | refine blk_drew ?_ | refine blk_alloc ?_ _)); exact BK157.out)⟩; replace BK163 : Aside0 (wr.heap[gb163]? = some (.cells #[.int .i64 ((rd_T29 l0_0 x6_3).f0.f0), .int .i64 ((rd_T29 l0_0 x6_3).f0.f1)] 27 (0, 0))) := ⟨by rw [← hq_]; exact (by (with_reducible repeat (first | refine blk_drewN ?_ _ | refine blk_drew ?_ | refine blk_alloc ?_ _)); exact BK163.out)⟩; replace HB : Aside0 (Below w.heap.size w wr) := ⟨by rw [← hq_]; exact (by repeat (first | (with_reducible first | exact HB.out | apply below_alloc | apply pw_below_drewN | apply below_drew1 | refine below_set ?_ GE157.out | refine below_set ?_ GE163.out) | exact HB.out))⟩; clear hq_))))
                    replace HO_3 := Aside0.mk (Kd.R_drew HO_3.out)
                    replace BK157 := Aside0.mk (blk_drew BK157.out)
                    replace BK163 := Aside0.mk (blk_drew BK163.out)
                    replace HB := Aside0.mk (below_drew1 HB.out)
                    have p165 : 0 ≤ (x6_3 : Int) := of_decide_eq_true (by first | (with_reducible assumption) | assumption)
                    have q165 : x6_3 < (l0_0.length : Int) := of_decide_eq_true (by first | (with_reducible assumption) | assumption)
                    obtain ⟨ad165, e165, hx165_0, hx165_1, hx165_2⟩ := at_T29 HR0_0.out x6_3 p165 q165
                    have hw165_2 := hx165_2
                    have hw165_1 := hx165_1
                    have hw165_0 := hx165_0
                    obtain rfl : ad162 = ad165 := (by injection e165)
                    replace hx165_0 := (HB.out.cell (World.block_lt_of_cell? w _ hx165_0)).trans hx165_0
                    replace hx165_1 := (HB.out.cell (World.block_lt_of_cell? w _ hx165_1)).trans hx165_1
                    replace hx165_2 := (HB.out.cell (World.block_lt_of_cell? w _ hx165_2)).trans hx165_2
                    replace p165 := eq_true p165
                    replace q165 := eq_true q165
                    have p27 : 0 ≤ ((ji24) : Int) := of_decide_eq_true (by first | (with_reducible assumption) | assumption)
                    have q27 : ((ji24) : Int) < ((x3_4.length : Int) : Int) := of_decide_eq_true (by first | (with_reducible assumption) | assumption)
                    obtain ⟨go27, co27, eo27, gb27, gl27, cl27, HG27⟩ := Kd.R_form HO_3.out (by omega)
                    (first | cases eo27 | (injection eo27 with ea_ en_ ec_; (first | subst ea_ | (injection ea_ with ea_; subst ea_)); subst ec_; clear en_))
                    have GB27 := Aside0.mk gb27
                    have GG27 := Aside0.mk HG27
                    clear gb27 gl27 HG27
                    obtain ⟨hx27_0, hf27_0⟩ := Kd.R_celln 0 HO_3.out ((ji24) : Int) p27 q27
                    replace p27 := eq_true p27
                    replace q27 := eq_true q27
                    have HP29 := Kd.R_putn HO_3.out ((ji24) : Int) ((rd_T29 l0_0 x6_3).f1)
                    rw [← Ny166.out] at HP29
                    have HQ29 := Aside0.mk HP29
                    clear HP29
                    refine start_ (n := 13) (S := fun w' => w'.cell? ⟨gb163, 0, none⟩ = some (.int .i64 ((rd_T29 l0_0 x6_3).f0.f0)) ∧ w'.cell? ⟨gb163, 1, none⟩ = some (.int .i64 ((rd_T29 l0_0 x6_3).f0.f1)) ∧ w'.cell? ⟨gb157, 0, none⟩ = some (.slice (some ad162) l0_0.length c0_0) ∧ w'.cell? (ad162.add ((x6_3).toNat * 3)) = some (.int .i64 ((rd_T29 l0_0 x6_3).f0.f0)) ∧ w'.cell? ⟨(ad162.add ((x6_3).toNat * 3)).block, (ad162.add ((x6_3).toNat * 3)).off + 1, none⟩ = some (.int .i64 ((rd_T29 l0_0 x6_3).f0.f1)) ∧ w'.cell? ⟨(ad162.add ((x6_3).toNat * 3)).block, (ad162.add ((x6_3).toNat * 3)).off + 2, none⟩ = some (.int .i64 ((rd_T29 l0_0 x6_3).f1))) (ds := [12]) ba4_0 (by kernel_rfl) rfl rfl ⟨(blk_cell BK163.out 0).trans rfl, (blk_cell BK163.out 1).trans rfl, (blk_cell BK157.out 0).trans rfl, (hc_ HB hw165_0), (hc_ HB hw165_1), (hc_ HB hw165_2)⟩ (fun hHeld => ?_); refine with_tabW spec_l02Paint.tab17 spec_l02Paint.bits17 (fun HT_ HW_ => ?_)
                    generalize wr.drew = w28 at HO_3 BK157 BK163 HB GG27 HQ29 hf27_0 hx165_0 hx165_1 hx165_2 hx27_0 hHeld ⊢
                    refine pz_ 0 44 ba4_1 HT_ ?_
                    refine pz_ 1 45 ba4_2 HT_ ?_
                    refine pz_ 3 47 ba4_3 HT_ ?_
                    refine pz_ 5 49 ba4_4 HT_ ?_
                    refine pz_ 7 51 ba4_5 HT_ ?_
                    refine pt_ 2 46 ba4_6 HT_ HW_ hHeld ?_
                    refine pz_ 4 48 ba4_7 HT_ ?_
                    refine pt_ 6 50 ba4_8 HT_ HW_ hHeld ?_
                    refine pz_ 8 52 ba4_9 HT_ ?_
                    refine pz_ 9 53 ba4_10 HT_ ?_
                    refine pt_ 10 54 ba4_11 HT_ HW_ hHeld ?_
                    refine pz_ 11 55 ba4_12 HT_ ?_
                    refine last_ (i := 12) (N := none) ba4_13 rfl rfl (one_of HT_.out (by kernel_rfl)) (by decide) (fun K hK => ?_)
                    refine skip_ (w1 := ?_) (by rfl) rfl ?_ ?_
                    rotate_left; · go_simp; rfl
                    refine hK.out _ _ ?_
                    clear hK K
                    refine done_ (done_of HT_.out (by kernel_rfl)) ?_
                    try go_wp2
                    go_roundg k4
                    case measure => have := HK1.out; have := HK2.out; have := HK3.out; have := HK4.out; omega
                    case rel => exact ⟨(y166), (wrap64 (x8_4 + 1)), (by first | rfl | (simp; done) | (simp [*]; done)), H', ⟨by have := HK1.out; have := HK2.out; have := HK3.out; have := HK4.out; omega⟩, ⟨by (with_reducible repeat (first | apply Kd.R_alloc | apply Kd.R_drewN | apply Kd.R_drew)); exact HQ29.out⟩, ⟨by (with_reducible repeat (first | refine blk_drewN ?_ _ | refine blk_drew ?_ | refine blk_alloc ?_ _)); refine blk_far ?_ (by have h_ := Kd.R_ne HO_3.out BK157.out (by decide); intro e_; exact h_ (by rw [e_]; rfl)) _; (with_reducible repeat (first | refine blk_drewN ?_ _ | refine blk_drew ?_ | refine blk_alloc ?_ _)); exact BK157.out⟩, ⟨by (with_reducible repeat (first | refine blk_drewN ?_ _ | refine blk_drew ?_ | refine blk_alloc ?_ _)); refine blk_far ?_ (by have h_ := Kd.R_ne HO_3.out BK163.out (by decide); intro e_; exact h_ (by rw [e_]; rfl)) _; (with_reducible repeat (first | refine blk_drewN ?_ _ | refine blk_drew ?_ | refine blk_alloc ?_ _)); exact BK163.out⟩, ⟨by repeat (first | (with_reducible first | exact HB.out | apply below_alloc | apply pw_below_drewN | apply below_drew1 | refine below_set ?_ GB27.out | refine below_set ?_ GE157.out | refine below_set ?_ GE163.out) | exact HB.out)⟩⟩
                   ·rw [if_neg c26] at H
                    exact absurd H (by simp)
                  ·rw [if_neg c25] at H
                   exact absurd H (by simp)
                 ·rw [if_neg c23] at H
                  exact absurd H (by simp)
                ·rw [if_neg c22] at H
                 exact absurd H (by simp)
               ·rw [if_neg c21] at H
                have c21b0 : decide (x8_4 < t164) = false := decide_eq_false c21
                clear c21
                have H' := Aside0.mk H
                clear H
                go_wp2_with (first | ((with_reducible refine gate_callee (f := 74) rfl ?_); refine gl_ (some 40) Try.func74 #[.int .i64 x5_2] ?_; (with_reducible refine (spec_l01Size2.calls x5_2 t164 _ A20.out).mono ?_); rintro e w' ⟨rfl, ⟨nd, rfl⟩⟩; refine ⟨_, rfl, ?_⟩))
                go_roundg k4
                case measure => have := HK1.out; have := HK2.out; have := HK3.out; have := HK4.out; omega
                case rel => exact ⟨(x3_4), (wrap64 (x6_3 + 1)), (by first | rfl | (simp; done) | (simp [*]; done)), H', ⟨by have := HK1.out; have := HK2.out; have := HK3.out; have := HK4.out; omega⟩, ⟨by (with_reducible repeat (first | apply Kd.R_alloc | apply Kd.R_drewN | apply Kd.R_drew)); exact HO_3.out⟩, ⟨by (with_reducible repeat (first | refine blk_drewN ?_ _ | refine blk_drew ?_ | refine blk_alloc ?_ _)); exact BK157.out⟩, ⟨by repeat (first | (with_reducible first | exact HB.out | apply below_alloc | apply pw_below_drewN | apply below_drew1 | refine below_set ?_ GE157.out | refine below_set ?_ GE163.out) | exact HB.out)⟩⟩
            ·rw [if_neg c15] at H
             have c15b0 : (((rd_T29 l0_0 x6_3).f0.f1) == x5_2) = false := beq_eq_false_iff_ne.mpr c15
             have c15b1 : (((rd_T29 l0_0 x6_3).f0.f1) != x5_2) = true := bne_iff_ne.mpr c15
             have H' := Aside0.mk H
             clear H
             have hcz30_0 := cz_ BK157 0 (.slice A0_0 l0_0.length c0_0)
             have hfz30_0 := blk_frozen BK157.out 0
             have p162 : 0 ≤ (x6_3 : Int) := of_decide_eq_true (by first | (with_reducible assumption) | assumption)
             have q162 : x6_3 < (l0_0.length : Int) := of_decide_eq_true (by first | (with_reducible assumption) | assumption)
             obtain ⟨ad162, e162, hx162_0, hx162_1, hx162_2⟩ := at_T29 HR0_0.out x6_3 p162 q162
             cases e162
             replace hx162_0 := (HB.out.cell (World.block_lt_of_cell? w _ hx162_0)).trans hx162_0
             replace hx162_1 := (HB.out.cell (World.block_lt_of_cell? w _ hx162_1)).trans hx162_1
             replace hx162_2 := (HB.out.cell (World.block_lt_of_cell? w _ hx162_2)).trans hx162_2
             replace p162 := eq_true p162
             replace q162 := eq_true q162
             go_wp2_with (first | ((with_reducible refine gate_dst (N := 7) rfl ?_); refine box_event ?hg (N := 7) ?hd (cs := #[.int .i64 0, .int .i64 0]) (t := 27) ?hr ?_; (case hd => rfl); (case hg => rfl); (case hr => first | (go_simp; done) | (go_simp; rfl)); intro gb163 hg w31 hbox hb; have BK163 := Aside0.mk hbox; have GW163 := ge_ HB hg; have GE163 := ge_ HB hg; have NB157_163 := nl_ BK157 hg; have NB163_157 := ng_ BK157 hg; replace HO_3 := rb_ HO_3 hb; replace HB := Aside0.mk (bt_ HB hb); replace BK157 := Aside0.mk (bb_ BK157 hb); clear hb hbox hg; have hnb32 := NB163_157.out; have hnc32 := NB157_163.out; have hcz33_0 := cz_ BK163 0 (.int .i64 0); have hcz33_1 := cz_ BK163 1 (.int .i64 0); have hfz33_0 := blk_frozen BK163.out 0; have hfz33_1 := blk_frozen BK163.out 1))
             go_roundg k3
             case measure => have := HK1.out; have := HK2.out; have := HK3.out; omega
             case rel => exact ⟨(x3_3), (wrap64 (x6_3 + 1)), (by first | rfl | (simp; done) | (simp [*]; done)), H', ⟨by have := HK1.out; have := HK2.out; have := HK3.out; omega⟩, ⟨by (with_reducible repeat (first | apply Kd.R_alloc | apply Kd.R_drewN | apply Kd.R_drew)); exact Kd.R_mono (Kd.R_far (p := ⟨gb163, 1, none⟩) (Kd.R_far (p := ⟨gb163, 0, none⟩) (Kd.R_types HO_3.out BK163.out (by decide)) (fun _ hk => hk.2) (.int .i64 ((rd_T29 l0_0 x6_3).f0.f0))) (fun _ hk => hk.2) (.int .i64 ((rd_T29 l0_0 x6_3).f0.f1))) (fun _ hk => trivial)⟩, ⟨by (with_reducible repeat (first | refine blk_drewN ?_ _ | refine blk_drew ?_ | refine blk_alloc ?_ _)); refine blk_far ?_ NB157_163.out _; (with_reducible repeat (first | refine blk_drewN ?_ _ | refine blk_drew ?_ | refine blk_alloc ?_ _)); refine blk_far ?_ NB157_163.out _; (with_reducible repeat (first | refine blk_drewN ?_ _ | refine blk_drew ?_ | refine blk_alloc ?_ _)); exact BK157.out⟩, ⟨by repeat (first | (with_reducible first | exact HB.out | apply below_alloc | apply pw_below_drewN | apply below_drew1 | refine below_set ?_ GE157.out | refine below_set ?_ GE163.out) | exact HB.out)⟩⟩
           ·rw [if_neg c14] at H
            exact absurd H (by simp)
          ·rw [if_neg c13] at H
           have c13b0 : decide (x6_3 < (l0_0.length : Int)) = false := decide_eq_false c13
           clear c13
           have H' := Aside0.mk H
           clear H
           have hcz34_0 := cz_ BK157 0 (.slice A0_0 l0_0.length c0_0)
           have hfz34_0 := blk_frozen BK157.out 0
           go_wp2
           go_roundg k3
           case measure => have := HK1.out; have := HK2.out; have := HK3.out; omega
           case rel => exact ⟨(x3_3), (wrap64 (x5_2 + 1)), (by first | rfl | (simp; done) | (simp [*]; done)), H', ⟨by have := HK1.out; have := HK2.out; have := HK3.out; omega⟩, ⟨by (with_reducible repeat (first | apply Kd.R_alloc | apply Kd.R_drewN | apply Kd.R_drew)); exact HO_3.out⟩, ⟨by (with_reducible repeat (first | refine blk_drewN ?_ _ | refine blk_drew ?_ | refine blk_alloc ?_ _)); exact BK157.out⟩, ⟨by repeat (first | (with_reducible first | exact HB.out | apply below_alloc | apply pw_below_drewN | apply below_drew1 | refine below_set ?_ GE157.out) | exact HB.out)⟩⟩
       ·rw [if_neg c12] at H
        have c12b0 : decide (x5_2 ≤ 16) = false := decide_eq_false c12
        clear c12
        obtain rfl := Option.some.inj H
        go_wp2
        go_ret
        exact ⟨_, by first | rfl | (simp [errW_none, errW_some] <;> rfl) | (simp [*, errW_none, errW_some] <;> rfl), by (with_reducible repeat (first | apply Kd.R_alloc | apply Kd.R_drewN | apply Kd.R_drew)); exact HO_3.out, by repeat (first | (with_reducible first | exact HB.out | apply below_alloc | apply pw_below_drewN | apply below_drew1 | refine below_set ?_ GE157.out) | exact HB.out)⟩
 ·rw [if_neg c2] at H
  exact absurd H (by simp)

/-! ### spec_TableSpans: function 32 -/
def spec_TableSpans.l0 : Nat → List Int → List Int → Int → Option (List Int)
 | 0, _, _, _ => none
 | k + 1, x3, x4, x5 => if x5 < 65536 then (if x5 = 0 then (if x3.length < 17592186044416 then (spec_TableSpans.l0 k (x3 ++ [x5]) x4 (wrap64 (x5 + 1))) else (none)) else (if 0 ≤ x5 then (if x5 < (x4.length : Int) then (if 0 ≤ (wrap64 (x5 - 1)) then (if (wrap64 (x5 - 1)) < (x4.length : Int) then (if (rd x4 x5) = (rd x4 (wrap64 (x5 - 1))) then (spec_TableSpans.l0 k x3 x4 (wrap64 (x5 + 1))) else (if x3.length < 17592186044416 then (spec_TableSpans.l0 k (x3 ++ [x5]) x4 (wrap64 (x5 + 1))) else (none))) else (none)) else (none)) else (none)) else (none))) else (some x3)
def spec_TableSpans.f (k : Nat) (l0_0 : List (S29)) : Option (List Int) := (spec_TableOk.f k l0_0).bind fun t171 => (if t171 = true then ((spec_l02Paint.f k l0_0).bind fun t172 => (spec_TableSpans.l0 k (([] : List Int)) t172 0)) else (some ([] : List Int)))
theorem spec_TableSpans.mono_l : ∀ k, (∀ y0 y1 y2, LeO (spec_TableSpans.l0 k y0 y1 y2) (spec_TableSpans.l0 (k + 1) y0 y1 y2))
 | 0 => fun _ _ _ r h => by simp [spec_TableSpans.l0] at h
 | k + 1 => by
  have ih0 := spec_TableSpans.mono_l k
  ·intro y0 y1 y2
   unfold spec_TableSpans.l0
   repeat' first
   | (with_reducible exact ih0 _ _ _)
   | (with_reducible exact spec_TableOk.mono _ _)
   | (with_reducible exact spec_l02Paint.mono _ _)
   | (with_reducible exact LeO.refl _)
   | (with_reducible exact LeO.none _)
   | (with_reducible refine LeO.ite ?_ ?_)
   | (with_reducible refine LeO.bind ?_ (fun _ => ?_))
   | exact ih0 _ _ _
   | exact spec_TableOk.mono _ _
   | exact spec_l02Paint.mono _ _
   | exact LeO.none _
   | refine LeO.ite ?_ ?_
   | refine LeO.bind ?_ (fun _ => ?_)
theorem spec_TableSpans.mono : ∀ a0 k, LeO (spec_TableSpans.f k a0) (spec_TableSpans.f (k + 1) a0) := by
 intro a0 k
 have ih0 := spec_TableSpans.mono_l k
 unfold spec_TableSpans.f
 repeat' first
   | (with_reducible exact ih0 _ _ _)
   | (with_reducible exact spec_TableOk.mono _ _)
   | (with_reducible exact spec_l02Paint.mono _ _)
   | (with_reducible exact LeO.refl _)
   | (with_reducible exact LeO.none _)
   | (with_reducible refine LeO.ite ?_ ?_)
   | (with_reducible refine LeO.bind ?_ (fun _ => ?_))
   | exact ih0 _ _ _
   | exact spec_TableOk.mono _ _
   | exact spec_l02Paint.mono _ _
   | exact LeO.none _
   | refine LeO.ite ?_ ?_
   | refine LeO.bind ?_ (fun _ => ?_)
set_option maxHeartbeats 8000000 in
set_option maxRecDepth 100000 in
theorem spec_TableSpans.calls (k : Nat) (A0_0 : Option Addr) (c0_0 : Nat) (l0_0 : List (S29)) (r : List Int) (w : World) (hr0_0 : Kd.C k29 w A0_0 l0_0.length l0_0) (hc0_0 : l0_0.length ≤ c0_0) (h : spec_TableSpans.f k l0_0 = some r) :
  Calls Try.prog 32 #[.agg #[.slice A0_0 l0_0.length c0_0]] w fun e w' => ∃ v0_ : Value, e = .returned (v0_) ∧ Kd.R (Kd.int .i64) 3 w' w.heap.size (fun _ => True) v0_ r ∧ Below w.heap.size w w' := by
 have hu34 := Try.underlying34
 have HR0_0 := Aside0.mk hr0_0
 have HC0_0 := Aside0.mk hc0_0
 clear hr0_0 hc0_0
 have HB := Aside0.mk (Below.refl w.heap.size w)
 have H : ((spec_TableOk.f k l0_0).bind fun t171 => (if t171 = true then ((spec_l02Paint.f k l0_0).bind fun t172 => (spec_TableSpans.l0 k (([] : List Int)) t172 0)) else (some ([] : List Int)))) = some r := h
 clear h
 obtain ⟨y168, hy168⟩ : ∃ y_ : List Int, y_ = (([] : List Int)) := ⟨_, rfl⟩
 replace H : ((spec_TableOk.f k l0_0).bind fun t171 => (if t171 = true then ((spec_l02Paint.f k l0_0).bind fun t172 => (spec_TableSpans.l0 k y168 t172 0)) else (some ([] : List Int)))) = some r := by first | (rw [hy168]; with_reducible exact H) | (have H2_ := (Option.bind_some _ _).symm.trans H; rw [hy168]; with_reducible exact H2_) | (have H2_ := (Option.bind_some _ _).symm.trans H; with_reducible exact H2_) | with_reducible exact H | (rw [hy168]; exact H) | exact H
 have Ny168 := Aside0.mk hy168
 clear hy168
 replace H := Option.bind_eq_some_iff.mp H
 obtain ⟨t171, A20, H⟩ := H
 have A2 := Aside0.mk A20
 clear A20
 by_cases c3 : t171 = true
 ·subst c3
  rw [if_pos rfl] at H
  replace H := Option.bind_eq_some_iff.mp H
  obtain ⟨t172, A40, H⟩ := H
  have A4 := Aside0.mk A40
  clear A40
  have H' := Aside0.mk H
  clear H
  go_enter Try.func32, Try.ntmps32
  go_wp2_with (first | ((with_reducible refine gate_dst (N := 1) rfl ?_); refine box_event ?hg (N := 1) ?hd (cs := #[.slice A0_0 l0_0.length c0_0]) (t := 34) ?hr ?_; (case hd => rfl); (case hg => rfl); (case hr => first | (go_simp; done) | (go_simp; rfl)); intro gb167 hg w5 hbox hb; have BK167 := Aside0.mk hbox; have GW167 := ge_ HB hg; have GE167 := ge_ HB hg; replace HB := Aside0.mk (bt_ HB hb); clear hb hbox hg) | ((with_reducible refine gate_dst (N := 6) rfl ?_); refine Kd.R_lit (Kd.int .i64) _ 3 ?hg (N := 6) ?hd (xs := ([] : List Int)) (inner := []) (ok := fun _ => True) (okp := fun _ => True) ?hr ?hp (fun _ hk => hk) trivial (Below.refl _ _) (Nat.le_refl _) (by simp) ?_; (case hd => rfl); (case hg => rfl); (case hr => first | (go_simp; done) | (go_simp; rfl)); (case hp => exact (Reps.none _ _)); intro v169 w6 ho7 hb hg_ hnew_; clear hg_ hnew_; (first | rw [← Ny168.out] at ho7 | (simp only [Int.reduceToNat] at ho7; rw [← Ny168.out] at ho7)); have HO170 := Aside0.mk (Kd.R_lower ho7 (bz_ HB)); replace BK167 := Aside0.mk (bb_ BK167 hb); replace HB := Aside0.mk (bt_ HB hb); clear hb ho7; have hcz8_0 := cz_ BK167 0 (.slice A0_0 l0_0.length c0_0); have hfz8_0 := blk_frozen BK167.out 0) | (go_at_call 42; (with_reducible refine (spec_TableOk.calls k _ _ l0_0 true _ ?side1 ?side2 A2.out).mono ?_); (case side1 => exact cb_ HR0_0 HB); (case side2 => exact HC0_0.out); rintro e w9 ⟨rfl, hb⟩; replace HO170 := rb_ HO170 hb; replace BK167 := Aside0.mk (bb_ BK167 hb); replace HB := Aside0.mk (bt_ HB hb); (try clear hb); (try clear hb2); (try clear hk); (try clear hi); have hcz10_0 := cz_ BK167 0 (.slice A0_0 l0_0.length c0_0); have hfz10_0 := blk_frozen BK167.out 0) | (go_at_call 63; (with_reducible refine (spec_l02Paint.calls k _ _ l0_0 t172 _ ?side1 ?side2 A4.out).mono ?_); (case side1 => exact cb_ HR0_0 HB); (case side2 => exact HC0_0.out); rintro e w11 ⟨v173, rfl, ho0, hb⟩; have HO174 := Aside0.mk (Kd.R_lower (Kd.R_new' ho0 (Kd.R_lt (hd_ HO170))) (bz_ HB)); replace HO170 := Aside0.mk (Kd.R_elder' (hd_ HO170) (Kd.R_base ho0) hb); replace BK167 := Aside0.mk (bb_ BK167 hb); replace HB := Aside0.mk (bt_ HB hb); (try clear hb); (try clear hb2); (try clear hk); (try clear hi); (try clear ho0)))
  repeat (go_quiet (first | ((with_reducible refine gate_dst (N := 1) rfl ?_); refine box_event ?hg (N := 1) ?hd (cs := #[.slice A0_0 l0_0.length c0_0]) (t := 34) ?hr ?_; (case hd => rfl); (case hg => rfl); (case hr => first | (go_simp; done) | (go_simp; rfl)); intro gb167 hg w5 hbox hb; have BK167 := Aside0.mk hbox; have GW167 := ge_ HB hg; have GE167 := ge_ HB hg; replace HB := Aside0.mk (bt_ HB hb); clear hb hbox hg) | ((with_reducible refine gate_dst (N := 6) rfl ?_); refine Kd.R_lit (Kd.int .i64) _ 3 ?hg (N := 6) ?hd (xs := ([] : List Int)) (inner := []) (ok := fun _ => True) (okp := fun _ => True) ?hr ?hp (fun _ hk => hk) trivial (Below.refl _ _) (Nat.le_refl _) (by simp) ?_; (case hd => rfl); (case hg => rfl); (case hr => first | (go_simp; done) | (go_simp; rfl)); (case hp => exact (Reps.none _ _)); intro v169 w6 ho7 hb hg_ hnew_; clear hg_ hnew_; (first | rw [← Ny168.out] at ho7 | (simp only [Int.reduceToNat] at ho7; rw [← Ny168.out] at ho7)); have HO170 := Aside0.mk (Kd.R_lower ho7 (bz_ HB)); replace BK167 := Aside0.mk (bb_ BK167 hb); replace HB := Aside0.mk (bt_ HB hb); clear hb ho7; have hcz8_0 := cz_ BK167 0 (.slice A0_0 l0_0.length c0_0); have hfz8_0 := blk_frozen BK167.out 0) | (go_at_call 42; (with_reducible refine (spec_TableOk.calls k _ _ l0_0 true _ ?side1 ?side2 A2.out).mono ?_); (case side1 => exact cb_ HR0_0 HB); (case side2 => exact HC0_0.out); rintro e w9 ⟨rfl, hb⟩; replace HO170 := rb_ HO170 hb; replace BK167 := Aside0.mk (bb_ BK167 hb); replace HB := Aside0.mk (bt_ HB hb); (try clear hb); (try clear hb2); (try clear hk); (try clear hi); have hcz10_0 := cz_ BK167 0 (.slice A0_0 l0_0.length c0_0); have hfz10_0 := blk_frozen BK167.out 0) | (go_at_call 63; (with_reducible refine (spec_l02Paint.calls k _ _ l0_0 t172 _ ?side1 ?side2 A4.out).mono ?_); (case side1 => exact cb_ HR0_0 HB); (case side2 => exact HC0_0.out); rintro e w11 ⟨v173, rfl, ho0, hb⟩; have HO174 := Aside0.mk (Kd.R_lower (Kd.R_new' ho0 (Kd.R_lt (hd_ HO170))) (bz_ HB)); replace HO170 := Aside0.mk (Kd.R_elder' (hd_ HO170) (Kd.R_base ho0) hb); replace BK167 := Aside0.mk (bb_ BK167 hb); replace HB := Aside0.mk (bt_ HB hb); (try clear hb); (try clear hb2); (try clear hk); (try clear hi); (try clear ho0))); try go_wp2_with (first | ((with_reducible refine gate_dst (N := 1) rfl ?_); refine box_event ?hg (N := 1) ?hd (cs := #[.slice A0_0 l0_0.length c0_0]) (t := 34) ?hr ?_; (case hd => rfl); (case hg => rfl); (case hr => first | (go_simp; done) | (go_simp; rfl)); intro gb167 hg w5 hbox hb; have BK167 := Aside0.mk hbox; have GW167 := ge_ HB hg; have GE167 := ge_ HB hg; replace HB := Aside0.mk (bt_ HB hb); clear hb hbox hg) | ((with_reducible refine gate_dst (N := 6) rfl ?_); refine Kd.R_lit (Kd.int .i64) _ 3 ?hg (N := 6) ?hd (xs := ([] : List Int)) (inner := []) (ok := fun _ => True) (okp := fun _ => True) ?hr ?hp (fun _ hk => hk) trivial (Below.refl _ _) (Nat.le_refl _) (by simp) ?_; (case hd => rfl); (case hg => rfl); (case hr => first | (go_simp; done) | (go_simp; rfl)); (case hp => exact (Reps.none _ _)); intro v169 w6 ho7 hb hg_ hnew_; clear hg_ hnew_; (first | rw [← Ny168.out] at ho7 | (simp only [Int.reduceToNat] at ho7; rw [← Ny168.out] at ho7)); have HO170 := Aside0.mk (Kd.R_lower ho7 (bz_ HB)); replace BK167 := Aside0.mk (bb_ BK167 hb); replace HB := Aside0.mk (bt_ HB hb); clear hb ho7; have hcz8_0 := cz_ BK167 0 (.slice A0_0 l0_0.length c0_0); have hfz8_0 := blk_frozen BK167.out 0) | (go_at_call 42; (with_reducible refine (spec_TableOk.calls k _ _ l0_0 true _ ?side1 ?side2 A2.out).mono ?_); (case side1 => exact cb_ HR0_0 HB); (case side2 => exact HC0_0.out); rintro e w9 ⟨rfl, hb⟩; replace HO170 := rb_ HO170 hb; replace BK167 := Aside0.mk (bb_ BK167 hb); replace HB := Aside0.mk (bt_ HB hb); (try clear hb); (try clear hb2); (try clear hk); (try clear hi); have hcz10_0 := cz_ BK167 0 (.slice A0_0 l0_0.length c0_0); have hfz10_0 := blk_frozen BK167.out 0) | (go_at_call 63; (with_reducible refine (spec_l02Paint.calls k _ _ l0_0 t172 _ ?side1 ?side2 A4.out).mono ?_); (case side1 => exact cb_ HR0_0 HB); (case side2 => exact HC0_0.out); rintro e w11 ⟨v173, rfl, ho0, hb⟩; have HO174 := Aside0.mk (Kd.R_lower (Kd.R_new' ho0 (Kd.R_lt (hd_ HO170))) (bz_ HB)); replace HO170 := Aside0.mk (Kd.R_elder' (hd_ HO170) (Kd.R_base ho0) hb); replace BK167 := Aside0.mk (bb_ BK167 hb); replace HB := Aside0.mk (bt_ HB hb); (try clear hb); (try clear hb2); (try clear hk); (try clear hi); (try clear ho0))))
  go_loopg [3, 5] k (fun kq v3 v5 w' => ∃ (x3_1 : List Int) (x5_1 : Int), v5 = .int .i64 x5_1 ∧ Aside0 (spec_TableSpans.l0 kq x3_1 t172 x5_1 = some r) ∧ Aside0 (kq ≤ k) ∧ Aside0 (Kd.R (Kd.int .i64) 3 w' w.heap.size (fun k_ => some k_ ≠ (v173 : Value).ownBlock) v3 x3_1) ∧ Aside0 (Kd.R (Kd.int .i64) 3 w' w.heap.size (fun k_ => some k_ ≠ (v3 : Value).ownBlock) v173 t172) ∧ Aside0 (w'.heap[gb167]? = some (.cells #[(.slice A0_0 l0_0.length c0_0)] 34 (0, 0))) ∧ Aside0 (Below w.heap.size w w'))
  case atStart => exact ⟨(y168), (0), (by first | rfl | (simp; done) | (simp [*]; done)), H', ⟨Nat.le_refl _⟩, ⟨by (with_reducible repeat (first | apply Kd.R_alloc | apply Kd.R_drewN | apply Kd.R_drew)); exact Kd.R_mono HO170.out (fun _ hk => hk.2)⟩, ⟨by (with_reducible repeat (first | apply Kd.R_alloc | apply Kd.R_drewN | apply Kd.R_drew)); exact Kd.R_mono HO174.out (fun _ hk => hk.2)⟩, ⟨by (with_reducible repeat (first | refine blk_drewN ?_ _ | refine blk_drew ?_ | refine blk_alloc ?_ _)); exact BK167.out⟩, ⟨by repeat (first | (with_reducible first | exact HB.out | apply below_alloc | apply pw_below_drewN | apply below_drew1 | refine below_set ?_ GE167.out) | exact HB.out)⟩⟩
  case round =>
   clear H'
   try clear p2
   try clear c3
   try clear hcz10_0
   try clear hcz8_0
   try clear hfz10_0
   try clear hfz8_0
   obtain ⟨x3_1, x5_1, rfl, HA, HK1, HO_3, HO_4, BK167, HB⟩ := hrel
   cases gk with
   | zero => exact absurd HA.out (by simp [spec_TableSpans.l0])
   | succ k1 =>
    have H := HA.out
    clear HA
    simp only [spec_TableSpans.l0] at H
    by_cases c12 : x5_1 < 65536
    ·rw [if_pos c12] at H
     have c12b0 : decide (x5_1 < 65536) = true := decide_eq_true c12
     clear c12
     by_cases c13 : x5_1 = 0
     ·rw [if_pos c13] at H
      have c13b0 : (x5_1 == 0) = true := beq_iff_eq.mpr c13
      have c13b1 : (x5_1 != 0) = false := bne_eq_false_iff_eq.mpr c13
      clear c13
      by_cases c14 : x3_1.length < 17592186044416
      ·rw [if_pos c14] at H
       have LMc14 := Aside0.mk c14
       clear c14
       obtain ⟨y175, hy175⟩ : ∃ y_ : List Int, y_ = (x3_1 ++ [x5_1]) := ⟨_, rfl⟩
       replace H : (spec_TableSpans.l0 k1 y175 t172 (wrap64 (x5_1 + 1))) = some r := by first | (rw [hy175]; with_reducible exact H) | (have H2_ := (Option.bind_some _ _).symm.trans H; rw [hy175]; with_reducible exact H2_) | (have H2_ := (Option.bind_some _ _).symm.trans H; with_reducible exact H2_) | with_reducible exact H | (rw [hy175]; exact H) | exact H
       have Ny175 := Aside0.mk hy175
       clear hy175
       have H' := Aside0.mk H
       clear H
       go_wp2_with (first | ((with_reducible refine gate_builtin (b := .append) (xs := #[.tmp 30, .tmp 32]) rfl ?_); at_builtin; refine Kd.R_append (Kd.int .i64) (w0 := w) w.heap.size rfl (.tmp 30) (.tmp 32) 53 3 (.int .i64 0) 8 rfl Try.underlying53 info3 rfl (by decide) (by omega) u3 x3_1 x5_1 [.int .i64 x5_1] (fun k_ => some k_ ≠ (v173 : Value).ownBlock) (fun _ => False) rfl rfl ?aP (fun _ hk => hk.elim) ?aF ?aO ?aB ?aS ?aL ?_; (case aP => exact rfl); (case aB => exact (by repeat (first | (with_reducible first | exact HB.out | apply below_alloc | apply pw_below_drewN | apply below_drew1 | refine below_set ?_ GE167.out) | exact HB.out))); (case aF => exact (fun k_ hk => Kd.fresh' (Kd.R_lt (hd_ HO_4)) k_ hk)); (case aO => exact (hd_ HO_3)); (case aS => exact (bz_ HB)); (case aL => have := LMc14.out; omega); intro v176 w15 ho hb hg hat; rw [← Ny175.out] at ho; have HO177 := Aside0.mk ho; replace HO_4 := Aside0.mk (Kd.R_after (ok := (fun _ => True)) (by (with_reducible repeat (first | apply Kd.R_alloc | apply Kd.R_drewN | apply Kd.R_drew)); exact Kd.R_mono HO_4.out (fun _ hk => by first | exact ⟨trivial, hk⟩ | grind)) hg hat); replace BK167 := Aside0.mk (blk_grown (g := gb167) (o := .cells #[.slice A0_0 l0_0.length c0_0] 34 (0, 0)) (by (with_reducible repeat (first | refine blk_drewN ?_ _ | refine blk_drew ?_ | refine blk_alloc ?_ _)); exact BK167.out) hg (Kd.R_ne HO_3.out BK167.out (by decide))); replace HB := Aside0.mk (hb); clear HO_3; clear ho hb hg hat))
       repeat (go_quiet (first | ((with_reducible refine gate_builtin (b := .append) (xs := #[.tmp 30, .tmp 32]) rfl ?_); at_builtin; refine Kd.R_append (Kd.int .i64) (w0 := w) w.heap.size rfl (.tmp 30) (.tmp 32) 53 3 (.int .i64 0) 8 rfl Try.underlying53 info3 rfl (by decide) (by omega) u3 x3_1 x5_1 [.int .i64 x5_1] (fun k_ => some k_ ≠ (v173 : Value).ownBlock) (fun _ => False) rfl rfl ?aP (fun _ hk => hk.elim) ?aF ?aO ?aB ?aS ?aL ?_; (case aP => exact rfl); (case aB => exact (by repeat (first | (with_reducible first | exact HB.out | apply below_alloc | apply pw_below_drewN | apply below_drew1 | refine below_set ?_ GE167.out) | exact HB.out))); (case aF => exact (fun k_ hk => Kd.fresh' (Kd.R_lt (hd_ HO_4)) k_ hk)); (case aO => exact (hd_ HO_3)); (case aS => exact (bz_ HB)); (case aL => have := LMc14.out; omega); intro v176 w15 ho hb hg hat; rw [← Ny175.out] at ho; have HO177 := Aside0.mk ho; replace HO_4 := Aside0.mk (Kd.R_after (ok := (fun _ => True)) (by (with_reducible repeat (first | apply Kd.R_alloc | apply Kd.R_drewN | apply Kd.R_drew)); exact Kd.R_mono HO_4.out (fun _ hk => by first | exact ⟨trivial, hk⟩ | grind)) hg hat); replace BK167 := Aside0.mk (blk_grown (g := gb167) (o := .cells #[.slice A0_0 l0_0.length c0_0] 34 (0, 0)) (by (with_reducible repeat (first | refine blk_drewN ?_ _ | refine blk_drew ?_ | refine blk_alloc ?_ _)); exact BK167.out) hg (Kd.R_ne HO_3.out BK167.out (by decide))); replace HB := Aside0.mk (hb); clear HO_3; clear ho hb hg hat)); try go_wp2_with (first | ((with_reducible refine gate_builtin (b := .append) (xs := #[.tmp 30, .tmp 32]) rfl ?_); at_builtin; refine Kd.R_append (Kd.int .i64) (w0 := w) w.heap.size rfl (.tmp 30) (.tmp 32) 53 3 (.int .i64 0) 8 rfl Try.underlying53 info3 rfl (by decide) (by omega) u3 x3_1 x5_1 [.int .i64 x5_1] (fun k_ => some k_ ≠ (v173 : Value).ownBlock) (fun _ => False) rfl rfl ?aP (fun _ hk => hk.elim) ?aF ?aO ?aB ?aS ?aL ?_; (case aP => exact rfl); (case aB => exact (by repeat (first | (with_reducible first | exact HB.out | apply below_alloc | apply pw_below_drewN | apply below_drew1 | refine below_set ?_ GE167.out) | exact HB.out))); (case aF => exact (fun k_ hk => Kd.fresh' (Kd.R_lt (hd_ HO_4)) k_ hk)); (case aO => exact (hd_ HO_3)); (case aS => exact (bz_ HB)); (case aL => have := LMc14.out; omega); intro v176 w15 ho hb hg hat; rw [← Ny175.out] at ho; have HO177 := Aside0.mk ho; replace HO_4 := Aside0.mk (Kd.R_after (ok := (fun _ => True)) (by (with_reducible repeat (first | apply Kd.R_alloc | apply Kd.R_drewN | apply Kd.R_drew)); exact Kd.R_mono HO_4.out (fun _ hk => by first | exact ⟨trivial, hk⟩ | grind)) hg hat); replace BK167 := Aside0.mk (blk_grown (g := gb167) (o := .cells #[.slice A0_0 l0_0.length c0_0] 34 (0, 0)) (by (with_reducible repeat (first | refine blk_drewN ?_ _ | refine blk_drew ?_ | refine blk_alloc ?_ _)); exact BK167.out) hg (Kd.R_ne HO_3.out BK167.out (by decide))); replace HB := Aside0.mk (hb); clear HO_3; clear ho hb hg hat)))
       go_roundg k1
       case measure => have := HK1.out; omega
       case rel => exact ⟨(y175), (wrap64 (x5_1 + 1)), (by first | rfl | (simp; done) | (simp [*]; done)), H', ⟨by have := HK1.out; omega⟩, ⟨by (with_reducible repeat (first | apply Kd.R_alloc | apply Kd.R_drewN | apply Kd.R_drew)); exact HO177.out⟩, ⟨by (with_reducible repeat (first | apply Kd.R_alloc | apply Kd.R_drewN | apply Kd.R_drew)); exact Kd.R_mono HO_4.out (fun _ hk => hk.2)⟩, ⟨by (with_reducible repeat (first | refine blk_drewN ?_ _ | refine blk_drew ?_ | refine blk_alloc ?_ _)); exact BK167.out⟩, ⟨by repeat (first | (with_reducible first | exact HB.out | apply below_alloc | apply pw_below_drewN | apply below_drew1 | refine below_set ?_ GE167.out) | exact HB.out)⟩⟩
      ·rw [if_neg c14] at H
       exact absurd H (by simp)
     ·rw [if_neg c13] at H
      have c13b0 : (x5_1 == 0) = false := beq_eq_false_iff_ne.mpr c13
      have c13b1 : (x5_1 != 0) = true := bne_iff_ne.mpr c13
      by_cases c16 : 0 ≤ x5_1
      ·rw [if_pos c16] at H
       have c16b0 : decide (0 ≤ x5_1) = true := decide_eq_true c16
       clear c16
       by_cases c17 : x5_1 < (t172.length : Int)
       ·rw [if_pos c17] at H
        have c17b0 : decide (x5_1 < (t172.length : Int)) = true := decide_eq_true c17
        clear c17
        obtain ⟨ji18, hji18⟩ : ∃ j_ : Int, (wrap64 (x5_1 - 1)) = j_ := ⟨_, rfl⟩
        first | rw [hji18] at H | simp only [hji18] at H
        have hji18w : (IntKind.i64.wrap (x5_1 - 1)) = ji18 := (i64_w _).trans hji18
        by_cases c19 : 0 ≤ (ji18)
        ·rw [if_pos c19] at H
         have c19b0 : decide (0 ≤ (ji18)) = true := decide_eq_true c19
         clear c19
         by_cases c20 : (ji18) < (t172.length : Int)
         ·rw [if_pos c20] at H
          have c20b0 : decide ((ji18) < (t172.length : Int)) = true := decide_eq_true c20
          clear c20
          by_cases c21 : (rd t172 x5_1) = (rd t172 (ji18))
          ·rw [if_pos c21] at H
           have c21b0 : ((rd t172 x5_1) == (rd t172 (ji18))) = true := beq_iff_eq.mpr c21
           have c21b1 : ((rd t172 x5_1) != (rd t172 (ji18))) = false := bne_eq_false_iff_eq.mpr c21
           clear c21
           have H' := Aside0.mk H
           clear H
           obtain ⟨Ao22, co22, eo22⟩ := Kd.R_slice HO_4.out
           subst eo22
           have p178 : 0 ≤ (x5_1 : Int) := of_decide_eq_true (by first | (with_reducible assumption) | assumption)
           have q178 : x5_1 < (t172.length : Int) := of_decide_eq_true (by first | (with_reducible assumption) | assumption)
           obtain ⟨ad178, e178, hx178_0⟩ := Kd.at_int (Kd.R_reads' HO_4.out).2.2 x5_1 p178 q178
           cases e178
           replace p178 := eq_true p178
           replace q178 := eq_true q178
           have p179 : 0 ≤ ((ji18) : Int) := of_decide_eq_true (by first | (with_reducible assumption) | assumption)
           have q179 : (ji18) < (t172.length : Int) := of_decide_eq_true (by first | (with_reducible assumption) | assumption)
           obtain ⟨ad179, e179, hx179_0⟩ := Kd.at_int (Kd.R_reads' HO_4.out).2.2 (ji18) p179 q179
           obtain rfl : ad178 = ad179 := (by injection e179)
           replace p179 := eq_true p179
           replace q179 := eq_true q179
           go_wp2
           repeat (go_quiet (fail); try go_wp2)
           go_roundg k1
           case measure => have := HK1.out; omega
           case rel => exact ⟨(x3_1), (wrap64 (x5_1 + 1)), (by first | rfl | (simp; done) | (simp [*]; done)), H', ⟨by have := HK1.out; omega⟩, ⟨by (with_reducible repeat (first | apply Kd.R_alloc | apply Kd.R_drewN | apply Kd.R_drew)); exact HO_3.out⟩, ⟨by (with_reducible repeat (first | apply Kd.R_alloc | apply Kd.R_drewN | apply Kd.R_drew)); exact HO_4.out⟩, ⟨by (with_reducible repeat (first | refine blk_drewN ?_ _ | refine blk_drew ?_ | refine blk_alloc ?_ _)); exact BK167.out⟩, ⟨by repeat (first | (with_reducible first | exact HB.out | apply below_alloc | apply pw_below_drewN | apply below_drew1 | refine below_set ?_ GE167.out) | exact HB.out)⟩⟩
          ·rw [if_neg c21] at H
           have c21b0 : ((rd t172 x5_1) == (rd t172 (ji18))) = false := beq_eq_false_iff_ne.mpr c21
           have c21b1 : ((rd t172 x5_1) != (rd t172 (ji18))) = true := bne_iff_ne.mpr c21
           by_cases c23 : x3_1.length < 17592186044416
           ·rw [if_pos c23] at H
            have LMc23 := Aside0.mk c23
            clear c23
            obtain ⟨y180, hy180⟩ : ∃ y_ : List Int, y_ = (x3_1 ++ [x5_1]) := ⟨_, rfl⟩
            replace H : (spec_TableSpans.l0 k1 y180 t172 (wrap64 (x5_1 + 1))) = some r := by first | (rw [hy180]; with_reducible exact H) | (have H2_ := (Option.bind_some _ _).symm.trans H; rw [hy180]; with_reducible exact H2_) | (have H2_ := (Option.bind_some _ _).symm.trans H; with_reducible exact H2_) | with_reducible exact H | (rw [hy180]; exact H) | exact H
            have Ny180 := Aside0.mk hy180
            clear hy180
            have H' := Aside0.mk H
            clear H
            obtain ⟨Ao24, co24, eo24⟩ := Kd.R_slice HO_4.out
            subst eo24
            have p178 : 0 ≤ (x5_1 : Int) := of_decide_eq_true (by first | (with_reducible assumption) | assumption)
            have q178 : x5_1 < (t172.length : Int) := of_decide_eq_true (by first | (with_reducible assumption) | assumption)
            obtain ⟨ad178, e178, hx178_0⟩ := Kd.at_int (Kd.R_reads' HO_4.out).2.2 x5_1 p178 q178
            cases e178
            replace p178 := eq_true p178
            replace q178 := eq_true q178
            have p179 : 0 ≤ ((ji18) : Int) := of_decide_eq_true (by first | (with_reducible assumption) | assumption)
            have q179 : (ji18) < (t172.length : Int) := of_decide_eq_true (by first | (with_reducible assumption) | assumption)
            obtain ⟨ad179, e179, hx179_0⟩ := Kd.at_int (Kd.R_reads' HO_4.out).2.2 (ji18) p179 q179
            obtain rfl : ad178 = ad179 := (by injection e179)
            replace p179 := eq_true p179
            replace q179 := eq_true q179
            go_wp2_with (first | ((with_reducible refine gate_builtin (b := .append) (xs := #[.tmp 30, .tmp 32]) rfl ?_); at_builtin; refine Kd.R_append (Kd.int .i64) (w0 := w) w.heap.size rfl (.tmp 30) (.tmp 32) 53 3 (.int .i64 0) 8 rfl Try.underlying53 info3 rfl (by decide) (by omega) u3 x3_1 x5_1 [.int .i64 x5_1] (fun k_ => some k_ ≠ (.slice (some ad178) t172.length co24 : Value).ownBlock) (fun _ => False) rfl rfl ?aP (fun _ hk => hk.elim) ?aF ?aO ?aB ?aS ?aL ?_; (case aP => exact rfl); (case aB => exact (by repeat (first | (with_reducible first | exact HB.out | apply below_alloc | apply pw_below_drewN | apply below_drew1 | refine below_set ?_ GE167.out) | exact HB.out))); (case aF => exact (fun k_ hk => Kd.fresh' (Kd.R_lt (hd_ HO_4)) k_ hk)); (case aO => exact (hd_ HO_3)); (case aS => exact (bz_ HB)); (case aL => have := LMc23.out; omega); intro v181 w25 ho hb hg hat; rw [← Ny180.out] at ho; have HO182 := Aside0.mk ho; replace HO_4 := Aside0.mk (Kd.R_after (ok := (fun _ => True)) (by (with_reducible repeat (first | apply Kd.R_alloc | apply Kd.R_drewN | apply Kd.R_drew)); exact Kd.R_mono HO_4.out (fun _ hk => by first | exact ⟨trivial, hk⟩ | grind)) hg hat); replace BK167 := Aside0.mk (blk_grown (g := gb167) (o := .cells #[.slice A0_0 l0_0.length c0_0] 34 (0, 0)) (by (with_reducible repeat (first | refine blk_drewN ?_ _ | refine blk_drew ?_ | refine blk_alloc ?_ _)); exact BK167.out) hg (Kd.R_ne HO_3.out BK167.out (by decide))); replace HB := Aside0.mk (hb); clear HO_3; clear ho hb hg hat))
            repeat (go_quiet (first | ((with_reducible refine gate_builtin (b := .append) (xs := #[.tmp 30, .tmp 32]) rfl ?_); at_builtin; refine Kd.R_append (Kd.int .i64) (w0 := w) w.heap.size rfl (.tmp 30) (.tmp 32) 53 3 (.int .i64 0) 8 rfl Try.underlying53 info3 rfl (by decide) (by omega) u3 x3_1 x5_1 [.int .i64 x5_1] (fun k_ => some k_ ≠ (.slice (some ad178) t172.length co24 : Value).ownBlock) (fun _ => False) rfl rfl ?aP (fun _ hk => hk.elim) ?aF ?aO ?aB ?aS ?aL ?_; (case aP => exact rfl); (case aB => exact (by repeat (first | (with_reducible first | exact HB.out | apply below_alloc | apply pw_below_drewN | apply below_drew1 | refine below_set ?_ GE167.out) | exact HB.out))); (case aF => exact (fun k_ hk => Kd.fresh' (Kd.R_lt (hd_ HO_4)) k_ hk)); (case aO => exact (hd_ HO_3)); (case aS => exact (bz_ HB)); (case aL => have := LMc23.out; omega); intro v181 w25 ho hb hg hat; rw [← Ny180.out] at ho; have HO182 := Aside0.mk ho; replace HO_4 := Aside0.mk (Kd.R_after (ok := (fun _ => True)) (by (with_reducible repeat (first | apply Kd.R_alloc | apply Kd.R_drewN | apply Kd.R_drew)); exact Kd.R_mono HO_4.out (fun _ hk => by first | exact ⟨trivial, hk⟩ | grind)) hg hat); replace BK167 := Aside0.mk (blk_grown (g := gb167) (o := .cells #[.slice A0_0 l0_0.length c0_0] 34 (0, 0)) (by (with_reducible repeat (first | refine blk_drewN ?_ _ | refine blk_drew ?_ | refine blk_alloc ?_ _)); exact BK167.out) hg (Kd.R_ne HO_3.out BK167.out (by decide))); replace HB := Aside0.mk (hb); clear HO_3; clear ho hb hg hat)); try go_wp2_with (first | ((with_reducible refine gate_builtin (b := .append) (xs := #[.tmp 30, .tmp 32]) rfl ?_); at_builtin; refine Kd.R_append (Kd.int .i64) (w0 := w) w.heap.size rfl (.tmp 30) (.tmp 32) 53 3 (.int .i64 0) 8 rfl Try.underlying53 info3 rfl (by decide) (by omega) u3 x3_1 x5_1 [.int .i64 x5_1] (fun k_ => some k_ ≠ (.slice (some ad178) t172.length co24 : Value).ownBlock) (fun _ => False) rfl rfl ?aP (fun _ hk => hk.elim) ?aF ?aO ?aB ?aS ?aL ?_; (case aP => exact rfl); (case aB => exact (by repeat (first | (with_reducible first | exact HB.out | apply below_alloc | apply pw_below_drewN | apply below_drew1 | refine below_set ?_ GE167.out) | exact HB.out))); (case aF => exact (fun k_ hk => Kd.fresh' (Kd.R_lt (hd_ HO_4)) k_ hk)); (case aO => exact (hd_ HO_3)); (case aS => exact (bz_ HB)); (case aL => have := LMc23.out; omega); intro v181 w25 ho hb hg hat; rw [← Ny180.out] at ho; have HO182 := Aside0.mk ho; replace HO_4 := Aside0.mk (Kd.R_after (ok := (fun _ => True)) (by (with_reducible repeat (first | apply Kd.R_alloc | apply Kd.R_drewN | apply Kd.R_drew)); exact Kd.R_mono HO_4.out (fun _ hk => by first | exact ⟨trivial, hk⟩ | grind)) hg hat); replace BK167 := Aside0.mk (blk_grown (g := gb167) (o := .cells #[.slice A0_0 l0_0.length c0_0] 34 (0, 0)) (by (with_reducible repeat (first | refine blk_drewN ?_ _ | refine blk_drew ?_ | refine blk_alloc ?_ _)); exact BK167.out) hg (Kd.R_ne HO_3.out BK167.out (by decide))); replace HB := Aside0.mk (hb); clear HO_3; clear ho hb hg hat)))
            go_roundg k1
            case measure => have := HK1.out; omega
            case rel => exact ⟨(y180), (wrap64 (x5_1 + 1)), (by first | rfl | (simp; done) | (simp [*]; done)), H', ⟨by have := HK1.out; omega⟩, ⟨by (with_reducible repeat (first | apply Kd.R_alloc | apply Kd.R_drewN | apply Kd.R_drew)); exact HO182.out⟩, ⟨by (with_reducible repeat (first | apply Kd.R_alloc | apply Kd.R_drewN | apply Kd.R_drew)); exact Kd.R_mono HO_4.out (fun _ hk => hk.2)⟩, ⟨by (with_reducible repeat (first | refine blk_drewN ?_ _ | refine blk_drew ?_ | refine blk_alloc ?_ _)); exact BK167.out⟩, ⟨by repeat (first | (with_reducible first | exact HB.out | apply below_alloc | apply pw_below_drewN | apply below_drew1 | refine below_set ?_ GE167.out) | exact HB.out)⟩⟩
           ·rw [if_neg c23] at H
            exact absurd H (by simp)
         ·rw [if_neg c20] at H
          exact absurd H (by simp)
        ·rw [if_neg c19] at H
         exact absurd H (by simp)
       ·rw [if_neg c17] at H
        exact absurd H (by simp)
      ·rw [if_neg c16] at H
       exact absurd H (by simp)
    ·rw [if_neg c12] at H
     have c12b0 : decide (x5_1 < 65536) = false := decide_eq_false c12
     clear c12
     obtain rfl := Option.some.inj H
     go_wp2
     repeat (go_quiet (fail); try go_wp2)
     go_ret
     exact ⟨_, by first | rfl | (simp [errW_none, errW_some] <;> rfl) | (simp [*, errW_none, errW_some] <;> rfl), by (with_reducible repeat (first | apply Kd.R_alloc | apply Kd.R_drewN | apply Kd.R_drew)); exact Kd.R_mono HO_3.out (fun _ hk => trivial), by repeat (first | (with_reducible first | exact HB.out | apply below_alloc | apply pw_below_drewN | apply below_drew1 | refine below_set ?_ GE167.out) | exact HB.out)⟩
 ·replace c3 := Bool.eq_false_iff.mpr c3
  subst c3
  rw [if_neg (show ¬ (false = true) by decide)] at H
  obtain rfl := Option.some.inj H
  go_enter Try.func32, Try.ntmps32
  go_wp2_with (first | ((with_reducible refine gate_dst (N := 1) rfl ?_); refine box_event ?hg (N := 1) ?hd (cs := #[.slice A0_0 l0_0.length c0_0]) (t := 34) ?hr ?_; (case hd => rfl); (case hg => rfl); (case hr => first | (go_simp; done) | (go_simp; rfl)); intro gb167 hg w26 hbox hb; have BK167 := Aside0.mk hbox; have GW167 := ge_ HB hg; have GE167 := ge_ HB hg; replace HB := Aside0.mk (bt_ HB hb); clear hb hbox hg) | ((with_reducible refine gate_dst (N := 6) rfl ?_); refine Kd.R_lit (Kd.int .i64) _ 3 ?hg (N := 6) ?hd (xs := ([] : List Int)) (inner := []) (ok := fun _ => True) (okp := fun _ => True) ?hr ?hp (fun _ hk => hk) trivial (Below.refl _ _) (Nat.le_refl _) (by simp) ?_; (case hd => rfl); (case hg => rfl); (case hr => first | (go_simp; done) | (go_simp; rfl)); (case hp => exact (Reps.none _ _)); intro v169 w27 ho28 hb hg_ hnew_; clear hg_ hnew_; (first | rw [← Ny168.out] at ho28 | (simp only [Int.reduceToNat] at ho28; rw [← Ny168.out] at ho28)); have HO170 := Aside0.mk (Kd.R_lower ho28 (bz_ HB)); replace BK167 := Aside0.mk (bb_ BK167 hb); replace HB := Aside0.mk (bt_ HB hb); clear hb ho28; have hcz29_0 := cz_ BK167 0 (.slice A0_0 l0_0.length c0_0); have hfz29_0 := blk_frozen BK167.out 0) | (go_at_call 42; (with_reducible refine (spec_TableOk.calls k _ _ l0_0 false _ ?side1 ?side2 A2.out).mono ?_); (case side1 => exact cb_ HR0_0 HB); (case side2 => exact HC0_0.out); rintro e w30 ⟨rfl, hb⟩; replace HO170 := rb_ HO170 hb; replace BK167 := Aside0.mk (bb_ BK167 hb); replace HB := Aside0.mk (bt_ HB hb); (try clear hb); (try clear hb2); (try clear hk); (try clear hi)))
  repeat (go_quiet (first | ((with_reducible refine gate_dst (N := 1) rfl ?_); refine box_event ?hg (N := 1) ?hd (cs := #[.slice A0_0 l0_0.length c0_0]) (t := 34) ?hr ?_; (case hd => rfl); (case hg => rfl); (case hr => first | (go_simp; done) | (go_simp; rfl)); intro gb167 hg w26 hbox hb; have BK167 := Aside0.mk hbox; have GW167 := ge_ HB hg; have GE167 := ge_ HB hg; replace HB := Aside0.mk (bt_ HB hb); clear hb hbox hg) | ((with_reducible refine gate_dst (N := 6) rfl ?_); refine Kd.R_lit (Kd.int .i64) _ 3 ?hg (N := 6) ?hd (xs := ([] : List Int)) (inner := []) (ok := fun _ => True) (okp := fun _ => True) ?hr ?hp (fun _ hk => hk) trivial (Below.refl _ _) (Nat.le_refl _) (by simp) ?_; (case hd => rfl); (case hg => rfl); (case hr => first | (go_simp; done) | (go_simp; rfl)); (case hp => exact (Reps.none _ _)); intro v169 w27 ho28 hb hg_ hnew_; clear hg_ hnew_; (first | rw [← Ny168.out] at ho28 | (simp only [Int.reduceToNat] at ho28; rw [← Ny168.out] at ho28)); have HO170 := Aside0.mk (Kd.R_lower ho28 (bz_ HB)); replace BK167 := Aside0.mk (bb_ BK167 hb); replace HB := Aside0.mk (bt_ HB hb); clear hb ho28; have hcz29_0 := cz_ BK167 0 (.slice A0_0 l0_0.length c0_0); have hfz29_0 := blk_frozen BK167.out 0) | (go_at_call 42; (with_reducible refine (spec_TableOk.calls k _ _ l0_0 false _ ?side1 ?side2 A2.out).mono ?_); (case side1 => exact cb_ HR0_0 HB); (case side2 => exact HC0_0.out); rintro e w30 ⟨rfl, hb⟩; replace HO170 := rb_ HO170 hb; replace BK167 := Aside0.mk (bb_ BK167 hb); replace HB := Aside0.mk (bt_ HB hb); (try clear hb); (try clear hb2); (try clear hk); (try clear hi))); try go_wp2_with (first | ((with_reducible refine gate_dst (N := 1) rfl ?_); refine box_event ?hg (N := 1) ?hd (cs := #[.slice A0_0 l0_0.length c0_0]) (t := 34) ?hr ?_; (case hd => rfl); (case hg => rfl); (case hr => first | (go_simp; done) | (go_simp; rfl)); intro gb167 hg w26 hbox hb; have BK167 := Aside0.mk hbox; have GW167 := ge_ HB hg; have GE167 := ge_ HB hg; replace HB := Aside0.mk (bt_ HB hb); clear hb hbox hg) | ((with_reducible refine gate_dst (N := 6) rfl ?_); refine Kd.R_lit (Kd.int .i64) _ 3 ?hg (N := 6) ?hd (xs := ([] : List Int)) (inner := []) (ok := fun _ => True) (okp := fun _ => True) ?hr ?hp (fun _ hk => hk) trivial (Below.refl _ _) (Nat.le_refl _) (by simp) ?_; (case hd => rfl); (case hg => rfl); (case hr => first | (go_simp; done) | (go_simp; rfl)); (case hp => exact (Reps.none _ _)); intro v169 w27 ho28 hb hg_ hnew_; clear hg_ hnew_; (first | rw [← Ny168.out] at ho28 | (simp only [Int.reduceToNat] at ho28; rw [← Ny168.out] at ho28)); have HO170 := Aside0.mk (Kd.R_lower ho28 (bz_ HB)); replace BK167 := Aside0.mk (bb_ BK167 hb); replace HB := Aside0.mk (bt_ HB hb); clear hb ho28; have hcz29_0 := cz_ BK167 0 (.slice A0_0 l0_0.length c0_0); have hfz29_0 := blk_frozen BK167.out 0) | (go_at_call 42; (with_reducible refine (spec_TableOk.calls k _ _ l0_0 false _ ?side1 ?side2 A2.out).mono ?_); (case side1 => exact cb_ HR0_0 HB); (case side2 => exact HC0_0.out); rintro e w30 ⟨rfl, hb⟩; replace HO170 := rb_ HO170 hb; replace BK167 := Aside0.mk (bb_ BK167 hb); replace HB := Aside0.mk (bt_ HB hb); (try clear hb); (try clear hb2); (try clear hk); (try clear hi))))
  go_ret
  exact ⟨_, by first | rfl | (simp [errW_none, errW_some] <;> rfl) | (simp [*, errW_none, errW_some] <;> rfl), by first | exact Kd.R_nil _ _ _ _ _ | exact Kd.N_nil _ _ _ _ _ | exact Kd.V_nil _ _ _ _ _ | exact Kd.Q_nil _ _ _ _ _ | exact Kd.S_nil _ _ _ _ _, by repeat (first | (with_reducible first | exact HB.out | apply below_alloc | apply pw_below_drewN | apply below_drew1 | refine below_set ?_ GE167.out) | exact HB.out)⟩

/-! ### impl_within: function 79 -/
def impl_within.f (a0 : Int) (a1 : Int) (a2 : Int) : Option (Bool) := if a0 ≥ a1 then (some (decide (a0 ≤ a2))) else (some false)
set_option maxHeartbeats 8000000 in
set_option maxRecDepth 100000 in
theorem impl_within.calls (a0 : Int) (a1 : Int) (a2 : Int) (r : Bool) (w : World) (h : impl_within.f a0 a1 a2 = some r) :
  Calls Try.prog 79 #[.int .i64 a0, .int .i64 a1, .int .i64 a2] w fun e w' => e = .returned (.bool r) ∧ Drawn0 w w' := by
 have H : (if a0 ≥ a1 then (some (decide (a0 ≤ a2))) else (some false)) = some r := h
 clear h
 by_cases c4 : a0 ≥ a1
 ·rw [if_pos c4] at H
  have c4b0 : decide (a1 ≤ a0) = true := decide_eq_true c4
  clear c4
  obtain rfl := Option.some.inj H
  go_enter Try.func79, Try.ntmps79
  go_wp2
  go_ret
  exact ⟨by first | rfl | (simp; done) | (simp [*]; done), by repeat (first | exact Drawn0.refl _ | apply Drawn0.step)⟩
 ·rw [if_neg c4] at H
  have c4b0 : decide (a1 ≤ a0) = false := decide_eq_false c4
  clear c4
  obtain rfl := Option.some.inj H
  go_enter Try.func79, Try.ntmps79
  go_wp2
  go_ret
  exact ⟨by first | rfl | (simp; done) | (simp [*]; done), by repeat (first | exact Drawn0.refl _ | apply Drawn0.step)⟩

/-! ### impl_isAddr: function 48 -/
def impl_isAddr.f (a0 : Int) : Option (Bool) := (impl_within.f a0 0 65535).bind fun t183 => (some t183)
set_option maxHeartbeats 8000000 in
set_option maxRecDepth 100000 in
theorem impl_isAddr.calls (a0 : Int) (r : Bool) (w : World) (h : impl_isAddr.f a0 = some r) :
  Calls Try.prog 48 #[.int .i64 a0] w fun e w' => e = .returned (.bool r) ∧ Drawn0 w w' := by
 have H : ((impl_within.f a0 0 65535).bind fun t183 => (some t183)) = some r := h
 clear h
 replace H := Option.bind_eq_some_iff.mp H
 obtain ⟨t183, A20, H⟩ := H
 have A2 := Aside0.mk A20
 clear A20
 obtain rfl := Option.some.inj H
 go_enter Try.func48, Try.ntmps48
 go_wp2_with (first | ((with_reducible refine gate_callee (f := 79) rfl ?_); refine gl_ (some 4) Try.func79 #[.int .i64 a0, .int .i64 0, .int .i64 65535] ?_; (with_reducible refine (impl_within.calls a0 0 65535 t183 _ A2.out).mono ?_); rintro e w' ⟨rfl, ⟨nd, rfl⟩⟩; refine ⟨_, rfl, ?_⟩))
 go_ret
 exact ⟨by first | rfl | (simp; done) | (simp [*]; done), by repeat (first | exact Drawn0.refl _ | apply Drawn0.step)⟩

end Go.Proofs.Ytjepabdgmholjaa.QFnExactTableSpans
