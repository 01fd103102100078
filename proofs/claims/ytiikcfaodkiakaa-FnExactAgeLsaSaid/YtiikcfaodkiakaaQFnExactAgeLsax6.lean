/- Contracts of functions that the law reaches: what each call returns and what it leaves in memory. Made by this session over the print of the kit. -/
import Derived.Test.YtiikcfaodkiakaaQFnExactAgeLsax0
namespace Go.Proofs.Ytiikcfaodkiakaa.QFnExactAgeLsa
open Go.RowKit Go.Proofs.YtiikcfaodkiakaaU.PrintWords Go.Proofs.YtiikcfaodkiakaaU.PrintLast Go.Proofs.YtiikcfaodkiakaaU.PrintMore
attribute [local go_sem] max2_int min2_int max_two min_two max_three min_three max_four min_four   -- for this text's walks alone
set_option linter.unusedVariables false
set_option linter.unusedSimpArgs false
def ba6_0 : Array Bool := #[false, false, false, false, false, false, false, false, false, false, false]
def ba6_1 : Array Bool := #[true, false, false, false, false, false, false, false, false, false, false]
def ba6_2 : Array Bool := #[true, false, true, false, false, false, false, false, false, false, false]
def ba6_3 : Array Bool := #[true, false, true, false, true, false, false, false, false, false, false]
def ba6_4 : Array Bool := #[true, true, true, false, true, false, false, false, false, false, false]
def ba6_5 : Array Bool := #[true, true, true, true, true, false, false, false, false, false, false]
def ba6_6 : Array Bool := #[true, true, true, true, true, true, false, false, false, false, false]
def ba6_7 : Array Bool := #[true, true, true, true, true, true, true, false, false, false, false]
def ba6_8 : Array Bool := #[true, true, true, true, true, true, true, true, false, false, false]
def ba6_9 : Array Bool := #[true, true, true, true, true, true, true, true, true, false, false]
def ba6_10 : Array Bool := #[true, true, true, true, true, true, true, true, true, true, false]
def ba6_11 : Array Bool := #[true, true, true, true, true, true, true, true, true, true, true]

/-! ### spec_l05Copy: function 64 -/
mutual
def spec_l05Copy.l0 : Nat → Int → Int → Int → Int → List (S70) → List (S74) → Int → Int → Int → List (S70) → Option (Int × Int × Int × (List (S70)) × (List (S74)))
 | 0, _, _, _, _, _, _, _, _, _, _ => none
 | k + 1, x4, x197000, x197001, x197002, x197003, x197004, x199000, x199001, x199002, x199003 => if x4 < (x197003.length : Int) then (if 0 ≤ x4 then (if x199003.length < 8796093022208 then (spec_l05Copy.l0 k (wrap64 (x4 + 1)) x197000 x197001 x197002 x197003 x197004 x199000 x199001 x199002 (x199003 ++ [(⟨(rd_T70 x197003 x4).f0, (rd_T70 x197003 x4).f1⟩ : S70)])) else (none)) else (none)) else (spec_l05Copy.l1 k 0 x197000 x197001 x197002 x197003 x197004 x199000 x199001 x199002 x199003 ([] : List (S74)))
def spec_l05Copy.l1 : Nat → Int → Int → Int → Int → List (S70) → List (S74) → Int → Int → Int → List (S70) → List (S74) → Option (Int × Int × Int × (List (S70)) × (List (S74)))
 | 0, _, _, _, _, _, _, _, _, _, _, _ => none
 | k + 1, x5, x197000, x197001, x197002, x197003, x197004, x199000, x199001, x199002, x199003, x199004 => if x5 < (x197004.length : Int) then (if 0 ≤ x5 then (if x199004.length < 5864062014805 then (spec_l05Copy.l1 k (wrap64 (x5 + 1)) x197000 x197001 x197002 x197003 x197004 x199000 x199001 x199002 x199003 (x199004 ++ [(⟨(⟨(rd_T74 x197004 x5).f0.f0, (rd_T74 x197004 x5).f0.f1⟩ : S72), (rd_T74 x197004 x5).f1⟩ : S74)])) else (none)) else (none)) else (some (x199000, x199001, x199002, x199003, x199004))
end
def spec_l05Copy.f (k : Nat) (a0_0 : Int) (a0_1 : Int) (a0_2 : Int) (l0_3 : List (S70)) (l0_4 : List (S74)) : Option (Int × Int × Int × (List (S70)) × (List (S74))) := spec_l05Copy.l0 k 0 a0_0 a0_1 a0_2 l0_3 l0_4 a0_0 a0_1 a0_2 ([] : List (S70))
theorem spec_l05Copy.mono_l : ∀ k, (∀ y0 y1 y2 y3 y4 y5 y6 y7 y8 y9, LeO (spec_l05Copy.l0 k y0 y1 y2 y3 y4 y5 y6 y7 y8 y9) (spec_l05Copy.l0 (k + 1) y0 y1 y2 y3 y4 y5 y6 y7 y8 y9)) ∧ (∀ y0 y1 y2 y3 y4 y5 y6 y7 y8 y9 y10, LeO (spec_l05Copy.l1 k y0 y1 y2 y3 y4 y5 y6 y7 y8 y9 y10) (spec_l05Copy.l1 (k + 1) y0 y1 y2 y3 y4 y5 y6 y7 y8 y9 y10))
 | 0 => ⟨fun _ _ _ _ _ _ _ _ _ _ r h => by simp [spec_l05Copy.l0] at h, fun _ _ _ _ _ _ _ _ _ _ _ r h => by simp [spec_l05Copy.l1] at h⟩
 | k + 1 => by
  obtain ⟨ih0, ih1⟩ := spec_l05Copy.mono_l k
  refine ⟨?_, ?_⟩
  ·intro y0 y1 y2 y3 y4 y5 y6 y7 y8 y9
   unfold spec_l05Copy.l0
   repeat' first
   | (with_reducible exact ih0 _ _ _ _ _ _ _ _ _ _)
   | (with_reducible exact ih1 _ _ _ _ _ _ _ _ _ _ _)
   | (with_reducible exact LeO.refl _)
   | (with_reducible exact LeO.none _)
   | (with_reducible refine LeO.ite ?_ ?_)
   | (with_reducible refine LeO.bind ?_ (fun _ => ?_))
   | exact ih0 _ _ _ _ _ _ _ _ _ _
   | exact ih1 _ _ _ _ _ _ _ _ _ _ _
   | exact LeO.none _
   | refine LeO.ite ?_ ?_
   | refine LeO.bind ?_ (fun _ => ?_)
  ·intro y0 y1 y2 y3 y4 y5 y6 y7 y8 y9 y10
   unfold spec_l05Copy.l1
   repeat' first
   | (with_reducible exact ih0 _ _ _ _ _ _ _ _ _ _)
   | (with_reducible exact ih1 _ _ _ _ _ _ _ _ _ _ _)
   | (with_reducible exact LeO.refl _)
   | (with_reducible exact LeO.none _)
   | (with_reducible refine LeO.ite ?_ ?_)
   | (with_reducible refine LeO.bind ?_ (fun _ => ?_))
   | exact ih0 _ _ _ _ _ _ _ _ _ _
   | exact ih1 _ _ _ _ _ _ _ _ _ _ _
   | exact LeO.none _
   | refine LeO.ite ?_ ?_
   | refine LeO.bind ?_ (fun _ => ?_)
theorem spec_l05Copy.mono : ∀ a0 a1 a2 a3 a4 k, LeO (spec_l05Copy.f k a0 a1 a2 a3 a4) (spec_l05Copy.f (k + 1) a0 a1 a2 a3 a4) := by
 intro a0 a1 a2 a3 a4 k
 obtain ⟨ih0, ih1⟩ := spec_l05Copy.mono_l k
 unfold spec_l05Copy.f
 repeat' first
   | (with_reducible exact ih0 _ _ _ _ _ _ _ _ _ _)
   | (with_reducible exact ih1 _ _ _ _ _ _ _ _ _ _ _)
   | (with_reducible exact LeO.refl _)
   | (with_reducible exact LeO.none _)
   | (with_reducible refine LeO.ite ?_ ?_)
   | (with_reducible refine LeO.bind ?_ (fun _ => ?_))
   | exact ih0 _ _ _ _ _ _ _ _ _ _
   | exact ih1 _ _ _ _ _ _ _ _ _ _ _
   | exact LeO.none _
   | refine LeO.ite ?_ ?_
   | refine LeO.bind ?_ (fun _ => ?_)
def spec_l05Copy.T5 : Bool × List (List Nat × List Nat) := (true, [([], []), ([0], [0]), ([], []), ([2], [2]), ([], []), ([3, 4], [3, 4]), ([5], [5]), ([6], [6]), ([1, 7], [1, 7]), ([0, 1, 2, 3, 4, 5, 6, 7, 8], []), ([9, 8, 8, 0, 1, 2, 3, 4, 5, 6, 7, 8], [8, 9])])
def spec_l05Copy.B5 : List Nat := [0, 1, 0, 4, 0, 28, 60, 124, 255, 511, 1023]
theorem spec_l05Copy.tab5 : rtab .any (opsOf Try.f64 5) = spec_l05Copy.T5 := by kernel_rfl
theorem spec_l05Copy.bits5 : waitsOk spec_l05Copy.T5.2 spec_l05Copy.B5 = true := by kernel_rfl
def spec_l05Copy.T9 : Bool × List (List Nat × List Nat) := (true, [([], []), ([0], [0]), ([], []), ([2], [2]), ([], []), ([3, 4], [3, 4]), ([5], [5]), ([6], [6]), ([1, 7], [1, 7]), ([0, 1, 2, 3, 4, 5, 6, 7, 8], []), ([9, 8, 8, 0, 1, 2, 3, 4, 5, 6, 7, 8], [8, 9])])
def spec_l05Copy.B9 : List Nat := [0, 1, 0, 4, 0, 28, 60, 124, 255, 511, 1023]
theorem spec_l05Copy.tab9 : rtab .any (opsOf Try.f64 9) = spec_l05Copy.T9 := by kernel_rfl
theorem spec_l05Copy.bits9 : waitsOk spec_l05Copy.T9.2 spec_l05Copy.B9 = true := by kernel_rfl
set_option maxHeartbeats 8000000 in
set_option maxRecDepth 100000 in
theorem spec_l05Copy.calls (k : Nat) (a0_0 : Int) (a0_1 : Int) (a0_2 : Int) (A0_3 : Option Addr) (c0_3 : Nat) (l0_3 : List (S70)) (A0_4 : Option Addr) (c0_4 : Nat) (l0_4 : List (S74)) (r1 : Int) (r2 : Int) (r3 : Int) (r4 : List (S70)) (r5 : List (S74)) (w : World) (hr0_3 : Kd.C k70 w A0_3 l0_3.length l0_3) (hc0_3 : l0_3.length ≤ c0_3) (hr0_4 : Kd.C k74 w A0_4 l0_4.length l0_4) (hc0_4 : l0_4.length ≤ c0_4) (h : spec_l05Copy.f k a0_0 a0_1 a0_2 l0_3 l0_4 = some (r1, r2, r3, r4, r5)) :
  Calls Try.prog 64 #[.agg #[.int .i64 a0_0, .int .i64 a0_1, .int .i64 a0_2, .slice A0_3 l0_3.length c0_3, .slice A0_4 l0_4.length c0_4]] w fun e w' => ∃ v3_ v4_ : Value, e = .returned (.agg #[.int .i64 r1, .int .i64 r2, .int .i64 r3, v3_, v4_]) ∧ Kd.R k70 70 w' w.heap.size (fun _ => True) v3_ r4 ∧ Kd.R k74 74 w' w.heap.size (fun _ => True) v4_ r5 ∧ Below w.heap.size w w' := by
 have hu31 := Try.underlying31
 have hu70 := Try.underlying70
 have hu74 := Try.underlying74
 have HR0_3 := Aside0.mk hr0_3
 have HC0_3 := Aside0.mk hc0_3
 clear hr0_3 hc0_3
 have HR0_4 := Aside0.mk hr0_4
 have HC0_4 := Aside0.mk hc0_4
 clear hr0_4 hc0_4
 have HB := Aside0.mk (Below.refl w.heap.size w)
 have H : (spec_l05Copy.l0 k 0 a0_0 a0_1 a0_2 l0_3 l0_4 a0_0 a0_1 a0_2 ([] : List (S70))) = some (r1, r2, r3, r4, r5) := h
 clear h
 have H' := Aside0.mk H
 clear H
 go_enter Try.func64, Try.ntmps64
 go_wp2_with (first | ((with_reducible refine gate_dst (N := 1) rfl ?_); refine box_event ?hg (N := 1) ?hd (cs := #[.int .i64 a0_0, .int .i64 a0_1, .int .i64 a0_2, .slice A0_3 l0_3.length c0_3, .slice A0_4 l0_4.length c0_4]) (t := 31) ?hr ?_; (case hd => rfl); (case hg => rfl); (case hr => first | (go_simp; done) | (go_simp; rfl)); intro gb196 hg w2 hbox hb; have BK196 := Aside0.mk hbox; have GW196 := ge_ HB hg; have GE196 := ge_ HB hg; replace HB := Aside0.mk (bt_ HB hb); clear hb hbox hg) | ((with_reducible refine gate_dst (N := 2) rfl ?_); refine box_event ?hg (N := 2) ?hd (cs := #[.int .i64 0, .int .i64 0, .int .i64 0, .slice none 0 0, .slice none 0 0]) (t := 31) ?hr ?_; (case hd => rfl); (case hg => rfl); (case hr => first | (go_simp; done) | (go_simp; rfl)); intro gb197 hg w3 hbox hb; have BK197 := Aside0.mk hbox; have GW197 := ge_ HB hg; have GE197 := ge_ HB hg; have NB196_197 := nl_ BK196 hg; have NB197_196 := ng_ BK196 hg; replace HB := Aside0.mk (bt_ HB hb); replace BK196 := Aside0.mk (bb_ BK196 hb); clear hb hbox hg; have hnb4 := NB196_197.out; have hnc4 := NB197_196.out; have hcz5_0 := cz_ BK196 0 (.int .i64 a0_0); have hcz5_1 := cz_ BK196 1 (.int .i64 a0_1); have hcz5_2 := cz_ BK196 2 (.int .i64 a0_2); have hcz5_3 := cz_ BK196 3 (.slice A0_3 l0_3.length c0_3); have hcz5_4 := cz_ BK196 4 (.slice A0_4 l0_4.length c0_4); have hfz5_0 := blk_frozen BK196.out 0; have hfz5_1 := blk_frozen BK196.out 1; have hfz5_2 := blk_frozen BK196.out 2; have hfz5_3 := blk_frozen BK196.out 3; have hfz5_4 := blk_frozen BK196.out 4) | ((with_reducible refine gate_dst (N := 3) rfl ?_); refine box_event ?hg (N := 3) ?hd (cs := #[.int .i64 0, .int .i64 0, .int .i64 0, .slice none 0 0, .slice none 0 0]) (t := 31) ?hr ?_; (case hd => rfl); (case hg => rfl); (case hr => first | (go_simp; done) | (go_simp; rfl)); intro gb198 hg w6 hbox hb; have BK198 := Aside0.mk hbox; have GW198 := ge_ HB hg; have GE198 := ge_ HB hg; have NB196_198 := nl_ BK196 hg; have NB198_196 := ng_ BK196 hg; have NB197_198 := nl_ BK197 hg; have NB198_197 := ng_ BK197 hg; replace HB := Aside0.mk (bt_ HB hb); replace BK196 := Aside0.mk (bb_ BK196 hb); replace BK197 := Aside0.mk (bb_ BK197 hb); clear hb hbox hg; have hnb7 := NB198_196.out; have hnc7 := NB196_198.out; have hnb8 := NB198_197.out; have hnc8 := NB197_198.out; have hcz9_0 := cz_ BK198 0 (.int .i64 0); have hcz9_1 := cz_ BK198 1 (.int .i64 0); have hcz9_2 := cz_ BK198 2 (.int .i64 0); have hcz9_3 := cz_ BK198 3 (.slice none 0 0); have hcz9_4 := cz_ BK198 4 (.slice none 0 0); have hfz9_0 := blk_frozen BK198.out 0; have hfz9_1 := blk_frozen BK198.out 1; have hfz9_2 := blk_frozen BK198.out 2; have hfz9_3 := blk_frozen BK198.out 3; have hfz9_4 := blk_frozen BK198.out 4))
 go_loopg [4] k (fun kq v4 w' => ∃ (x4_1 : Int) (x199003_1 : List (S70)) (u199003 : Value), v4 = .int .i64 x4_1 ∧ Aside0 (spec_l05Copy.l0 kq x4_1 a0_0 a0_1 a0_2 l0_3 l0_4 a0_0 a0_1 a0_2 x199003_1 = some (r1, r2, r3, r4, r5)) ∧ Aside0 (kq ≤ k) ∧ Aside0 (Kd.R k70 70 w' w.heap.size (fun _ => True) u199003 x199003_1) ∧ Aside0 (w'.heap[gb196]? = some (.cells #[.int .i64 a0_0, .int .i64 a0_1, .int .i64 a0_2, (.slice A0_3 l0_3.length c0_3), (.slice A0_4 l0_4.length c0_4)] 31 (0, 0))) ∧ Aside0 (w'.heap[gb197]? = some (.cells #[.int .i64 0, .int .i64 0, .int .i64 0, (.slice none 0 0), (.slice none 0 0)] 31 (0, 0))) ∧ Aside0 (w'.heap[gb198]? = some (.cells #[.int .i64 a0_0, .int .i64 a0_1, .int .i64 a0_2, u199003, (.slice none 0 0)] 31 (0, 0))) ∧ Aside0 (Below w.heap.size w w'))
 case atStart => exact ⟨(0), (([] : List (S70))), (.slice none 0 0), (by first | rfl | (simp; done) | (simp [*]; done)), H', ⟨Nat.le_refl _⟩, ⟨by first | exact Kd.R_nil _ _ _ _ _ | exact Kd.N_nil _ _ _ _ _ | exact Kd.V_nil _ _ _ _ _ | exact Kd.Q_nil _ _ _ _ _ | exact Kd.S_nil _ _ _ _ _⟩, ⟨by (with_reducible repeat (first | refine blk_drewN ?_ _ | refine blk_drew ?_ | refine blk_alloc ?_ _)); refine blk_far ?_ NB196_198.out _; (with_reducible repeat (first | refine blk_drewN ?_ _ | refine blk_drew ?_ | refine blk_alloc ?_ _)); refine blk_far ?_ NB196_198.out _; (with_reducible repeat (first | refine blk_drewN ?_ _ | refine blk_drew ?_ | refine blk_alloc ?_ _)); refine blk_far ?_ NB196_198.out _; (with_reducible repeat (first | refine blk_drewN ?_ _ | refine blk_drew ?_ | refine blk_alloc ?_ _)); refine blk_far ?_ NB196_198.out _; (with_reducible repeat (first | refine blk_drewN ?_ _ | refine blk_drew ?_ | refine blk_alloc ?_ _)); refine blk_far ?_ NB196_198.out _; (with_reducible repeat (first | refine blk_drewN ?_ _ | refine blk_drew ?_ | refine blk_alloc ?_ _)); exact BK196.out⟩, ⟨by (with_reducible repeat (first | refine blk_drewN ?_ _ | refine blk_drew ?_ | refine blk_alloc ?_ _)); refine blk_far ?_ NB197_198.out _; (with_reducible repeat (first | refine blk_drewN ?_ _ | refine blk_drew ?_ | refine blk_alloc ?_ _)); refine blk_far ?_ NB197_198.out _; (with_reducible repeat (first | refine blk_drewN ?_ _ | refine blk_drew ?_ | refine blk_alloc ?_ _)); refine blk_far ?_ NB197_198.out _; (with_reducible repeat (first | refine blk_drewN ?_ _ | refine blk_drew ?_ | refine blk_alloc ?_ _)); refine blk_far ?_ NB197_198.out _; (with_reducible repeat (first | refine blk_drewN ?_ _ | refine blk_drew ?_ | refine blk_alloc ?_ _)); refine blk_far ?_ NB197_198.out _; (with_reducible repeat (first | refine blk_drewN ?_ _ | refine blk_drew ?_ | refine blk_alloc ?_ _)); exact BK197.out⟩, ⟨by (with_reducible repeat (first | refine blk_drewN ?_ _ | refine blk_drew ?_ | refine blk_alloc ?_ _)); refine blk_put (cs := #[.int .i64 a0_0, .int .i64 a0_1, .int .i64 a0_2, .slice none 0 0, .slice none 0 0]) ?_ 4 _ rfl; (with_reducible repeat (first | refine blk_drewN ?_ _ | refine blk_drew ?_ | refine blk_alloc ?_ _)); refine blk_put (cs := #[.int .i64 a0_0, .int .i64 a0_1, .int .i64 a0_2, .slice none 0 0, .slice none 0 0]) ?_ 3 _ rfl; (with_reducible repeat (first | refine blk_drewN ?_ _ | refine blk_drew ?_ | refine blk_alloc ?_ _)); refine blk_put (cs := #[.int .i64 a0_0, .int .i64 a0_1, .int .i64 0, .slice none 0 0, .slice none 0 0]) ?_ 2 _ rfl; (with_reducible repeat (first | refine blk_drewN ?_ _ | refine blk_drew ?_ | refine blk_alloc ?_ _)); refine blk_put (cs := #[.int .i64 a0_0, .int .i64 0, .int .i64 0, .slice none 0 0, .slice none 0 0]) ?_ 1 _ rfl; (with_reducible repeat (first | refine blk_drewN ?_ _ | refine blk_drew ?_ | refine blk_alloc ?_ _)); refine blk_put (cs := #[.int .i64 0, .int .i64 0, .int .i64 0, .slice none 0 0, .slice none 0 0]) ?_ 0 _ rfl; (with_reducible repeat (first | refine blk_drewN ?_ _ | refine blk_drew ?_ | refine blk_alloc ?_ _)); exact BK198.out⟩, ⟨by repeat (first | (with_reducible first | exact HB.out | apply below_alloc | apply pw_below_drewN | apply below_drew1 | refine below_set ?_ GE196.out | refine below_set ?_ GE197.out | refine below_set ?_ GE198.out) | exact HB.out)⟩⟩
 case round =>
  clear H'
  try clear p2
  try clear c4
  try clear c6
  try clear c7
  try clear c8
  try clear hcz5_0
  try clear hcz5_1
  try clear hcz5_2
  try clear hcz5_3
  try clear hcz5_4
  try clear hcz9_0
  try clear hcz9_1
  try clear hcz9_2
  try clear hcz9_3
  try clear hcz9_4
  try clear hfz5_0
  try clear hfz5_1
  try clear hfz5_2
  try clear hfz5_3
  try clear hfz5_4
  try clear hfz9_0
  try clear hfz9_1
  try clear hfz9_2
  try clear hfz9_3
  try clear hfz9_4
  obtain ⟨x4_1, x199003_1, u199003, rfl, HA, HK1, HO_199003, BK196, BK197, BK198, HB⟩ := hrel
  cases gk with
  | zero => exact absurd HA.out (by simp [spec_l05Copy.l0])
  | succ k1 =>
   have H := HA.out
   clear HA
   simp only [spec_l05Copy.l0] at H
   by_cases c10 : x4_1 < (l0_3.length : Int)
   ·rw [if_pos c10] at H
    have c10b0 : decide (x4_1 < (l0_3.length : Int)) = true := decide_eq_true c10
    clear c10
    by_cases c11 : 0 ≤ x4_1
    ·rw [if_pos c11] at H
     have c11b0 : decide (0 ≤ x4_1) = true := decide_eq_true c11
     clear c11
     by_cases c12 : x199003_1.length < 8796093022208
     ·rw [if_pos c12] at H
      have LMc12 := Aside0.mk c12
      clear c12
      obtain ⟨y200, hy200⟩ : ∃ y_ : List (S70), y_ = (x199003_1 ++ [(⟨(rd_T70 l0_3 x4_1).f0, (rd_T70 l0_3 x4_1).f1⟩ : S70)]) := ⟨_, rfl⟩
      replace H : (spec_l05Copy.l0 k1 (wrap64 (x4_1 + 1)) a0_0 a0_1 a0_2 l0_3 l0_4 a0_0 a0_1 a0_2 y200) = some (r1, r2, r3, r4, r5) := by first | (rw [hy200]; with_reducible exact H) | (have H2_ := (Option.bind_some _ _).symm.trans H; rw [hy200]; with_reducible exact H2_) | (have H2_ := (Option.bind_some _ _).symm.trans H; with_reducible exact H2_) | with_reducible exact H | (rw [hy200]; exact H) | exact H
      have Ny200 := Aside0.mk hy200
      clear hy200
      have H' := Aside0.mk H
      clear H
      have hnb13 := NB196_197.out
      have hnc13 := NB197_196.out
      have hnb14 := NB196_198.out
      have hnc14 := NB198_196.out
      have hcz15_0 := cz_ BK196 0 (.int .i64 a0_0)
      have hcz15_1 := cz_ BK196 1 (.int .i64 a0_1)
      have hcz15_2 := cz_ BK196 2 (.int .i64 a0_2)
      have hcz15_3 := cz_ BK196 3 (.slice A0_3 l0_3.length c0_3)
      have hcz15_4 := cz_ BK196 4 (.slice A0_4 l0_4.length c0_4)
      have hfz15_0 := blk_frozen BK196.out 0
      have hfz15_1 := blk_frozen BK196.out 1
      have hfz15_2 := blk_frozen BK196.out 2
      have hfz15_3 := blk_frozen BK196.out 3
      have hfz15_4 := blk_frozen BK196.out 4
      try go_wp2
      replace HO_199003 := Aside0.mk (Kd.R_drew HO_199003.out)
      replace BK196 := Aside0.mk (blk_drew BK196.out)
      replace BK197 := Aside0.mk (blk_drew BK197.out)
      replace BK198 := Aside0.mk (blk_drew BK198.out)
      replace HB := Aside0.mk (below_drew1 HB.out)
      have p199 : 0 ≤ (x4_1 : Int) := of_decide_eq_true (by first | (with_reducible assumption) | assumption)
      have q199 : x4_1 < (l0_3.length : Int) := of_decide_eq_true (by first | (with_reducible assumption) | assumption)
      obtain ⟨ad199, e199, hx199_0, hx199_1⟩ := at_T70 HR0_3.out x4_1 p199 q199
      have hw199_1 := hx199_1
      have hw199_0 := hx199_0
      cases e199
      replace hx199_0 := (HB.out.cell (World.block_lt_of_cell? w _ hx199_0)).trans hx199_0
      replace hx199_1 := (HB.out.cell (World.block_lt_of_cell? w _ hx199_1)).trans hx199_1
      replace p199 := eq_true p199
      replace q199 := eq_true q199
      refine start_ (n := 11) (S := fun w' => w'.cell? ⟨gb198, 0, none⟩ = some (.int .i64 a0_0) ∧ w'.cell? ⟨gb198, 1, none⟩ = some (.int .i64 a0_1) ∧ w'.cell? ⟨gb198, 2, none⟩ = some (.int .i64 a0_2) ∧ w'.cell? ⟨gb198, 3, none⟩ = some (u199003) ∧ w'.cell? ⟨gb198, 4, none⟩ = some (.slice none 0 0) ∧ w'.cell? ⟨gb196, 0, none⟩ = some (.int .i64 a0_0) ∧ w'.cell? ⟨gb196, 1, none⟩ = some (.int .i64 a0_1) ∧ w'.cell? ⟨gb196, 2, none⟩ = some (.int .i64 a0_2) ∧ w'.cell? ⟨gb196, 3, none⟩ = some (.slice (some ad199) l0_3.length c0_3) ∧ w'.cell? ⟨gb196, 4, none⟩ = some (.slice A0_4 l0_4.length c0_4) ∧ w'.cell? (ad199.add ((x4_1).toNat * 2)) = some (.int .i64 ((rd_T70 l0_3 x4_1).f0)) ∧ w'.cell? ⟨(ad199.add ((x4_1).toNat * 2)).block, (ad199.add ((x4_1).toNat * 2)).off + 1, none⟩ = some (.int .i64 ((rd_T70 l0_3 x4_1).f1))) (ds := [10]) ba6_0 (by kernel_rfl) rfl rfl ⟨(blk_cell BK198.out 0).trans rfl, (blk_cell BK198.out 1).trans rfl, (blk_cell BK198.out 2).trans rfl, (blk_cell BK198.out 3).trans rfl, (blk_cell BK198.out 4).trans rfl, (blk_cell BK196.out 0).trans rfl, (blk_cell BK196.out 1).trans rfl, (blk_cell BK196.out 2).trans rfl, (blk_cell BK196.out 3).trans rfl, (blk_cell BK196.out 4).trans rfl, (hc_ HB hw199_0), (hc_ HB hw199_1)⟩ (fun hHeld => ?_); refine with_tabW spec_l05Copy.tab5 spec_l05Copy.bits5 (fun HT_ HW_ => ?_)
      generalize wr.drew = w16 at HO_199003 BK196 BK197 BK198 HB hx199_0 hx199_1 hHeld ⊢
      refine pz_ 0 20 ba6_1 HT_ ?_
      refine pz_ 2 22 ba6_2 HT_ ?_
      refine pz_ 4 24 ba6_3 HT_ ?_
      refine pt_ 1 21 ba6_4 HT_ HW_ hHeld ?_
      refine pt_ 3 23 ba6_5 HT_ HW_ hHeld ?_
      refine pz_ 5 25 ba6_6 HT_ ?_
      refine pt_ 6 26 ba6_7 HT_ HW_ hHeld ?_
      refine one_ (i := 7) (N := some 27) ba6_8 rfl rfl (one_of HT_.out (by kernel_rfl)) (by decide) (fun K hK => ?_)
      refine value_ (w1 := ?_) (v := ?_) (by rfl) rfl ?_ ?_
      rotate_left 2
      ·go_simp
       constructor
       ·rfl
       ·rfl
      refine hK.out _ _ ⟨(blk_cell (blk_alloc BK198.out _) 0).trans rfl, (blk_cell (blk_alloc BK198.out _) 1).trans rfl, (blk_cell (blk_alloc BK198.out _) 2).trans rfl, (blk_cell (blk_alloc BK198.out _) 3).trans rfl, (blk_cell (blk_alloc BK198.out _) 4).trans rfl, (blk_cell (blk_alloc BK196.out _) 0).trans rfl, (blk_cell (blk_alloc BK196.out _) 1).trans rfl, (blk_cell (blk_alloc BK196.out _) 2).trans rfl, (blk_cell (blk_alloc BK196.out _) 3).trans rfl, (blk_cell (blk_alloc BK196.out _) 4).trans rfl, (World.cell?_alloc_lt _ _ _ (World.block_lt_of_cell? _ _ ((hc_ HB hw199_0)))).trans ((hc_ HB hw199_0)), (World.cell?_alloc_lt _ _ _ (World.block_lt_of_cell? _ _ ((hc_ HB hw199_1)))).trans ((hc_ HB hw199_1))⟩ (fun hHeld => ?_)
      clear hK K
      refine nz_ 27 ?_
      refine one_ (i := 8) (N := some 28) ba6_9 rfl rfl (one_of HT_.out (by kernel_rfl)) (by decide) (fun K hK => ?_)
      refine Kd.R_append_step k70 (w0 := w) w.heap.size (by rfl) (.tmp 21) (.tmp 27) 28 70 (.agg #[(.int .i64 0), (.int .i64 0)]) 16 rfl Try.underlying28 info70 rfl (by decide) (by omega) u199003 x199003_1 (⟨(rd_T70 l0_3 x4_1).f0, (rd_T70 l0_3 x4_1).f1⟩ : S70) [.int .i64 ((rd_T70 l0_3 x4_1).f0), .int .i64 ((rd_T70 l0_3 x4_1).f1)] (fun _ => True) (fun _ => False) rfl rfl ?aP (fun _ hk => hk.elim) ?aF ?aO ?aB ?aS ?aL ?_
      (case aP => exact k70_mkM _ _ _ (⟨(rd_T70 l0_3 x4_1).f0, (rd_T70 l0_3 x4_1).f1⟩ : S70))
      (case aB => exact (by repeat (first | (with_reducible first | exact HB.out | apply below_alloc | apply pw_below_drewN | apply below_drew1 | refine below_set ?_ GE196.out | refine below_set ?_ GE197.out | refine below_set ?_ GE198.out) | exact HB.out)))
      (case aF => exact (fun _ _ => trivial))
      (case aO => exact (hd_ HO_199003))
      (case aS => exact (bz_ HB))
      (case aL => have := LMc12.out; omega)
      intro v201 w17 ho hb hg hat
      rw [← Ny200.out] at ho
      have HO202 := Aside0.mk ho
      replace BK196 := Aside0.mk (blk_grown (g := gb196) (o := .cells #[.int .i64 a0_0, .int .i64 a0_1, .int .i64 a0_2, .slice (some ad199) l0_3.length c0_3, .slice A0_4 l0_4.length c0_4] 31 (0, 0)) (by (with_reducible repeat (first | refine blk_drewN ?_ _ | refine blk_drew ?_ | refine blk_alloc ?_ _)); exact BK196.out) hg (Kd.R_ne HO_199003.out BK196.out (by decide)))
      replace BK197 := Aside0.mk (blk_grown (g := gb197) (o := .cells #[.int .i64 0, .int .i64 0, .int .i64 0, .slice none 0 0, .slice none 0 0] 31 (0, 0)) (by (with_reducible repeat (first | refine blk_drewN ?_ _ | refine blk_drew ?_ | refine blk_alloc ?_ _)); exact BK197.out) hg (Kd.R_ne HO_199003.out BK197.out (by decide)))
      replace BK198 := Aside0.mk (blk_grown (g := gb198) (o := .cells #[.int .i64 a0_0, .int .i64 a0_1, .int .i64 a0_2, u199003, .slice none 0 0] 31 (0, 0)) (by (with_reducible repeat (first | refine blk_drewN ?_ _ | refine blk_drew ?_ | refine blk_alloc ?_ _)); exact BK198.out) hg (Kd.R_ne HO_199003.out BK198.out (by decide)))
      replace HB := Aside0.mk (hb)
      clear HO_199003
      clear ho hb hg hat
      obtain ⟨Ao18, co18, eo18⟩ := Kd.R_slice HO202.out
      (first | subst eo18 | (injection eo18 with f1_ f2_ f3_; have f4_ := f1_.symm; have f5_ := f3_.symm; clear f1_ f2_ f3_; subst f4_; subst f5_))
      refine hK.out _ _ ⟨(blk_cell BK198.out 0).trans rfl, (blk_cell BK198.out 1).trans rfl, (blk_cell BK198.out 2).trans rfl, (blk_cell BK198.out 3).trans rfl, (blk_cell BK198.out 4).trans rfl, (blk_cell BK196.out 0).trans rfl, (blk_cell BK196.out 1).trans rfl, (blk_cell BK196.out 2).trans rfl, (blk_cell BK196.out 3).trans rfl, (blk_cell BK196.out 4).trans rfl, (hc_ HB hw199_0), (hc_ HB hw199_1)⟩ (fun hHeld => ?_)
      clear hK K
      refine nz_ 28 ?_
      refine pz_ 9 29 ba6_10 HT_ ?_
      refine last_ (i := 10) (N := none) ba6_11 rfl rfl (one_of HT_.out (by kernel_rfl)) (by decide) (fun K hK => ?_)
      have hs19 : w17.cell? ⟨gb198, 3, none⟩ = some (u199003) := (blk_cell BK198.out 3).trans rfl
      have hfs19 := blk_frozen BK198.out 3
      have hns19_0 := NB196_198.out
      have hns19_1 := NB197_198.out
      have hms19_0 := NB198_196.out
      have hms19_1 := NB198_197.out
      refine skip_ (w1 := ?_) (by rfl) rfl ?_ ?_
      rotate_left; · go_simp; rfl
      refine hK.out _ _ ?_
      clear hK K
      refine done_ (done_of HT_.out (by kernel_rfl)) ?_
      try go_wp2
      go_roundg k1
      case measure => have := HK1.out; omega
      case rel => exact ⟨(wrap64 (x4_1 + 1)), (y200), (.slice Ao18 y200.length co18), (by first | rfl | (simp; done) | (simp [*]; done)), H', ⟨by have := HK1.out; omega⟩, ⟨by (with_reducible repeat (first | apply Kd.R_alloc | apply Kd.R_drewN | apply Kd.R_drew)); exact Kd.R_mono (Kd.R_far (p := ⟨gb198, 3, none⟩) (Kd.R_types HO202.out BK198.out (by decide)) (fun _ hk => hk.2) (.slice Ao18 y200.length co18)) (fun _ hk => trivial)⟩, ⟨by (with_reducible repeat (first | refine blk_drewN ?_ _ | refine blk_drew ?_ | refine blk_alloc ?_ _)); refine blk_far ?_ NB196_198.out _; (with_reducible repeat (first | refine blk_drewN ?_ _ | refine blk_drew ?_ | refine blk_alloc ?_ _)); exact BK196.out⟩, ⟨by (with_reducible repeat (first | refine blk_drewN ?_ _ | refine blk_drew ?_ | refine blk_alloc ?_ _)); refine blk_far ?_ NB197_198.out _; (with_reducible repeat (first | refine blk_drewN ?_ _ | refine blk_drew ?_ | refine blk_alloc ?_ _)); exact BK197.out⟩, ⟨by (with_reducible repeat (first | refine blk_drewN ?_ _ | refine blk_drew ?_ | refine blk_alloc ?_ _)); refine blk_put (cs := #[.int .i64 a0_0, .int .i64 a0_1, .int .i64 a0_2, u199003, .slice none 0 0]) ?_ 3 _ rfl; (with_reducible repeat (first | refine blk_drewN ?_ _ | refine blk_drew ?_ | refine blk_alloc ?_ _)); exact BK198.out⟩, ⟨by repeat (first | (with_reducible first | exact HB.out | apply below_alloc | apply pw_below_drewN | apply below_drew1 | refine below_set ?_ GE196.out | refine below_set ?_ GE197.out | refine below_set ?_ GE198.out) | exact HB.out)⟩⟩
     ·rw [if_neg c12] at H
      exact absurd H (by simp)
    ·rw [if_neg c11] at H
     exact absurd H (by simp)
   ·rw [if_neg c10] at H
    have c10b0 : decide (x4_1 < (l0_3.length : Int)) = false := decide_eq_false c10
    clear c10
    have H' := Aside0.mk H
    clear H
    have hnb20 := NB196_197.out
    have hnc20 := NB197_196.out
    have hnb21 := NB196_198.out
    have hnc21 := NB198_196.out
    have hcz22_0 := cz_ BK196 0 (.int .i64 a0_0)
    have hcz22_1 := cz_ BK196 1 (.int .i64 a0_1)
    have hcz22_2 := cz_ BK196 2 (.int .i64 a0_2)
    have hcz22_3 := cz_ BK196 3 (.slice A0_3 l0_3.length c0_3)
    have hcz22_4 := cz_ BK196 4 (.slice A0_4 l0_4.length c0_4)
    have hfz22_0 := blk_frozen BK196.out 0
    have hfz22_1 := blk_frozen BK196.out 1
    have hfz22_2 := blk_frozen BK196.out 2
    have hfz22_3 := blk_frozen BK196.out 3
    have hfz22_4 := blk_frozen BK196.out 4
    go_wp2
    go_loopg [5] k1 (fun kq v5 w' => ∃ (x5_2 : Int) (x199004_2 : List (S74)) (u199004 : Value), v5 = .int .i64 x5_2 ∧ Aside0 (spec_l05Copy.l1 kq x5_2 a0_0 a0_1 a0_2 l0_3 l0_4 a0_0 a0_1 a0_2 x199003_1 x199004_2 = some (r1, r2, r3, r4, r5)) ∧ Aside0 (kq ≤ k1) ∧ Aside0 (Kd.R k70 70 w' w.heap.size (fun _ => True) u199003 x199003_1) ∧ Aside0 (Kd.R k74 74 w' w.heap.size (fun _ => True) u199004 x199004_2) ∧ Aside0 (w'.heap[gb196]? = some (.cells #[.int .i64 a0_0, .int .i64 a0_1, .int .i64 a0_2, (.slice A0_3 l0_3.length c0_3), (.slice A0_4 l0_4.length c0_4)] 31 (0, 0))) ∧ Aside0 (w'.heap[gb197]? = some (.cells #[.int .i64 0, .int .i64 0, .int .i64 0, (.slice none 0 0), (.slice none 0 0)] 31 (0, 0))) ∧ Aside0 (w'.heap[gb198]? = some (.cells #[.int .i64 a0_0, .int .i64 a0_1, .int .i64 a0_2, u199003, u199004] 31 (0, 0))) ∧ Aside0 (Below w.heap.size w w'))
    case atStart => exact ⟨(0), (([] : List (S74))), (.slice none 0 0), (by first | rfl | (simp; done) | (simp [*]; done)), H', ⟨Nat.le_refl _⟩, ⟨by (with_reducible repeat (first | apply Kd.R_alloc | apply Kd.R_drewN | apply Kd.R_drew)); exact HO_199003.out⟩, ⟨by first | exact Kd.R_nil _ _ _ _ _ | exact Kd.N_nil _ _ _ _ _ | exact Kd.V_nil _ _ _ _ _ | exact Kd.Q_nil _ _ _ _ _ | exact Kd.S_nil _ _ _ _ _⟩, ⟨by (with_reducible repeat (first | refine blk_drewN ?_ _ | refine blk_drew ?_ | refine blk_alloc ?_ _)); exact BK196.out⟩, ⟨by (with_reducible repeat (first | refine blk_drewN ?_ _ | refine blk_drew ?_ | refine blk_alloc ?_ _)); exact BK197.out⟩, ⟨by (with_reducible repeat (first | refine blk_drewN ?_ _ | refine blk_drew ?_ | refine blk_alloc ?_ _)); exact BK198.out⟩, ⟨by repeat (first | (with_reducible first | exact HB.out | apply below_alloc | apply pw_below_drewN | apply below_drew1 | refine below_set ?_ GE196.out | refine below_set ?_ GE197.out | refine below_set ?_ GE198.out) | exact HB.out)⟩⟩
    case round =>
     clear H'
     try clear c1
     try clear p1
     try clear q1
     try clear hx1
     try clear c2
     try clear p2
     try clear c4
     try clear c6
     try clear p6
     try clear c7
     try clear c8
     try clear c10
     try clear c10b0
     try clear c11
     try clear c11b0
     try clear c12
     try clear c13
     try clear c14
     try clear p19
     try clear q19
     try clear hx19
     try clear c20
     try clear c21
     try clear hcz15_0
     try clear hcz15_1
     try clear hcz15_2
     try clear hcz15_3
     try clear hcz15_4
     try clear hcz22_0
     try clear hcz22_1
     try clear hcz22_2
     try clear hcz22_3
     try clear hcz22_4
     try clear hcz5_0
     try clear hcz5_1
     try clear hcz5_2
     try clear hcz5_3
     try clear hcz5_4
     try clear hcz9_0
     try clear hcz9_1
     try clear hcz9_2
     try clear hcz9_3
     try clear hcz9_4
     try clear hfz15_0
     try clear hfz15_1
     try clear hfz15_2
     try clear hfz15_3
     try clear hfz15_4
     try clear hfz22_0
     try clear hfz22_1
     try clear hfz22_2
     try clear hfz22_3
     try clear hfz22_4
     try clear hfz5_0
     try clear hfz5_1
     try clear hfz5_2
     try clear hfz5_3
     try clear hfz5_4
     try clear hfz9_0
     try clear hfz9_1
     try clear hfz9_2
     try clear hfz9_3
     try clear hfz9_4
     try clear hx199_0
     try clear hx199_1
     try clear p199
     try clear p2
     try clear q199
     obtain ⟨x5_2, x199004_2, u199004, rfl, HA, HK2, HO_199003, HO_199004, BK196, BK197, BK198, HB⟩ := hrel
     cases gk with
     | zero => exact absurd HA.out (by simp [spec_l05Copy.l1])
     | succ k2 =>
      have H := HA.out
      clear HA
      simp only [spec_l05Copy.l1] at H
      by_cases c23 : x5_2 < (l0_4.length : Int)
      ·rw [if_pos c23] at H
       have c23b0 : decide (x5_2 < (l0_4.length : Int)) = true := decide_eq_true c23
       clear c23
       by_cases c24 : 0 ≤ x5_2
       ·rw [if_pos c24] at H
        have c24b0 : decide (0 ≤ x5_2) = true := decide_eq_true c24
        clear c24
        by_cases c25 : x199004_2.length < 5864062014805
        ·rw [if_pos c25] at H
         have LMc25 := Aside0.mk c25
         clear c25
         obtain ⟨y204, hy204⟩ : ∃ y_ : List (S74), y_ = (x199004_2 ++ [(⟨(⟨(rd_T74 l0_4 x5_2).f0.f0, (rd_T74 l0_4 x5_2).f0.f1⟩ : S72), (rd_T74 l0_4 x5_2).f1⟩ : S74)]) := ⟨_, rfl⟩
         replace H : (spec_l05Copy.l1 k2 (wrap64 (x5_2 + 1)) a0_0 a0_1 a0_2 l0_3 l0_4 a0_0 a0_1 a0_2 x199003_1 y204) = some (r1, r2, r3, r4, r5) := by first | (rw [hy204]; with_reducible exact H) | (have H2_ := (Option.bind_some _ _).symm.trans H; rw [hy204]; with_reducible exact H2_) | (have H2_ := (Option.bind_some _ _).symm.trans H; with_reducible exact H2_) | with_reducible exact H | (rw [hy204]; exact H) | exact H
         have Ny204 := Aside0.mk hy204
         clear hy204
         have H' := Aside0.mk H
         clear H
         have hnb26 := NB196_197.out
         have hnc26 := NB197_196.out
         have hnb27 := NB196_198.out
         have hnc27 := NB198_196.out
         have hcz28_0 := cz_ BK196 0 (.int .i64 a0_0)
         have hcz28_1 := cz_ BK196 1 (.int .i64 a0_1)
         have hcz28_2 := cz_ BK196 2 (.int .i64 a0_2)
         have hcz28_3 := cz_ BK196 3 (.slice A0_3 l0_3.length c0_3)
         have hcz28_4 := cz_ BK196 4 (.slice A0_4 l0_4.length c0_4)
         have hfz28_0 := blk_frozen BK196.out 0
         have hfz28_1 := blk_frozen BK196.out 1
         have hfz28_2 := blk_frozen BK196.out 2
         have hfz28_3 := blk_frozen BK196.out 3
         have hfz28_4 := blk_frozen BK196.out 4
         try go_wp2
         replace HO_199003 := Aside0.mk (Kd.R_drew HO_199003.out)
         replace HO_199004 := Aside0.mk (Kd.R_drew HO_199004.out)
         replace BK196 := Aside0.mk (blk_drew BK196.out)
         replace BK197 := Aside0.mk (blk_drew BK197.out)
         replace BK198 := Aside0.mk (blk_drew BK198.out)
         replace HB := Aside0.mk (below_drew1 HB.out)
         have p203 : 0 ≤ (x5_2 : Int) := of_decide_eq_true (by first | (with_reducible assumption) | assumption)
         have q203 : x5_2 < (l0_4.length : Int) := of_decide_eq_true (by first | (with_reducible assumption) | assumption)
         obtain ⟨ad203, e203, hx203_0, hx203_1, hx203_2⟩ := at_T74 HR0_4.out x5_2 p203 q203
         have hw203_2 := hx203_2
         have hw203_1 := hx203_1
         have hw203_0 := hx203_0
         cases e203
         replace hx203_0 := (HB.out.cell (World.block_lt_of_cell? w _ hx203_0)).trans hx203_0
         replace hx203_1 := (HB.out.cell (World.block_lt_of_cell? w _ hx203_1)).trans hx203_1
         replace hx203_2 := (HB.out.cell (World.block_lt_of_cell? w _ hx203_2)).trans hx203_2
         replace p203 := eq_true p203
         replace q203 := eq_true q203
         refine start_ (n := 11) (S := fun w' => w'.cell? ⟨gb198, 0, none⟩ = some (.int .i64 a0_0) ∧ w'.cell? ⟨gb198, 1, none⟩ = some (.int .i64 a0_1) ∧ w'.cell? ⟨gb198, 2, none⟩ = some (.int .i64 a0_2) ∧ w'.cell? ⟨gb198, 3, none⟩ = some (u199003) ∧ w'.cell? ⟨gb198, 4, none⟩ = some (u199004) ∧ w'.cell? ⟨gb196, 0, none⟩ = some (.int .i64 a0_0) ∧ w'.cell? ⟨gb196, 1, none⟩ = some (.int .i64 a0_1) ∧ w'.cell? ⟨gb196, 2, none⟩ = some (.int .i64 a0_2) ∧ w'.cell? ⟨gb196, 3, none⟩ = some (.slice A0_3 l0_3.length c0_3) ∧ w'.cell? ⟨gb196, 4, none⟩ = some (.slice (some ad203) l0_4.length c0_4) ∧ w'.cell? (ad203.add ((x5_2).toNat * 3)) = some (.int .i64 ((rd_T74 l0_4 x5_2).f0.f0)) ∧ w'.cell? ⟨(ad203.add ((x5_2).toNat * 3)).block, (ad203.add ((x5_2).toNat * 3)).off + 1, none⟩ = some (.int .i64 ((rd_T74 l0_4 x5_2).f0.f1)) ∧ w'.cell? ⟨(ad203.add ((x5_2).toNat * 3)).block, (ad203.add ((x5_2).toNat * 3)).off + 2, none⟩ = some (.int .i64 ((rd_T74 l0_4 x5_2).f1))) (ds := [10]) ba6_0 (by kernel_rfl) rfl rfl ⟨(blk_cell BK198.out 0).trans rfl, (blk_cell BK198.out 1).trans rfl, (blk_cell BK198.out 2).trans rfl, (blk_cell BK198.out 3).trans rfl, (blk_cell BK198.out 4).trans rfl, (blk_cell BK196.out 0).trans rfl, (blk_cell BK196.out 1).trans rfl, (blk_cell BK196.out 2).trans rfl, (blk_cell BK196.out 3).trans rfl, (blk_cell BK196.out 4).trans rfl, (hc_ HB hw203_0), (hc_ HB hw203_1), (hc_ HB hw203_2)⟩ (fun hHeld => ?_); refine with_tabW spec_l05Copy.tab9 spec_l05Copy.bits9 (fun HT_ HW_ => ?_)
         generalize wr.drew = w29 at HO_199003 HO_199004 BK196 BK197 BK198 HB hx203_0 hx203_1 hx203_2 hHeld ⊢
         refine pz_ 0 37 ba6_1 HT_ ?_
         refine pz_ 2 39 ba6_2 HT_ ?_
         refine pz_ 4 41 ba6_3 HT_ ?_
         refine pt_ 1 38 ba6_4 HT_ HW_ hHeld ?_
         refine pt_ 3 40 ba6_5 HT_ HW_ hHeld ?_
         refine pz_ 5 42 ba6_6 HT_ ?_
         refine pt_ 6 43 ba6_7 HT_ HW_ hHeld ?_
         refine one_ (i := 7) (N := some 44) ba6_8 rfl rfl (one_of HT_.out (by kernel_rfl)) (by decide) (fun K hK => ?_)
         refine value_ (w1 := ?_) (v := ?_) (by rfl) rfl ?_ ?_
         rotate_left 2
         ·go_simp
          constructor
          ·rfl
          ·rfl
         refine hK.out _ _ ⟨(blk_cell (blk_alloc BK198.out _) 0).trans rfl, (blk_cell (blk_alloc BK198.out _) 1).trans rfl, (blk_cell (blk_alloc BK198.out _) 2).trans rfl, (blk_cell (blk_alloc BK198.out _) 3).trans rfl, (blk_cell (blk_alloc BK198.out _) 4).trans rfl, (blk_cell (blk_alloc BK196.out _) 0).trans rfl, (blk_cell (blk_alloc BK196.out _) 1).trans rfl, (blk_cell (blk_alloc BK196.out _) 2).trans rfl, (blk_cell (blk_alloc BK196.out _) 3).trans rfl, (blk_cell (blk_alloc BK196.out _) 4).trans rfl, (World.cell?_alloc_lt _ _ _ (World.block_lt_of_cell? _ _ ((hc_ HB hw203_0)))).trans ((hc_ HB hw203_0)), (World.cell?_alloc_lt _ _ _ (World.block_lt_of_cell? _ _ ((hc_ HB hw203_1)))).trans ((hc_ HB hw203_1)), (World.cell?_alloc_lt _ _ _ (World.block_lt_of_cell? _ _ ((hc_ HB hw203_2)))).trans ((hc_ HB hw203_2))⟩ (fun hHeld => ?_)
         clear hK K
         refine nz_ 44 ?_
         refine one_ (i := 8) (N := some 45) ba6_9 rfl rfl (one_of HT_.out (by kernel_rfl)) (by decide) (fun K hK => ?_)
         refine Kd.R_append_step k74 (w0 := w) w.heap.size (by rfl) (.tmp 38) (.tmp 44) 29 74 (.agg #[(.int .i64 0), (.int .i64 0), (.int .i64 0)]) 24 rfl Try.underlying29 info74 rfl (by decide) (by omega) u199004 x199004_2 (⟨(⟨(rd_T74 l0_4 x5_2).f0.f0, (rd_T74 l0_4 x5_2).f0.f1⟩ : S72), (rd_T74 l0_4 x5_2).f1⟩ : S74) [.int .i64 ((rd_T74 l0_4 x5_2).f0.f0), .int .i64 ((rd_T74 l0_4 x5_2).f0.f1), .int .i64 ((rd_T74 l0_4 x5_2).f1)] (fun _ => True) (fun _ => False) rfl rfl ?aP (fun _ hk => hk.elim) ?aF ?aO ?aB ?aS ?aL ?_
         (case aP => exact k74_mkM _ _ _ (⟨(⟨(rd_T74 l0_4 x5_2).f0.f0, (rd_T74 l0_4 x5_2).f0.f1⟩ : S72), (rd_T74 l0_4 x5_2).f1⟩ : S74))
         (case aB => exact (by repeat (first | (with_reducible first | exact HB.out | apply below_alloc | apply pw_below_drewN | apply below_drew1 | refine below_set ?_ GE196.out | refine below_set ?_ GE197.out | refine below_set ?_ GE198.out) | exact HB.out)))
         (case aF => exact (fun _ _ => trivial))
         (case aO => exact (hd_ HO_199004))
         (case aS => exact (bz_ HB))
         (case aL => have := LMc25.out; omega)
         intro v205 w30 ho hb hg hat
         rw [← Ny204.out] at ho
         have HO206 := Aside0.mk ho
         replace HO_199003 := Aside0.mk (Kd.R_over' (hd_ HO_199003) (Kd.R_typed (hd_ HO_199004)) (by decide) hg)
         replace BK196 := Aside0.mk (blk_grown (g := gb196) (o := .cells #[.int .i64 a0_0, .int .i64 a0_1, .int .i64 a0_2, .slice A0_3 l0_3.length c0_3, .slice (some ad203) l0_4.length c0_4] 31 (0, 0)) (by (with_reducible repeat (first | refine blk_drewN ?_ _ | refine blk_drew ?_ | refine blk_alloc ?_ _)); exact BK196.out) hg (Kd.R_ne HO_199004.out BK196.out (by decide)))
         replace BK197 := Aside0.mk (blk_grown (g := gb197) (o := .cells #[.int .i64 0, .int .i64 0, .int .i64 0, .slice none 0 0, .slice none 0 0] 31 (0, 0)) (by (with_reducible repeat (first | refine blk_drewN ?_ _ | refine blk_drew ?_ | refine blk_alloc ?_ _)); exact BK197.out) hg (Kd.R_ne HO_199004.out BK197.out (by decide)))
         replace BK198 := Aside0.mk (blk_grown (g := gb198) (o := .cells #[.int .i64 a0_0, .int .i64 a0_1, .int .i64 a0_2, u199003, u199004] 31 (0, 0)) (by (with_reducible repeat (first | refine blk_drewN ?_ _ | refine blk_drew ?_ | refine blk_alloc ?_ _)); exact BK198.out) hg (Kd.R_ne HO_199004.out BK198.out (by decide)))
         replace HB := Aside0.mk (hb)
         clear HO_199004
         clear ho hb hg hat
         obtain ⟨Ao31, co31, eo31⟩ := Kd.R_slice HO206.out
         (first | subst eo31 | (injection eo31 with f1_ f2_ f3_; have f4_ := f1_.symm; have f5_ := f3_.symm; clear f1_ f2_ f3_; subst f4_; subst f5_))
         refine hK.out _ _ ⟨(blk_cell BK198.out 0).trans rfl, (blk_cell BK198.out 1).trans rfl, (blk_cell BK198.out 2).trans rfl, (blk_cell BK198.out 3).trans rfl, (blk_cell BK198.out 4).trans rfl, (blk_cell BK196.out 0).trans rfl, (blk_cell BK196.out 1).trans rfl, (blk_cell BK196.out 2).trans rfl, (blk_cell BK196.out 3).trans rfl, (blk_cell BK196.out 4).trans rfl, (hc_ HB hw203_0), (hc_ HB hw203_1), (hc_ HB hw203_2)⟩ (fun hHeld => ?_)
         clear hK K
         refine nz_ 45 ?_
         refine pz_ 9 46 ba6_10 HT_ ?_
         refine last_ (i := 10) (N := none) ba6_11 rfl rfl (one_of HT_.out (by kernel_rfl)) (by decide) (fun K hK => ?_)
         have hs32 : w30.cell? ⟨gb198, 4, none⟩ = some (u199004) := (blk_cell BK198.out 4).trans rfl
         have hfs32 := blk_frozen BK198.out 4
         have hns32_0 := NB196_198.out
         have hns32_1 := NB197_198.out
         have hms32_0 := NB198_196.out
         have hms32_1 := NB198_197.out
         refine skip_ (w1 := ?_) (by rfl) rfl ?_ ?_
         rotate_left; · go_simp; rfl
         refine hK.out _ _ ?_
         clear hK K
         refine done_ (done_of HT_.out (by kernel_rfl)) ?_
         try go_wp2
         go_roundg k2
         case measure => have := HK1.out; have := HK2.out; omega
         case rel => exact ⟨(wrap64 (x5_2 + 1)), (y204), (.slice Ao31 y204.length co31), (by first | rfl | (simp; done) | (simp [*]; done)), H', ⟨by have := HK1.out; have := HK2.out; omega⟩, ⟨by (with_reducible repeat (first | apply Kd.R_alloc | apply Kd.R_drewN | apply Kd.R_drew)); exact Kd.R_mono (Kd.R_far (p := ⟨gb198, 4, none⟩) (Kd.R_types HO_199003.out BK198.out (by decide)) (fun _ hk => hk.2) (.slice Ao31 y204.length co31)) (fun _ hk => trivial)⟩, ⟨by (with_reducible repeat (first | apply Kd.R_alloc | apply Kd.R_drewN | apply Kd.R_drew)); exact Kd.R_mono (Kd.R_far (p := ⟨gb198, 4, none⟩) (Kd.R_types HO206.out BK198.out (by decide)) (fun _ hk => hk.2) (.slice Ao31 y204.length co31)) (fun _ hk => trivial)⟩, ⟨by (with_reducible repeat (first | refine blk_drewN ?_ _ | refine blk_drew ?_ | refine blk_alloc ?_ _)); refine blk_far ?_ NB196_198.out _; (with_reducible repeat (first | refine blk_drewN ?_ _ | refine blk_drew ?_ | refine blk_alloc ?_ _)); exact BK196.out⟩, ⟨by (with_reducible repeat (first | refine blk_drewN ?_ _ | refine blk_drew ?_ | refine blk_alloc ?_ _)); refine blk_far ?_ NB197_198.out _; (with_reducible repeat (first | refine blk_drewN ?_ _ | refine blk_drew ?_ | refine blk_alloc ?_ _)); exact BK197.out⟩, ⟨by (with_reducible repeat (first | refine blk_drewN ?_ _ | refine blk_drew ?_ | refine blk_alloc ?_ _)); refine blk_put (cs := #[.int .i64 a0_0, .int .i64 a0_1, .int .i64 a0_2, u199003, u199004]) ?_ 4 _ rfl; (with_reducible repeat (first | refine blk_drewN ?_ _ | refine blk_drew ?_ | refine blk_alloc ?_ _)); exact BK198.out⟩, ⟨by repeat (first | (with_reducible first | exact HB.out | apply below_alloc | apply pw_below_drewN | apply below_drew1 | refine below_set ?_ GE196.out | refine below_set ?_ GE197.out | refine below_set ?_ GE198.out) | exact HB.out)⟩⟩
        ·rw [if_neg c25] at H
         exact absurd H (by simp)
       ·rw [if_neg c24] at H
        exact absurd H (by simp)
      ·rw [if_neg c23] at H
       have c23b0 : decide (x5_2 < (l0_4.length : Int)) = false := decide_eq_false c23
       clear c23
       simp only [Option.some.injEq, Prod.mk.injEq] at H
       obtain ⟨rfl, rfl, rfl, rfl, rfl⟩ := H
       have hnb33 := NB196_197.out
       have hnc33 := NB197_196.out
       have hnb34 := NB196_198.out
       have hnc34 := NB198_196.out
       have hcz35_0 := cz_ BK196 0 (.int .i64 a0_0)
       have hcz35_1 := cz_ BK196 1 (.int .i64 a0_1)
       have hcz35_2 := cz_ BK196 2 (.int .i64 a0_2)
       have hcz35_3 := cz_ BK196 3 (.slice A0_3 l0_3.length c0_3)
       have hcz35_4 := cz_ BK196 4 (.slice A0_4 l0_4.length c0_4)
       have hfz35_0 := blk_frozen BK196.out 0
       have hfz35_1 := blk_frozen BK196.out 1
       have hfz35_2 := blk_frozen BK196.out 2
       have hfz35_3 := blk_frozen BK196.out 3
       have hfz35_4 := blk_frozen BK196.out 4
       have hnb36 := NB198_197.out
       have hnc36 := NB197_198.out
       have hcz37_0 := cz_ BK198 0 (.int .i64 a0_0)
       have hcz37_1 := cz_ BK198 1 (.int .i64 a0_1)
       have hcz37_2 := cz_ BK198 2 (.int .i64 a0_2)
       have hcz37_3 := cz_ BK198 3 (u199003)
       have hcz37_4 := cz_ BK198 4 (u199004)
       have hfz37_0 := blk_frozen BK198.out 0
       have hfz37_1 := blk_frozen BK198.out 1
       have hfz37_2 := blk_frozen BK198.out 2
       have hfz37_3 := blk_frozen BK198.out 3
       have hfz37_4 := blk_frozen BK198.out 4
       have hcz38_0 := cz_ BK197 0 (.int .i64 0)
       have hcz38_1 := cz_ BK197 1 (.int .i64 0)
       have hcz38_2 := cz_ BK197 2 (.int .i64 0)
       have hcz38_3 := cz_ BK197 3 (.slice none 0 0)
       have hcz38_4 := cz_ BK197 4 (.slice none 0 0)
       have hfz38_0 := blk_frozen BK197.out 0
       have hfz38_1 := blk_frozen BK197.out 1
       have hfz38_2 := blk_frozen BK197.out 2
       have hfz38_3 := blk_frozen BK197.out 3
       have hfz38_4 := blk_frozen BK197.out 4
       obtain ⟨Ao39, co39, eo39⟩ := Kd.R_slice HO_199003.out
       subst eo39
       obtain ⟨Ao40, co40, eo40⟩ := Kd.R_slice HO_199004.out
       subst eo40
       go_wp2
       refine bodyPost_ret (results_cell_row rfl _ _ gb197 31 #[.int .i64 a0_0, .int .i64 a0_1, .int .i64 a0_2, .slice Ao39 x199003_1.length co39, .slice Ao40 x199004_2.length co40] (0, 0) _ rfl (by (with_reducible repeat (first | refine blk_drewN ?_ _ | refine blk_drew ?_ | refine blk_alloc ?_ _)); refine blk_put (cs := #[.int .i64 a0_0, .int .i64 a0_1, .int .i64 a0_2, .slice Ao39 x199003_1.length co39, .slice none 0 0]) ?_ 4 _ rfl; (with_reducible repeat (first | refine blk_drewN ?_ _ | refine blk_drew ?_ | refine blk_alloc ?_ _)); refine blk_put (cs := #[.int .i64 a0_0, .int .i64 a0_1, .int .i64 a0_2, .slice none 0 0, .slice none 0 0]) ?_ 3 _ rfl; (with_reducible repeat (first | refine blk_drewN ?_ _ | refine blk_drew ?_ | refine blk_alloc ?_ _)); refine blk_put (cs := #[.int .i64 a0_0, .int .i64 a0_1, .int .i64 0, .slice none 0 0, .slice none 0 0]) ?_ 2 _ rfl; (with_reducible repeat (first | refine blk_drewN ?_ _ | refine blk_drew ?_ | refine blk_alloc ?_ _)); refine blk_put (cs := #[.int .i64 a0_0, .int .i64 0, .int .i64 0, .slice none 0 0, .slice none 0 0]) ?_ 1 _ rfl; (with_reducible repeat (first | refine blk_drewN ?_ _ | refine blk_drew ?_ | refine blk_alloc ?_ _)); refine blk_put (cs := #[.int .i64 0, .int .i64 0, .int .i64 0, .slice none 0 0, .slice none 0 0]) ?_ 0 _ rfl; (with_reducible repeat (first | refine blk_drewN ?_ _ | refine blk_drew ?_ | refine blk_alloc ?_ _)); exact BK197.out) Try.underlying31 rfl (by kernel_rfl)) rfl ?_
       exact ⟨_, _, by first | rfl | (simp [errW_none, errW_some] <;> rfl) | (simp [*, errW_none, errW_some] <;> rfl), by (with_reducible repeat (first | apply Kd.R_alloc | apply Kd.R_drewN | apply Kd.R_drew)); exact Kd.R_mono (Kd.R_far (p := ⟨gb197, 4, none⟩) (Kd.R_far (p := ⟨gb197, 3, none⟩) (Kd.R_far (p := ⟨gb197, 2, none⟩) (Kd.R_far (p := ⟨gb197, 1, none⟩) (Kd.R_far (p := ⟨gb197, 0, none⟩) (Kd.R_types HO_199003.out BK197.out (by decide)) (fun _ hk => hk.2) (.int .i64 a0_0)) (fun _ hk => hk.2) (.int .i64 a0_1)) (fun _ hk => hk.2) (.int .i64 a0_2)) (fun _ hk => hk.2) (.slice Ao39 x199003_1.length co39)) (fun _ hk => hk.2) (.slice Ao40 x199004_2.length co40)) (fun _ hk => trivial), by (with_reducible repeat (first | apply Kd.R_alloc | apply Kd.R_drewN | apply Kd.R_drew)); exact Kd.R_mono (Kd.R_far (p := ⟨gb197, 4, none⟩) (Kd.R_far (p := ⟨gb197, 3, none⟩) (Kd.R_far (p := ⟨gb197, 2, none⟩) (Kd.R_far (p := ⟨gb197, 1, none⟩) (Kd.R_far (p := ⟨gb197, 0, none⟩) (Kd.R_types HO_199004.out BK197.out (by decide)) (fun _ hk => hk.2) (.int .i64 a0_0)) (fun _ hk => hk.2) (.int .i64 a0_1)) (fun _ hk => hk.2) (.int .i64 a0_2)) (fun _ hk => hk.2) (.slice Ao39 x199003_1.length co39)) (fun _ hk => hk.2) (.slice Ao40 x199004_2.length co40)) (fun _ hk => trivial), by repeat (first | (with_reducible first | exact HB.out | apply below_alloc | apply pw_below_drewN | apply below_drew1 | refine below_set ?_ GE196.out | refine below_set ?_ GE197.out | refine below_set ?_ GE198.out) | exact HB.out)⟩

end Go.Proofs.Ytiikcfaodkiakaa.QFnExactAgeLsa
