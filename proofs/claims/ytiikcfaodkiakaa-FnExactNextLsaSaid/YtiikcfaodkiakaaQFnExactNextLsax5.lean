/- Contracts of functions that the law reaches: what each call returns and what it leaves in memory. Made by this session over the print of the kit. -/
import Derived.Test.YtiikcfaodkiakaaQFnExactNextLsax0
import Derived.Test.YtiikcfaodkiakaaQFnExactNextLsax4
namespace Go.Proofs.Ytiikcfaodkiakaa.QFnExactNextLsa
open Go.RowKit Go.Proofs.YtiikcfaodkiakaaU.PrintWords Go.Proofs.YtiikcfaodkiakaaU.PrintLast Go.Proofs.YtiikcfaodkiakaaU.PrintMore
attribute [local go_sem] max2_int min2_int max_two min_two max_three min_three max_four min_four   -- for this text's walks alone
set_option linter.unusedVariables false
set_option linter.unusedSimpArgs false
def ba5_0 : Array Bool := #[false, false, false, false, false, false, false, false, false, false, false]
def ba5_1 : Array Bool := #[true, false, false, false, false, false, false, false, false, false, false]
def ba5_2 : Array Bool := #[true, false, true, false, false, false, false, false, false, false, false]
def ba5_3 : Array Bool := #[true, false, true, false, true, false, false, false, false, false, false]
def ba5_4 : Array Bool := #[true, true, true, false, true, false, false, false, false, false, false]
def ba5_5 : Array Bool := #[true, true, true, true, true, false, false, false, false, false, false]
def ba5_6 : Array Bool := #[true, true, true, true, true, true, false, false, false, false, false]
def ba5_7 : Array Bool := #[true, true, true, true, true, true, true, false, false, false, false]
def ba5_8 : Array Bool := #[true, true, true, true, true, true, true, true, false, false, false]
def ba5_9 : Array Bool := #[true, true, true, true, true, true, true, true, true, false, false]
def ba5_10 : Array Bool := #[true, true, true, true, true, true, true, true, true, true, false]
def ba5_11 : Array Bool := #[true, true, true, true, true, true, true, true, true, true, true]

/-! ### spec_l05Copy: function 64 -/
mutual
def spec_l05Copy.l0 : Nat → Int → Int → Int → Int → List (S70) → List (S74) → Int → Int → Int → List (S70) → Option (Int × Int × Int × (List (S70)) × (List (S74)))
 | 0, _, _, _, _, _, _, _, _, _, _ => none
 | k + 1, x4, x179000, x179001, x179002, x179003, x179004, x181000, x181001, x181002, x181003 => if x4 < (x179003.length : Int) then (if 0 ≤ x4 then (if x181003.length < 8796093022208 then (spec_l05Copy.l0 k (wrap64 (x4 + 1)) x179000 x179001 x179002 x179003 x179004 x181000 x181001 x181002 (x181003 ++ [(⟨(rd_T70 x179003 x4).f0, (rd_T70 x179003 x4).f1⟩ : S70)])) else (none)) else (none)) else (spec_l05Copy.l1 k 0 x179000 x179001 x179002 x179003 x179004 x181000 x181001 x181002 x181003 ([] : List (S74)))
def spec_l05Copy.l1 : Nat → Int → Int → Int → Int → List (S70) → List (S74) → Int → Int → Int → List (S70) → List (S74) → Option (Int × Int × Int × (List (S70)) × (List (S74)))
 | 0, _, _, _, _, _, _, _, _, _, _, _ => none
 | k + 1, x5, x179000, x179001, x179002, x179003, x179004, x181000, x181001, x181002, x181003, x181004 => if x5 < (x179004.length : Int) then (if 0 ≤ x5 then (if x181004.length < 5864062014805 then (spec_l05Copy.l1 k (wrap64 (x5 + 1)) x179000 x179001 x179002 x179003 x179004 x181000 x181001 x181002 x181003 (x181004 ++ [(⟨(⟨(rd_T74 x179004 x5).f0.f0, (rd_T74 x179004 x5).f0.f1⟩ : S72), (rd_T74 x179004 x5).f1⟩ : S74)])) else (none)) else (none)) else (some (x181000, x181001, x181002, x181003, x181004))
end
def spec_l05Copy.f (k : Nat) (a0_0 : Int) (a0_1 : Int) (a0_2 : Int) (l0_3 : List (S70)) (l0_4 : List (S74)) : Option (Int × Int × Int × (List (S70)) × (List (S74))) := spec_l05Copy.l0 k 0 a0_0 a0_1 a0_2 l0_3 l0_4 a0_0 a0_1 a0_2 ([] : List (S70))
theorem spec_l05Copy.mono_l : ∀ k, (∀ y0 y1 y2 y3 y4 y5 y6 y7 y8 y9, LeO (spec_l05Copy.l0 k y0 y1 y2 y3 y4 y5 y6 y7 y8 y9) (spec_l05Copy.l0 (k + 1) y0 y1 y2 y3 y4 y5 y6 y7 y8 y9)) ∧ (∀ y0 y1 y2 y3 y4 y5 y6 y7 y8 y9 y10, LeO (spec_l05Copy.l1 k y0 y1 y2 y3 y4 y5 y6 y7 y8 y9 y10) (spec_l05Copy.l1 (k + 1) y0 y1 y2 y3 y4 y5 y6 y7 y8 y9 y10))
 | 0 => ⟨fun _ _ _ _ _ _ _ _ _ _ r h => by simp [spec_l05Copy.l0] at h, fun _ _ _ _ _ _ _ _ _ _ _ r h => by simp [spec_l05Copy.l1] at h⟩
 | k + 1 => by
  obtain ⟨ih0, ih1⟩ := spec_l05Copy.mono_l k
  refine ⟨?_, ?_⟩
  ·intro y0 y1 y2 y3 y4 y5 y6 y7 y8 y9
   unfold spec_l05Copy.l0
   repeat' first
   | (with_reducible exact ih0 _ _ _ _ _ _ _ _ _ _)
   | (with_reducible exact ih1 _ _ _ _ _ _ _ _ _ _ _)
   | (with_reducible exact LeO.refl _)
   | (with_reducible exact LeO.none _)
   | (with_reducible refine LeO.ite ?_ ?_)
   | (with_reducible refine LeO.bind ?_ (fun _ => ?_))
   | exact ih0 _ _ _ _ _ _ _ _ _ _
   | exact ih1 _ _ _ _ _ _ _ _ _ _ _
   | exact LeO.none _
   | refine LeO.ite ?_ ?_
   | refine LeO.bind ?_ (fun _ => ?_)
  ·intro y0 y1 y2 y3 y4 y5 y6 y7 y8 y9 y10
   unfold spec_l05Copy.l1
   repeat' first
   | (with_reducible exact ih0 _ _ _ _ _ _ _ _ _ _)
   | (with_reducible exact ih1 _ _ _ _ _ _ _ _ _ _ _)
   | (with_reducible exact LeO.refl _)
   | (with_reducible exact LeO.none _)
   | (with_reducible refine LeO.ite ?_ ?_)
   | (with_reducible refine LeO.bind ?_ (fun _ => ?_))
   | exact ih0 _ _ _ _ _ _ _ _ _ _
   | exact ih1 _ _ _ _ _ _ _ _ _ _ _
   | exact LeO.none _
   | refine LeO.ite ?_ ?_
   | refine LeO.bind ?_ (fun _ => ?_)
theorem spec_l05Copy.mono : ∀ a0 a1 a2 a3 a4 k, LeO (spec_l05Copy.f k a0 a1 a2 a3 a4) (spec_l05Copy.f (k + 1) a0 a1 a2 a3 a4) := by
 intro a0 a1 a2 a3 a4 k
 obtain ⟨ih0, ih1⟩ := spec_l05Copy.mono_l k
 unfold spec_l05Copy.f
 repeat' first
   | (with_reducible exact ih0 _ _ _ _ _ _ _ _ _ _)
   | (with_reducible exact ih1 _ _ _ _ _ _ _ _ _ _ _)
   | (with_reducible exact LeO.refl _)
   | (with_reducible exact LeO.none _)
   | (with_reducible refine LeO.ite ?_ ?_)
   | (with_reducible refine LeO.bind ?_ (fun _ => ?_))
   | exact ih0 _ _ _ _ _ _ _ _ _ _
   | exact ih1 _ _ _ _ _ _ _ _ _ _ _
   | exact LeO.none _
   | refine LeO.ite ?_ ?_
   | refine LeO.bind ?_ (fun _ => ?_)
def spec_l05Copy.T5 : Bool × List (List Nat × List Nat) := (true, [([], []), ([0], [0]), ([], []), ([2], [2]), ([], []), ([3, 4], [3, 4]), ([5], [5]), ([6], [6]), ([1, 7], [1, 7]), ([0, 1, 2, 3, 4, 5, 6, 7, 8], []), ([9, 8, 8, 0, 1, 2, 3, 4, 5, 6, 7, 8], [8, 9])])
def spec_l05Copy.B5 : List Nat := [0, 1, 0, 4, 0, 28, 60, 124, 255, 511, 1023]
theorem spec_l05Copy.tab5 : rtab .any (opsOf Try.f64 5) = spec_l05Copy.T5 := by kernel_rfl
theorem spec_l05Copy.bits5 : waitsOk spec_l05Copy.T5.2 spec_l05Copy.B5 = true := by kernel_rfl
def spec_l05Copy.T9 : Bool × List (List Nat × List Nat) := (true, [([], []), ([0], [0]), ([], []), ([2], [2]), ([], []), ([3, 4], [3, 4]), ([5], [5]), ([6], [6]), ([1, 7], [1, 7]), ([0, 1, 2, 3, 4, 5, 6, 7, 8], []), ([9, 8, 8, 0, 1, 2, 3, 4, 5, 6, 7, 8], [8, 9])])
def spec_l05Copy.B9 : List Nat := [0, 1, 0, 4, 0, 28, 60, 124, 255, 511, 1023]
theorem spec_l05Copy.tab9 : rtab .any (opsOf Try.f64 9) = spec_l05Copy.T9 := by kernel_rfl
theorem spec_l05Copy.bits9 : waitsOk spec_l05Copy.T9.2 spec_l05Copy.B9 = true := by kernel_rfl
set_option maxHeartbeats 8000000 in
set_option maxRecDepth 100000 in
theorem spec_l05Copy.calls (k : Nat) (a0_0 : Int) (a0_1 : Int) (a0_2 : Int) (A0_3 : Option Addr) (c0_3 : Nat) (l0_3 : List (S70)) (A0_4 : Option Addr) (c0_4 : Nat) (l0_4 : List (S74)) (r1 : Int) (r2 : Int) (r3 : Int) (r4 : List (S70)) (r5 : List (S74)) (w : World) (hr0_3 : Kd.C k70 w A0_3 l0_3.length l0_3) (hc0_3 : l0_3.length ≤ c0_3) (hr0_4 : Kd.C k74 w A0_4 l0_4.length l0_4) (hc0_4 : l0_4.length ≤ c0_4) (h : spec_l05Copy.f k a0_0 a0_1 a0_2 l0_3 l0_4 = some (r1, r2, r3, r4, r5)) :
  Calls Try.prog 64 #[.agg #[.int .i64 a0_0, .int .i64 a0_1, .int .i64 a0_2, .slice A0_3 l0_3.length c0_3, .slice A0_4 l0_4.length c0_4]] w fun e w' => ∃ v3_ v4_ : Value, e = .returned (.agg #[.int .i64 r1, .int .i64 r2, .int .i64 r3, v3_, v4_]) ∧ Kd.R k70 70 w' w.heap.size (fun _ => True) v3_ r4 ∧ Kd.R k74 74 w' w.heap.size (fun _ => True) v4_ r5 ∧ Below w.heap.size w w' := by
 have hu31 := Try.underlying31
 have hu70 := Try.underlying70
 have hu74 := Try.underlying74
 have HR0_3 := Aside0.mk hr0_3
 have HC0_3 := Aside0.mk hc0_3
 clear hr0_3 hc0_3
 have HR0_4 := Aside0.mk hr0_4
 have HC0_4 := Aside0.mk hc0_4
 clear hr0_4 hc0_4
 have HB := Aside0.mk (Below.refl w.heap.size w)
 have H : (spec_l05Copy.l0 k 0 a0_0 a0_1 a0_2 l0_3 l0_4 a0_0 a0_1 a0_2 ([] : List (S70))) = some (r1, r2, r3, r4, r5) := h
 clear h
 have H' := Aside0.mk H
 clear H
 go_enter Try.func64, Try.ntmps64
 go_wp2_with (first | ((with_reducible refine gate_dst (N := 1) rfl ?_); refine box_event ?hg (N := 1) ?hd (cs := #[.int .i64 a0_0, .int .i64 a0_1, .int .i64 a0_2, .slice A0_3 l0_3.length c0_3, .slice A0_4 l0_4.length c0_4]) (t := 31) ?hr ?_; (case hd => rfl); (case hg => rfl); (case hr => first | (go_simp; done) | (go_simp; rfl)); intro gb178 hg w2 hbox hb; have BK178 := Aside0.mk hbox; have GW178 := ge_ HB hg; have GE178 := ge_ HB hg; replace HB := Aside0.mk (bt_ HB hb); clear hb hbox hg) | ((with_reducible refine gate_dst (N := 2) rfl ?_); refine box_event ?hg (N := 2) ?hd (cs := #[.int .i64 0, .int .i64 0, .int .i64 0, .slice none 0 0, .slice none 0 0]) (t := 31) ?hr ?_; (case hd => rfl); (case hg => rfl); (case hr => first | (go_simp; done) | (go_simp; rfl)); intro gb179 hg w3 hbox hb; have BK179 := Aside0.mk hbox; have GW179 := ge_ HB hg; have GE179 := ge_ HB hg; have NB178_179 := nl_ BK178 hg; have NB179_178 := ng_ BK178 hg; replace HB := Aside0.mk (bt_ HB hb); replace BK178 := Aside0.mk (bb_ BK178 hb); clear hb hbox hg; have hnb4 := NB178_179.out; have hnc4 := NB179_178.out; have hcz5_0 := cz_ BK178 0 (.int .i64 a0_0); have hcz5_1 := cz_ BK178 1 (.int .i64 a0_1); have hcz5_2 := cz_ BK178 2 (.int .i64 a0_2); have hcz5_3 := cz_ BK178 3 (.slice A0_3 l0_3.length c0_3); have hcz5_4 := cz_ BK178 4 (.slice A0_4 l0_4.length c0_4); have hfz5_0 := blk_frozen BK178.out 0; have hfz5_1 := blk_frozen BK178.out 1; have hfz5_2 := blk_frozen BK178.out 2; have hfz5_3 := blk_frozen BK178.out 3; have hfz5_4 := blk_frozen BK178.out 4) | ((with_reducible refine gate_dst (N := 3) rfl ?_); refine box_event ?hg (N := 3) ?hd (cs := #[.int .i64 0, .int .i64 0, .int .i64 0, .slice none 0 0, .slice none 0 0]) (t := 31) ?hr ?_; (case hd => rfl); (case hg => rfl); (case hr => first | (go_simp; done) | (go_simp; rfl)); intro gb180 hg w6 hbox hb; have BK180 := Aside0.mk hbox; have GW180 := ge_ HB hg; have GE180 := ge_ HB hg; have NB178_180 := nl_ BK178 hg; have NB180_178 := ng_ BK178 hg; have NB179_180 := nl_ BK179 hg; have NB180_179 := ng_ BK179 hg; replace HB := Aside0.mk (bt_ HB hb); replace BK178 := Aside0.mk (bb_ BK178 hb); replace BK179 := Aside0.mk (bb_ BK179 hb); clear hb hbox hg; have hnb7 := NB180_178.out; have hnc7 := NB178_180.out; have hnb8 := NB180_179.out; have hnc8 := NB179_180.out; have hcz9_0 := cz_ BK180 0 (.int .i64 0); have hcz9_1 := cz_ BK180 1 (.int .i64 0); have hcz9_2 := cz_ BK180 2 (.int .i64 0); have hcz9_3 := cz_ BK180 3 (.slice none 0 0); have hcz9_4 := cz_ BK180 4 (.slice none 0 0); have hfz9_0 := blk_frozen BK180.out 0; have hfz9_1 := blk_frozen BK180.out 1; have hfz9_2 := blk_frozen BK180.out 2; have hfz9_3 := blk_frozen BK180.out 3; have hfz9_4 := blk_frozen BK180.out 4))
 go_loopg [4] k (fun kq v4 w' => ∃ (x4_1 : Int) (x181003_1 : List (S70)) (u181003 : Value), v4 = .int .i64 x4_1 ∧ Aside0 (spec_l05Copy.l0 kq x4_1 a0_0 a0_1 a0_2 l0_3 l0_4 a0_0 a0_1 a0_2 x181003_1 = some (r1, r2, r3, r4, r5)) ∧ Aside0 (kq ≤ k) ∧ Aside0 (Kd.R k70 70 w' w.heap.size (fun _ => True) u181003 x181003_1) ∧ Aside0 (w'.heap[gb178]? = some (.cells #[.int .i64 a0_0, .int .i64 a0_1, .int .i64 a0_2, (.slice A0_3 l0_3.length c0_3), (.slice A0_4 l0_4.length c0_4)] 31 (0, 0))) ∧ Aside0 (w'.heap[gb179]? = some (.cells #[.int .i64 0, .int .i64 0, .int .i64 0, (.slice none 0 0), (.slice none 0 0)] 31 (0, 0))) ∧ Aside0 (w'.heap[gb180]? = some (.cells #[.int .i64 a0_0, .int .i64 a0_1, .int .i64 a0_2, u181003, (.slice none 0 0)] 31 (0, 0))) ∧ Aside0 (Below w.heap.size w w'))
 case atStart => exact ⟨(0), (([] : List (S70))), (.slice none 0 0), (by first | rfl | (simp; done) | (simp [*]; done)), H', ⟨Nat.le_refl _⟩, ⟨by first | exact Kd.R_nil _ _ _ _ _ | exact Kd.N_nil _ _ _ _ _ | exact Kd.V_nil _ _ _ _ _ | exact Kd.Q_nil _ _ _ _ _ | exact Kd.S_nil _ _ _ _ _⟩, ⟨by (with_reducible repeat (first | refine blk_drewN ?_ _ | refine blk_drew ?_ | refine blk_alloc ?_ _)); refine blk_far ?_ NB178_180.out _; (with_reducible repeat (first | refine blk_drewN ?_ _ | refine blk_drew ?_ | refine blk_alloc ?_ _)); refine blk_far ?_ NB178_180.out _; (with_reducible repeat (first | refine blk_drewN ?_ _ | refine blk_drew ?_ | refine blk_alloc ?_ _)); refine blk_far ?_ NB178_180.out _; (with_reducible repeat (first | refine blk_drewN ?_ _ | refine blk_drew ?_ | refine blk_alloc ?_ _)); refine blk_far ?_ NB178_180.out _; (with_reducible repeat (first | refine blk_drewN ?_ _ | refine blk_drew ?_ | refine blk_alloc ?_ _)); refine blk_far ?_ NB178_180.out _; (with_reducible repeat (first | refine blk_drewN ?_ _ | refine blk_drew ?_ | refine blk_alloc ?_ _)); exact BK178.out⟩, ⟨by (with_reducible repeat (first | refine blk_drewN ?_ _ | refine blk_drew ?_ | refine blk_alloc ?_ _)); refine blk_far ?_ NB179_180.out _; (with_reducible repeat (first | refine blk_drewN ?_ _ | refine blk_drew ?_ | refine blk_alloc ?_ _)); refine blk_far ?_ NB179_180.out _; (with_reducible repeat (first | refine blk_drewN ?_ _ | refine blk_drew ?_ | refine blk_alloc ?_ _)); refine blk_far ?_ NB179_180.out _; (with_reducible repeat (first | refine blk_drewN ?_ _ | refine blk_drew ?_ | refine blk_alloc ?_ _)); refine blk_far ?_ NB179_180.out _; (with_reducible repeat (first | refine blk_drewN ?_ _ | refine blk_drew ?_ | refine blk_alloc ?_ _)); refine blk_far ?_ NB179_180.out _; (with_reducible repeat (first | refine blk_drewN ?_ _ | refine blk_drew ?_ | refine blk_alloc ?_ _)); exact BK179.out⟩, ⟨by (with_reducible repeat (first | refine blk_drewN ?_ _ | refine blk_drew ?_ | refine blk_alloc ?_ _)); refine blk_put (cs := #[.int .i64 a0_0, .int .i64 a0_1, .int .i64 a0_2, .slice none 0 0, .slice none 0 0]) ?_ 4 _ rfl; (with_reducible repeat (first | refine blk_drewN ?_ _ | refine blk_drew ?_ | refine blk_alloc ?_ _)); refine blk_put (cs := #[.int .i64 a0_0, .int .i64 a0_1, .int .i64 a0_2, .slice none 0 0, .slice none 0 0]) ?_ 3 _ rfl; (with_reducible repeat (first | refine blk_drewN ?_ _ | refine blk_drew ?_ | refine blk_alloc ?_ _)); refine blk_put (cs := #[.int .i64 a0_0, .int .i64 a0_1, .int .i64 0, .slice none 0 0, .slice none 0 0]) ?_ 2 _ rfl; (with_reducible repeat (first | refine blk_drewN ?_ _ | refine blk_drew ?_ | refine blk_alloc ?_ _)); refine blk_put (cs := #[.int .i64 a0_0, .int .i64 0, .int .i64 0, .slice none 0 0, .slice none 0 0]) ?_ 1 _ rfl; (with_reducible repeat (first | refine blk_drewN ?_ _ | refine blk_drew ?_ | refine blk_alloc ?_ _)); refine blk_put (cs := #[.int .i64 0, .int .i64 0, .int .i64 0, .slice none 0 0, .slice none 0 0]) ?_ 0 _ rfl; (with_reducible repeat (first | refine blk_drewN ?_ _ | refine blk_drew ?_ | refine blk_alloc ?_ _)); exact BK180.out⟩, ⟨by repeat (first | (with_reducible first | exact HB.out | apply below_alloc | apply pw_below_drewN | apply below_drew1 | refine below_set ?_ GE178.out | refine below_set ?_ GE179.out | refine below_set ?_ GE180.out) | exact HB.out)⟩⟩
 case round =>
  clear H'
  try clear p2
  try clear c4
  try clear c6
  try clear c7
  try clear c8
  try clear hcz5_0
  try clear hcz5_1
  try clear hcz5_2
  try clear hcz5_3
  try clear hcz5_4
  try clear hcz9_0
  try clear hcz9_1
  try clear hcz9_2
  try clear hcz9_3
  try clear hcz9_4
  try clear hfz5_0
  try clear hfz5_1
  try clear hfz5_2
  try clear hfz5_3
  try clear hfz5_4
  try clear hfz9_0
  try clear hfz9_1
  try clear hfz9_2
  try clear hfz9_3
  try clear hfz9_4
  obtain ⟨x4_1, x181003_1, u181003, rfl, HA, HK1, HO_181003, BK178, BK179, BK180, HB⟩ := hrel
  cases gk with
  | zero => exact absurd HA.out (by simp [spec_l05Copy.l0])
  | succ k1 =>
   have H := HA.out
   clear HA
   simp only [spec_l05Copy.l0] at H
   by_cases c10 : x4_1 < (l0_3.length : Int)
   ·rw [if_pos c10] at H
    have c10b0 : decide (x4_1 < (l0_3.length : Int)) = true := decide_eq_true c10
    clear c10
    by_cases c11 : 0 ≤ x4_1
    ·rw [if_pos c11] at H
     have c11b0 : decide (0 ≤ x4_1) = true := decide_eq_true c11
     clear c11
     by_cases c12 : x181003_1.length < 8796093022208
     ·rw [if_pos c12] at H
      have LMc12 := Aside0.mk c12
      clear c12
      obtain ⟨y182, hy182⟩ : ∃ y_ : List (S70), y_ = (x181003_1 ++ [(⟨(rd_T70 l0_3 x4_1).f0, (rd_T70 l0_3 x4_1).f1⟩ : S70)]) := ⟨_, rfl⟩
      replace H : (spec_l05Copy.l0 k1 (wrap64 (x4_1 + 1)) a0_0 a0_1 a0_2 l0_3 l0_4 a0_0 a0_1 a0_2 y182) = some (r1, r2, r3, r4, r5) := by first | (rw [hy182]; with_reducible exact H) | (have H2_ := (Option.bind_some _ _).symm.trans H; rw [hy182]; with_reducible exact H2_) | (have H2_ := (Option.bind_some _ _).symm.trans H; with_reducible exact H2_) | with_reducible exact H | (rw [hy182]; exact H) | exact H
      have Ny182 := Aside0.mk hy182
      clear hy182
      have H' := Aside0.mk H
      clear H
      have hnb13 := NB178_179.out
      have hnc13 := NB179_178.out
      have hnb14 := NB178_180.out
      have hnc14 := NB180_178.out
      have hcz15_0 := cz_ BK178 0 (.int .i64 a0_0)
      have hcz15_1 := cz_ BK178 1 (.int .i64 a0_1)
      have hcz15_2 := cz_ BK178 2 (.int .i64 a0_2)
      have hcz15_3 := cz_ BK178 3 (.slice A0_3 l0_3.length c0_3)
      have hcz15_4 := cz_ BK178 4 (.slice A0_4 l0_4.length c0_4)
      have hfz15_0 := blk_frozen BK178.out 0
      have hfz15_1 := blk_frozen BK178.out 1
      have hfz15_2 := blk_frozen BK178.out 2
      have hfz15_3 := blk_frozen BK178.out 3
      have hfz15_4 := blk_frozen BK178.out 4
      try go_wp2
      replace HO_181003 := Aside0.mk (Kd.R_drew HO_181003.out)
      replace BK178 := Aside0.mk (blk_drew BK178.out)
      replace BK179 := Aside0.mk (blk_drew BK179.out)
      replace BK180 := Aside0.mk (blk_drew BK180.out)
      replace HB := Aside0.mk (below_drew1 HB.out)
      have p181 : 0 ≤ (x4_1 : Int) := of_decide_eq_true (by first | (with_reducible assumption) | assumption)
      have q181 : x4_1 < (l0_3.length : Int) := of_decide_eq_true (by first | (with_reducible assumption) | assumption)
      obtain ⟨ad181, e181, hx181_0, hx181_1⟩ := at_T70 HR0_3.out x4_1 p181 q181
      have hw181_1 := hx181_1
      have hw181_0 := hx181_0
      cases e181
      replace hx181_0 := (HB.out.cell (World.block_lt_of_cell? w _ hx181_0)).trans hx181_0
      replace hx181_1 := (HB.out.cell (World.block_lt_of_cell? w _ hx181_1)).trans hx181_1
      replace p181 := eq_true p181
      replace q181 := eq_true q181
      refine start_ (n := 11) (S := fun w' => w'.cell? ⟨gb180, 0, none⟩ = some (.int .i64 a0_0) ∧ w'.cell? ⟨gb180, 1, none⟩ = some (.int .i64 a0_1) ∧ w'.cell? ⟨gb180, 2, none⟩ = some (.int .i64 a0_2) ∧ w'.cell? ⟨gb180, 3, none⟩ = some (u181003) ∧ w'.cell? ⟨gb180, 4, none⟩ = some (.slice none 0 0) ∧ w'.cell? ⟨gb178, 0, none⟩ = some (.int .i64 a0_0) ∧ w'.cell? ⟨gb178, 1, none⟩ = some (.int .i64 a0_1) ∧ w'.cell? ⟨gb178, 2, none⟩ = some (.int .i64 a0_2) ∧ w'.cell? ⟨gb178, 3, none⟩ = some (.slice (some ad181) l0_3.length c0_3) ∧ w'.cell? ⟨gb178, 4, none⟩ = some (.slice A0_4 l0_4.length c0_4) ∧ w'.cell? (ad181.add ((x4_1).toNat * 2)) = some (.int .i64 ((rd_T70 l0_3 x4_1).f0)) ∧ w'.cell? ⟨(ad181.add ((x4_1).toNat * 2)).block, (ad181.add ((x4_1).toNat * 2)).off + 1, none⟩ = some (.int .i64 ((rd_T70 l0_3 x4_1).f1))) (ds := [10]) ba5_0 (by kernel_rfl) rfl rfl ⟨(blk_cell BK180.out 0).trans rfl, (blk_cell BK180.out 1).trans rfl, (blk_cell BK180.out 2).trans rfl, (blk_cell BK180.out 3).trans rfl, (blk_cell BK180.out 4).trans rfl, (blk_cell BK178.out 0).trans rfl, (blk_cell BK178.out 1).trans rfl, (blk_cell BK178.out 2).trans rfl, (blk_cell BK178.out 3).trans rfl, (blk_cell BK178.out 4).trans rfl, (hc_ HB hw181_0), (hc_ HB hw181_1)⟩ (fun hHeld => ?_); refine with_tabW spec_l05Copy.tab5 spec_l05Copy.bits5 (fun HT_ HW_ => ?_)
      generalize wr.drew = w16 at HO_181003 BK178 BK179 BK180 HB hx181_0 hx181_1 hHeld ⊢
      refine pz_ 0 20 ba5_1 HT_ ?_
      refine pz_ 2 22 ba5_2 HT_ ?_
      refine pz_ 4 24 ba5_3 HT_ ?_
      refine pt_ 1 21 ba5_4 HT_ HW_ hHeld ?_
      refine pt_ 3 23 ba5_5 HT_ HW_ hHeld ?_
      refine pz_ 5 25 ba5_6 HT_ ?_
      refine pt_ 6 26 ba5_7 HT_ HW_ hHeld ?_
      refine one_ (i := 7) (N := some 27) ba5_8 rfl rfl (one_of HT_.out (by kernel_rfl)) (by decide) (fun K hK => ?_)
      refine value_ (w1 := ?_) (v := ?_) (by rfl) rfl ?_ ?_
      rotate_left 2
      ·go_simp
       constructor
       ·rfl
       ·rfl
      refine hK.out _ _ ⟨(blk_cell (blk_alloc BK180.out _) 0).trans rfl, (blk_cell (blk_alloc BK180.out _) 1).trans rfl, (blk_cell (blk_alloc BK180.out _) 2).trans rfl, (blk_cell (blk_alloc BK180.out _) 3).trans rfl, (blk_cell (blk_alloc BK180.out _) 4).trans rfl, (blk_cell (blk_alloc BK178.out _) 0).trans rfl, (blk_cell (blk_alloc BK178.out _) 1).trans rfl, (blk_cell (blk_alloc BK178.out _) 2).trans rfl, (blk_cell (blk_alloc BK178.out _) 3).trans rfl, (blk_cell (blk_alloc BK178.out _) 4).trans rfl, (World.cell?_alloc_lt _ _ _ (World.block_lt_of_cell? _ _ ((hc_ HB hw181_0)))).trans ((hc_ HB hw181_0)), (World.cell?_alloc_lt _ _ _ (World.block_lt_of_cell? _ _ ((hc_ HB hw181_1)))).trans ((hc_ HB hw181_1))⟩ (fun hHeld => ?_)
      clear hK K
      refine nz_ 27 ?_
      refine one_ (i := 8) (N := some 28) ba5_9 rfl rfl (one_of HT_.out (by kernel_rfl)) (by decide) (fun K hK => ?_)
      refine Kd.R_append_step k70 (w0 := w) w.heap.size (by rfl) (.tmp 21) (.tmp 27) 28 70 (.agg #[(.int .i64 0), (.int .i64 0)]) 16 rfl Try.underlying28 info70 rfl (by decide) (by omega) u181003 x181003_1 (⟨(rd_T70 l0_3 x4_1).f0, (rd_T70 l0_3 x4_1).f1⟩ : S70) [.int .i64 ((rd_T70 l0_3 x4_1).f0), .int .i64 ((rd_T70 l0_3 x4_1).f1)] (fun _ => True) (fun _ => False) rfl rfl ?aP (fun _ hk => hk.elim) ?aF ?aO ?aB ?aS ?aL ?_
      (case aP => exact k70_mkM _ _ _ (⟨(rd_T70 l0_3 x4_1).f0, (rd_T70 l0_3 x4_1).f1⟩ : S70))
      (case aB => exact (by repeat (first | (with_reducible first | exact HB.out | apply below_alloc | apply pw_below_drewN | apply below_drew1 | refine below_set ?_ GE178.out | refine below_set ?_ GE179.out | refine below_set ?_ GE180.out) | exact HB.out)))
      (case aF => exact (fun _ _ => trivial))
      (case aO => exact (hd_ HO_181003))
      (case aS => exact (bz_ HB))
      (case aL => have := LMc12.out; omega)
      intro v183 w17 ho hb hg hat
      rw [← Ny182.out] at ho
      have HO184 := Aside0.mk ho
      replace BK178 := Aside0.mk (blk_grown (g := gb178) (o := .cells #[.int .i64 a0_0, .int .i64 a0_1, .int .i64 a0_2, .slice (some ad181) l0_3.length c0_3, .slice A0_4 l0_4.length c0_4] 31 (0, 0)) (by (with_reducible repeat (first | refine blk_drewN ?_ _ | refine blk_drew ?_ | refine blk_alloc ?_ _)); exact BK178.out) hg (Kd.R_ne HO_181003.out BK178.out (by decide)))
      replace BK179 := Aside0.mk (blk_grown (g := gb179) (o := .cells #[.int .i64 0, .int .i64 0, .int .i64 0, .slice none 0 0, .slice none 0 0] 31 (0, 0)) (by (with_reducible repeat (first | refine blk_drewN ?_ _ | refine blk_drew ?_ | refine blk_alloc ?_ _)); exact BK179.out) hg (Kd.R_ne HO_181003.out BK179.out (by decide)))
      replace BK180 := Aside0.mk (blk_grown (g := gb180) (o := .cells #[.int .i64 a0_0, .int .i64 a0_1, .int .i64 a0_2, u181003, .slice none 0 0] 31 (0, 0)) (by (with_reducible repeat (first | refine blk_drewN ?_ _ | refine blk_drew ?_ | refine blk_alloc ?_ _)); exact BK180.out) hg (Kd.R_ne HO_181003.out BK180.out (by decide)))
      replace HB := Aside0.mk (hb)
      clear HO_181003
      clear ho hb hg hat
      obtain ⟨Ao18, co18, eo18⟩ := Kd.R_slice HO184.out
      (first | subst eo18 | (injection eo18 with f1_ f2_ f3_; have f4_ := f1_.symm; have f5_ := f3_.symm; clear f1_ f2_ f3_; subst f4_; subst f5_))
      refine hK.out _ _ ⟨(blk_cell BK180.out 0).trans rfl, (blk_cell BK180.out 1).trans rfl, (blk_cell BK180.out 2).trans rfl, (blk_cell BK180.out 3).trans rfl, (blk_cell BK180.out 4).trans rfl, (blk_cell BK178.out 0).trans rfl, (blk_cell BK178.out 1).trans rfl, (blk_cell BK178.out 2).trans rfl, (blk_cell BK178.out 3).trans rfl, (blk_cell BK178.out 4).trans rfl, (hc_ HB hw181_0), (hc_ HB hw181_1)⟩ (fun hHeld => ?_)
      clear hK K
      refine nz_ 28 ?_
      refine pz_ 9 29 ba5_10 HT_ ?_
      refine last_ (i := 10) (N := none) ba5_11 rfl rfl (one_of HT_.out (by kernel_rfl)) (by decide) (fun K hK => ?_)
      have hs19 : w17.cell? ⟨gb180, 3, none⟩ = some (u181003) := (blk_cell BK180.out 3).trans rfl
      have hfs19 := blk_frozen BK180.out 3
      have hns19_0 := NB178_180.out
      have hns19_1 := NB179_180.out
      have hms19_0 := NB180_178.out
      have hms19_1 := NB180_179.out
      refine skip_ (w1 := ?_) (by rfl) rfl ?_ ?_
      rotate_left; · go_simp; rfl
      refine hK.out _ _ ?_
      clear hK K
      refine done_ (done_of HT_.out (by kernel_rfl)) ?_
      try go_wp2
      go_roundg k1
      case measure => have := HK1.out; omega
      case rel => exact ⟨(wrap64 (x4_1 + 1)), (y182), (.slice Ao18 y182.length co18), (by first | rfl | (simp; done) | (simp [*]; done)), H', ⟨by have := HK1.out; omega⟩, ⟨by (with_reducible repeat (first | apply Kd.R_alloc | apply Kd.R_drewN | apply Kd.R_drew)); exact Kd.R_mono (Kd.R_far (p := ⟨gb180, 3, none⟩) (Kd.R_types HO184.out BK180.out (by decide)) (fun _ hk => hk.2) (.slice Ao18 y182.length co18)) (fun _ hk => trivial)⟩, ⟨by (with_reducible repeat (first | refine blk_drewN ?_ _ | refine blk_drew ?_ | refine blk_alloc ?_ _)); refine blk_far ?_ NB178_180.out _; (with_reducible repeat (first | refine blk_drewN ?_ _ | refine blk_drew ?_ | refine blk_alloc ?_ _)); exact BK178.out⟩, ⟨by (with_reducible repeat (first | refine blk_drewN ?_ _ | refine blk_drew ?_ | refine blk_alloc ?_ _)); refine blk_far ?_ NB179_180.out _; (with_reducible repeat (first | refine blk_drewN ?_ _ | refine blk_drew ?_ | refine blk_alloc ?_ _)); exact BK179.out⟩, ⟨by (with_reducible repeat (first | refine blk_drewN ?_ _ | refine blk_drew ?_ | refine blk_alloc ?_ _)); refine blk_put (cs := #[.int .i64 a0_0, .int .i64 a0_1, .int .i64 a0_2, u181003, .slice none 0 0]) ?_ 3 _ rfl; (with_reducible repeat (first | refine blk_drewN ?_ _ | refine blk_drew ?_ | refine blk_alloc ?_ _)); exact BK180.out⟩, ⟨by repeat (first | (with_reducible first | exact HB.out | apply below_alloc | apply pw_below_drewN | apply below_drew1 | refine below_set ?_ GE178.out | refine below_set ?_ GE179.out | refine below_set ?_ GE180.out) | exact HB.out)⟩⟩
     ·rw [if_neg c12] at H
      exact absurd H (by simp)
    ·rw [if_neg c11] at H
     exact absurd H (by simp)
   ·rw [if_neg c10] at H
    have c10b0 : decide (x4_1 < (l0_3.length : Int)) = false := decide_eq_false c10
    clear c10
    have H' := Aside0.mk H
    clear H
    have hnb20 := NB178_179.out
    have hnc20 := NB179_178.out
    have hnb21 := NB178_180.out
    have hnc21 := NB180_178.out
    have hcz22_0 := cz_ BK178 0 (.int .i64 a0_0)
    have hcz22_1 := cz_ BK178 1 (.int .i64 a0_1)
    have hcz22_2 := cz_ BK178 2 (.int .i64 a0_2)
    have hcz22_3 := cz_ BK178 3 (.slice A0_3 l0_3.length c0_3)
    have hcz22_4 := cz_ BK178 4 (.slice A0_4 l0_4.length c0_4)
    have hfz22_0 := blk_frozen BK178.out 0
    have hfz22_1 := blk_frozen BK178.out 1
    have hfz22_2 := blk_frozen BK178.out 2
    have hfz22_3 := blk_frozen BK178.out 3
    have hfz22_4 := blk_frozen BK178.out 4
    go_wp2
    go_loopg [5] k1 (fun kq v5 w' => ∃ (x5_2 : Int) (x181004_2 : List (S74)) (u181004 : Value), v5 = .int .i64 x5_2 ∧ Aside0 (spec_l05Copy.l1 kq x5_2 a0_0 a0_1 a0_2 l0_3 l0_4 a0_0 a0_1 a0_2 x181003_1 x181004_2 = some (r1, r2, r3, r4, r5)) ∧ Aside0 (kq ≤ k1) ∧ Aside0 (Kd.R k70 70 w' w.heap.size (fun _ => True) u181003 x181003_1) ∧ Aside0 (Kd.R k74 74 w' w.heap.size (fun _ => True) u181004 x181004_2) ∧ Aside0 (w'.heap[gb178]? = some (.cells #[.int .i64 a0_0, .int .i64 a0_1, .int .i64 a0_2, (.slice A0_3 l0_3.length c0_3), (.slice A0_4 l0_4.length c0_4)] 31 (0, 0))) ∧ Aside0 (w'.heap[gb179]? = some (.cells #[.int .i64 0, .int .i64 0, .int .i64 0, (.slice none 0 0), (.slice none 0 0)] 31 (0, 0))) ∧ Aside0 (w'.heap[gb180]? = some (.cells #[.int .i64 a0_0, .int .i64 a0_1, .int .i64 a0_2, u181003, u181004] 31 (0, 0))) ∧ Aside0 (Below w.heap.size w w'))
    case atStart => exact ⟨(0), (([] : List (S74))), (.slice none 0 0), (by first | rfl | (simp; done) | (simp [*]; done)), H', ⟨Nat.le_refl _⟩, ⟨by (with_reducible repeat (first | apply Kd.R_alloc | apply Kd.R_drewN | apply Kd.R_drew)); exact HO_181003.out⟩, ⟨by first | exact Kd.R_nil _ _ _ _ _ | exact Kd.N_nil _ _ _ _ _ | exact Kd.V_nil _ _ _ _ _ | exact Kd.Q_nil _ _ _ _ _ | exact Kd.S_nil _ _ _ _ _⟩, ⟨by (with_reducible repeat (first | refine blk_drewN ?_ _ | refine blk_drew ?_ | refine blk_alloc ?_ _)); exact BK178.out⟩, ⟨by (with_reducible repeat (first | refine blk_drewN ?_ _ | refine blk_drew ?_ | refine blk_alloc ?_ _)); exact BK179.out⟩, ⟨by (with_reducible repeat (first | refine blk_drewN ?_ _ | refine blk_drew ?_ | refine blk_alloc ?_ _)); exact BK180.out⟩, ⟨by repeat (first | (with_reducible first | exact HB.out | apply below_alloc | apply pw_below_drewN | apply below_drew1 | refine below_set ?_ GE178.out | refine below_set ?_ GE179.out | refine below_set ?_ GE180.out) | exact HB.out)⟩⟩
    case round =>
     clear H'
     try clear c1
     try clear p1
     try clear q1
     try clear hx1
     try clear c2
     try clear p2
     try clear c4
     try clear c6
     try clear p6
     try clear c7
     try clear c8
     try clear c10
     try clear c10b0
     try clear c11
     try clear c11b0
     try clear c12
     try clear c13
     try clear c14
     try clear p18
     try clear q18
     try clear hx18
     try clear c20
     try clear c21
     try clear hcz15_0
     try clear hcz15_1
     try clear hcz15_2
     try clear hcz15_3
     try clear hcz15_4
     try clear hcz22_0
     try clear hcz22_1
     try clear hcz22_2
     try clear hcz22_3
     try clear hcz22_4
     try clear hcz5_0
     try clear hcz5_1
     try clear hcz5_2
     try clear hcz5_3
     try clear hcz5_4
     try clear hcz9_0
     try clear hcz9_1
     try clear hcz9_2
     try clear hcz9_3
     try clear hcz9_4
     try clear hfz15_0
     try clear hfz15_1
     try clear hfz15_2
     try clear hfz15_3
     try clear hfz15_4
     try clear hfz22_0
     try clear hfz22_1
     try clear hfz22_2
     try clear hfz22_3
     try clear hfz22_4
     try clear hfz5_0
     try clear hfz5_1
     try clear hfz5_2
     try clear hfz5_3
     try clear hfz5_4
     try clear hfz9_0
     try clear hfz9_1
     try clear hfz9_2
     try clear hfz9_3
     try clear hfz9_4
     try clear hx181_0
     try clear hx181_1
     try clear p181
     try clear p2
     try clear q181
     obtain ⟨x5_2, x181004_2, u181004, rfl, HA, HK2, HO_181003, HO_181004, BK178, BK179, BK180, HB⟩ := hrel
     cases gk with
     | zero => exact absurd HA.out (by simp [spec_l05Copy.l1])
     | succ k2 =>
      have H := HA.out
      clear HA
      simp only [spec_l05Copy.l1] at H
      by_cases c23 : x5_2 < (l0_4.length : Int)
      ·rw [if_pos c23] at H
       have c23b0 : decide (x5_2 < (l0_4.length : Int)) = true := decide_eq_true c23
       clear c23
       by_cases c24 : 0 ≤ x5_2
       ·rw [if_pos c24] at H
        have c24b0 : decide (0 ≤ x5_2) = true := decide_eq_true c24
        clear c24
        by_cases c25 : x181004_2.length < 5864062014805
        ·rw [if_pos c25] at H
         have LMc25 := Aside0.mk c25
         clear c25
         obtain ⟨y186, hy186⟩ : ∃ y_ : List (S74), y_ = (x181004_2 ++ [(⟨(⟨(rd_T74 l0_4 x5_2).f0.f0, (rd_T74 l0_4 x5_2).f0.f1⟩ : S72), (rd_T74 l0_4 x5_2).f1⟩ : S74)]) := ⟨_, rfl⟩
         replace H : (spec_l05Copy.l1 k2 (wrap64 (x5_2 + 1)) a0_0 a0_1 a0_2 l0_3 l0_4 a0_0 a0_1 a0_2 x181003_1 y186) = some (r1, r2, r3, r4, r5) := by first | (rw [hy186]; with_reducible exact H) | (have H2_ := (Option.bind_some _ _).symm.trans H; rw [hy186]; with_reducible exact H2_) | (have H2_ := (Option.bind_some _ _).symm.trans H; with_reducible exact H2_) | with_reducible exact H | (rw [hy186]; exact H) | exact H
         have Ny186 := Aside0.mk hy186
         clear hy186
         have H' := Aside0.mk H
         clear H
         have hnb26 := NB178_179.out
         have hnc26 := NB179_178.out
         have hnb27 := NB178_180.out
         have hnc27 := NB180_178.out
         have hcz28_0 := cz_ BK178 0 (.int .i64 a0_0)
         have hcz28_1 := cz_ BK178 1 (.int .i64 a0_1)
         have hcz28_2 := cz_ BK178 2 (.int .i64 a0_2)
         have hcz28_3 := cz_ BK178 3 (.slice A0_3 l0_3.length c0_3)
         have hcz28_4 := cz_ BK178 4 (.slice A0_4 l0_4.length c0_4)
         have hfz28_0 := blk_frozen BK178.out 0
         have hfz28_1 := blk_frozen BK178.out 1
         have hfz28_2 := blk_frozen BK178.out 2
         have hfz28_3 := blk_frozen BK178.out 3
         have hfz28_4 := blk_frozen BK178.out 4
         try go_wp2
         replace HO_181003 := Aside0.mk (Kd.R_drew HO_181003.out)
         replace HO_181004 := Aside0.mk (Kd.R_drew HO_181004.out)
         replace BK178 := Aside0.mk (blk_drew BK178.out)
         replace BK179 := Aside0.mk (blk_drew BK179.out)
         replace BK180 := Aside0.mk (blk_drew BK180.out)
         replace HB := Aside0.mk (below_drew1 HB.out)
         have p185 : 0 ≤ (x5_2 : Int) := of_decide_eq_true (by first | (with_reducible assumption) | assumption)
         have q185 : x5_2 < (l0_4.length : Int) := of_decide_eq_true (by first | (with_reducible assumption) | assumption)
         obtain ⟨ad185, e185, hx185_0, hx185_1, hx185_2⟩ := at_T74 HR0_4.out x5_2 p185 q185
         have hw185_2 := hx185_2
         have hw185_1 := hx185_1
         have hw185_0 := hx185_0
         cases e185
         replace hx185_0 := (HB.out.cell (World.block_lt_of_cell? w _ hx185_0)).trans hx185_0
         replace hx185_1 := (HB.out.cell (World.block_lt_of_cell? w _ hx185_1)).trans hx185_1
         replace hx185_2 := (HB.out.cell (World.block_lt_of_cell? w _ hx185_2)).trans hx185_2
         replace p185 := eq_true p185
         replace q185 := eq_true q185
         refine start_ (n := 11) (S := fun w' => w'.cell? ⟨gb180, 0, none⟩ = some (.int .i64 a0_0) ∧ w'.cell? ⟨gb180, 1, none⟩ = some (.int .i64 a0_1) ∧ w'.cell? ⟨gb180, 2, none⟩ = some (.int .i64 a0_2) ∧ w'.cell? ⟨gb180, 3, none⟩ = some (u181003) ∧ w'.cell? ⟨gb180, 4, none⟩ = some (u181004) ∧ w'.cell? ⟨gb178, 0, none⟩ = some (.int .i64 a0_0) ∧ w'.cell? ⟨gb178, 1, none⟩ = some (.int .i64 a0_1) ∧ w'.cell? ⟨gb178, 2, none⟩ = some (.int .i64 a0_2) ∧ w'.cell? ⟨gb178, 3, none⟩ = some (.slice A0_3 l0_3.length c0_3) ∧ w'.cell? ⟨gb178, 4, none⟩ = some (.slice (some ad185) l0_4.length c0_4) ∧ w'.cell? (ad185.add ((x5_2).toNat * 3)) = some (.int .i64 ((rd_T74 l0_4 x5_2).f0.f0)) ∧ w'.cell? ⟨(ad185.add ((x5_2).toNat * 3)).block, (ad185.add ((x5_2).toNat * 3)).off + 1, none⟩ = some (.int .i64 ((rd_T74 l0_4 x5_2).f0.f1)) ∧ w'.cell? ⟨(ad185.add ((x5_2).toNat * 3)).block, (ad185.add ((x5_2).toNat * 3)).off + 2, none⟩ = some (.int .i64 ((rd_T74 l0_4 x5_2).f1))) (ds := [10]) ba5_0 (by kernel_rfl) rfl rfl ⟨(blk_cell BK180.out 0).trans rfl, (blk_cell BK180.out 1).trans rfl, (blk_cell BK180.out 2).trans rfl, (blk_cell BK180.out 3).trans rfl, (blk_cell BK180.out 4).trans rfl, (blk_cell BK178.out 0).trans rfl, (blk_cell BK178.out 1).trans rfl, (blk_cell BK178.out 2).trans rfl, (blk_cell BK178.out 3).trans rfl, (blk_cell BK178.out 4).trans rfl, (hc_ HB hw185_0), (hc_ HB hw185_1), (hc_ HB hw185_2)⟩ (fun hHeld => ?_); refine with_tabW spec_l05Copy.tab9 spec_l05Copy.bits9 (fun HT_ HW_ => ?_)
         generalize wr.drew = w29 at HO_181003 HO_181004 BK178 BK179 BK180 HB hx185_0 hx185_1 hx185_2 hHeld ⊢
         refine pz_ 0 37 ba5_1 HT_ ?_
         refine pz_ 2 39 ba5_2 HT_ ?_
         refine pz_ 4 41 ba5_3 HT_ ?_
         refine pt_ 1 38 ba5_4 HT_ HW_ hHeld ?_
         refine pt_ 3 40 ba5_5 HT_ HW_ hHeld ?_
         refine pz_ 5 42 ba5_6 HT_ ?_
         refine pt_ 6 43 ba5_7 HT_ HW_ hHeld ?_
         refine one_ (i := 7) (N := some 44) ba5_8 rfl rfl (one_of HT_.out (by kernel_rfl)) (by decide) (fun K hK => ?_)
         refine value_ (w1 := ?_) (v := ?_) (by rfl) rfl ?_ ?_
         rotate_left 2
         ·go_simp
          constructor
          ·rfl
          ·rfl
         refine hK.out _ _ ⟨(blk_cell (blk_alloc BK180.out _) 0).trans rfl, (blk_cell (blk_alloc BK180.out _) 1).trans rfl, (blk_cell (blk_alloc BK180.out _) 2).trans rfl, (blk_cell (blk_alloc BK180.out _) 3).trans rfl, (blk_cell (blk_alloc BK180.out _) 4).trans rfl, (blk_cell (blk_alloc BK178.out _) 0).trans rfl, (blk_cell (blk_alloc BK178.out _) 1).trans rfl, (blk_cell (blk_alloc BK178.out _) 2).trans rfl, (blk_cell (blk_alloc BK178.out _) 3).trans rfl, (blk_cell (blk_alloc BK178.out _) 4).trans rfl, (World.cell?_alloc_lt _ _ _ (World.block_lt_of_cell? _ _ ((hc_ HB hw185_0)))).trans ((hc_ HB hw185_0)), (World.cell?_alloc_lt _ _ _ (World.block_lt_of_cell? _ _ ((hc_ HB hw185_1)))).trans ((hc_ HB hw185_1)), (World.cell?_alloc_lt _ _ _ (World.block_lt_of_cell? _ _ ((hc_ HB hw185_2)))).trans ((hc_ HB hw185_2))⟩ (fun hHeld => ?_)
         clear hK K
         refine nz_ 44 ?_
         refine one_ (i := 8) (N := some 45) ba5_9 rfl rfl (one_of HT_.out (by kernel_rfl)) (by decide) (fun K hK => ?_)
         refine Kd.R_append_step k74 (w0 := w) w.heap.size (by rfl) (.tmp 38) (.tmp 44) 29 74 (.agg #[(.int .i64 0), (.int .i64 0), (.int .i64 0)]) 24 rfl Try.underlying29 info74 rfl (by decide) (by omega) u181004 x181004_2 (⟨(⟨(rd_T74 l0_4 x5_2).f0.f0, (rd_T74 l0_4 x5_2).f0.f1⟩ : S72), (rd_T74 l0_4 x5_2).f1⟩ : S74) [.int .i64 ((rd_T74 l0_4 x5_2).f0.f0), .int .i64 ((rd_T74 l0_4 x5_2).f0.f1), .int .i64 ((rd_T74 l0_4 x5_2).f1)] (fun _ => True) (fun _ => False) rfl rfl ?aP (fun _ hk => hk.elim) ?aF ?aO ?aB ?aS ?aL ?_
         (case aP => exact k74_mkM _ _ _ (⟨(⟨(rd_T74 l0_4 x5_2).f0.f0, (rd_T74 l0_4 x5_2).f0.f1⟩ : S72), (rd_T74 l0_4 x5_2).f1⟩ : S74))
         (case aB => exact (by repeat (first | (with_reducible first | exact HB.out | apply below_alloc | apply pw_below_drewN | apply below_drew1 | refine below_set ?_ GE178.out | refine below_set ?_ GE179.out | refine below_set ?_ GE180.out) | exact HB.out)))
         (case aF => exact (fun _ _ => trivial))
         (case aO => exact (hd_ HO_181004))
         (case aS => exact (bz_ HB))
         (case aL => have := LMc25.out; omega)
         intro v187 w30 ho hb hg hat
         rw [← Ny186.out] at ho
         have HO188 := Aside0.mk ho
         replace HO_181003 := Aside0.mk (Kd.R_over' (hd_ HO_181003) (Kd.R_typed (hd_ HO_181004)) (by decide) hg)
         replace BK178 := Aside0.mk (blk_grown (g := gb178) (o := .cells #[.int .i64 a0_0, .int .i64 a0_1, .int .i64 a0_2, .slice A0_3 l0_3.length c0_3, .slice (some ad185) l0_4.length c0_4] 31 (0, 0)) (by (with_reducible repeat (first | refine blk_drewN ?_ _ | refine blk_drew ?_ | refine blk_alloc ?_ _)); exact BK178.out) hg (Kd.R_ne HO_181004.out BK178.out (by decide)))
         replace BK179 := Aside0.mk (blk_grown (g := gb179) (o := .cells #[.int .i64 0, .int .i64 0, .int .i64 0, .slice none 0 0, .slice none 0 0] 31 (0, 0)) (by (with_reducible repeat (first | refine blk_drewN ?_ _ | refine blk_drew ?_ | refine blk_alloc ?_ _)); exact BK179.out) hg (Kd.R_ne HO_181004.out BK179.out (by decide)))
         replace BK180 := Aside0.mk (blk_grown (g := gb180) (o := .cells #[.int .i64 a0_0, .int .i64 a0_1, .int .i64 a0_2, u181003, u181004] 31 (0, 0)) (by (with_reducible repeat (first | refine blk_drewN ?_ _ | refine blk_drew ?_ | refine blk_alloc ?_ _)); exact BK180.out) hg (Kd.R_ne HO_181004.out BK180.out (by decide)))
         replace HB := Aside0.mk (hb)
         clear HO_181004
         clear ho hb hg hat
         obtain ⟨Ao31, co31, eo31⟩ := Kd.R_slice HO188.out
         (first | subst eo31 | (injection eo31 with f1_ f2_ f3_; have f4_ := f1_.symm; have f5_ := f3_.symm; clear f1_ f2_ f3_; subst f4_; subst f5_))
         refine hK.out _ _ ⟨(blk_cell BK180.out 0).trans rfl, (blk_cell BK180.out 1).trans rfl, (blk_cell BK180.out 2).trans rfl, (blk_cell BK180.out 3).trans rfl, (blk_cell BK180.out 4).trans rfl, (blk_cell BK178.out 0).trans rfl, (blk_cell BK178.out 1).trans rfl, (blk_cell BK178.out 2).trans rfl, (blk_cell BK178.out 3).trans rfl, (blk_cell BK178.out 4).trans rfl, (hc_ HB hw185_0), (hc_ HB hw185_1), (hc_ HB hw185_2)⟩ (fun hHeld => ?_)
         clear hK K
         refine nz_ 45 ?_
         refine pz_ 9 46 ba5_10 HT_ ?_
         refine last_ (i := 10) (N := none) ba5_11 rfl rfl (one_of HT_.out (by kernel_rfl)) (by decide) (fun K hK => ?_)
         have hs32 : w30.cell? ⟨gb180, 4, none⟩ = some (u181004) := (blk_cell BK180.out 4).trans rfl
         have hfs32 := blk_frozen BK180.out 4
         have hns32_0 := NB178_180.out
         have hns32_1 := NB179_180.out
         have hms32_0 := NB180_178.out
         have hms32_1 := NB180_179.out
         refine skip_ (w1 := ?_) (by rfl) rfl ?_ ?_
         rotate_left; · go_simp; rfl
         refine hK.out _ _ ?_
         clear hK K
         refine done_ (done_of HT_.out (by kernel_rfl)) ?_
         try go_wp2
         go_roundg k2
         case measure => have := HK1.out; have := HK2.out; omega
         case rel => exact ⟨(wrap64 (x5_2 + 1)), (y186), (.slice Ao31 y186.length co31), (by first | rfl | (simp; done) | (simp [*]; done)), H', ⟨by have := HK1.out; have := HK2.out; omega⟩, ⟨by (with_reducible repeat (first | apply Kd.R_alloc | apply Kd.R_drewN | apply Kd.R_drew)); exact Kd.R_mono (Kd.R_far (p := ⟨gb180, 4, none⟩) (Kd.R_types HO_181003.out BK180.out (by decide)) (fun _ hk => hk.2) (.slice Ao31 y186.length co31)) (fun _ hk => trivial)⟩, ⟨by (with_reducible repeat (first | apply Kd.R_alloc | apply Kd.R_drewN | apply Kd.R_drew)); exact Kd.R_mono (Kd.R_far (p := ⟨gb180, 4, none⟩) (Kd.R_types HO188.out BK180.out (by decide)) (fun _ hk => hk.2) (.slice Ao31 y186.length co31)) (fun _ hk => trivial)⟩, ⟨by (with_reducible repeat (first | refine blk_drewN ?_ _ | refine blk_drew ?_ | refine blk_alloc ?_ _)); refine blk_far ?_ NB178_180.out _; (with_reducible repeat (first | refine blk_drewN ?_ _ | refine blk_drew ?_ | refine blk_alloc ?_ _)); exact BK178.out⟩, ⟨by (with_reducible repeat (first | refine blk_drewN ?_ _ | refine blk_drew ?_ | refine blk_alloc ?_ _)); refine blk_far ?_ NB179_180.out _; (with_reducible repeat (first | refine blk_drewN ?_ _ | refine blk_drew ?_ | refine blk_alloc ?_ _)); exact BK179.out⟩, ⟨by (with_reducible repeat (first | refine blk_drewN ?_ _ | refine blk_drew ?_ | refine blk_alloc ?_ _)); refine blk_put (cs := #[.int .i64 a0_0, .int .i64 a0_1, .int .i64 a0_2, u181003, u181004]) ?_ 4 _ rfl; (with_reducible repeat (first | refine blk_drewN ?_ _ | refine blk_drew ?_ | refine blk_alloc ?_ _)); exact BK180.out⟩, ⟨by repeat (first | (with_reducible first | exact HB.out | apply below_alloc | apply pw_below_drewN | apply below_drew1 | refine below_set ?_ GE178.out | refine below_set ?_ GE179.out | refine below_set ?_ GE180.out) | exact HB.out)⟩⟩
        ·rw [if_neg c25] at H
         exact absurd H (by simp)
       ·rw [if_neg c24] at H
        exact absurd H (by simp)
      ·rw [if_neg c23] at H
       have c23b0 : decide (x5_2 < (l0_4.length : Int)) = false := decide_eq_false c23
       clear c23
       simp only [Option.some.injEq, Prod.mk.injEq] at H
       obtain ⟨rfl, rfl, rfl, rfl, rfl⟩ := H
       have hnb33 := NB178_179.out
       have hnc33 := NB179_178.out
       have hnb34 := NB178_180.out
       have hnc34 := NB180_178.out
       have hcz35_0 := cz_ BK178 0 (.int .i64 a0_0)
       have hcz35_1 := cz_ BK178 1 (.int .i64 a0_1)
       have hcz35_2 := cz_ BK178 2 (.int .i64 a0_2)
       have hcz35_3 := cz_ BK178 3 (.slice A0_3 l0_3.length c0_3)
       have hcz35_4 := cz_ BK178 4 (.slice A0_4 l0_4.length c0_4)
       have hfz35_0 := blk_frozen BK178.out 0
       have hfz35_1 := blk_frozen BK178.out 1
       have hfz35_2 := blk_frozen BK178.out 2
       have hfz35_3 := blk_frozen BK178.out 3
       have hfz35_4 := blk_frozen BK178.out 4
       have hnb36 := NB180_179.out
       have hnc36 := NB179_180.out
       have hcz37_0 := cz_ BK180 0 (.int .i64 a0_0)
       have hcz37_1 := cz_ BK180 1 (.int .i64 a0_1)
       have hcz37_2 := cz_ BK180 2 (.int .i64 a0_2)
       have hcz37_3 := cz_ BK180 3 (u181003)
       have hcz37_4 := cz_ BK180 4 (u181004)
       have hfz37_0 := blk_frozen BK180.out 0
       have hfz37_1 := blk_frozen BK180.out 1
       have hfz37_2 := blk_frozen BK180.out 2
       have hfz37_3 := blk_frozen BK180.out 3
       have hfz37_4 := blk_frozen BK180.out 4
       have hcz38_0 := cz_ BK179 0 (.int .i64 0)
       have hcz38_1 := cz_ BK179 1 (.int .i64 0)
       have hcz38_2 := cz_ BK179 2 (.int .i64 0)
       have hcz38_3 := cz_ BK179 3 (.slice none 0 0)
       have hcz38_4 := cz_ BK179 4 (.slice none 0 0)
       have hfz38_0 := blk_frozen BK179.out 0
       have hfz38_1 := blk_frozen BK179.out 1
       have hfz38_2 := blk_frozen BK179.out 2
       have hfz38_3 := blk_frozen BK179.out 3
       have hfz38_4 := blk_frozen BK179.out 4
       obtain ⟨Ao39, co39, eo39⟩ := Kd.R_slice HO_181003.out
       subst eo39
       obtain ⟨Ao40, co40, eo40⟩ := Kd.R_slice HO_181004.out
       subst eo40
       go_wp2
       refine bodyPost_ret (results_cell_row rfl _ _ gb179 31 #[.int .i64 a0_0, .int .i64 a0_1, .int .i64 a0_2, .slice Ao39 x181003_1.length co39, .slice Ao40 x181004_2.length co40] (0, 0) _ rfl (by (with_reducible repeat (first | refine blk_drewN ?_ _ | refine blk_drew ?_ | refine blk_alloc ?_ _)); refine blk_put (cs := #[.int .i64 a0_0, .int .i64 a0_1, .int .i64 a0_2, .slice Ao39 x181003_1.length co39, .slice none 0 0]) ?_ 4 _ rfl; (with_reducible repeat (first | refine blk_drewN ?_ _ | refine blk_drew ?_ | refine blk_alloc ?_ _)); refine blk_put (cs := #[.int .i64 a0_0, .int .i64 a0_1, .int .i64 a0_2, .slice none 0 0, .slice none 0 0]) ?_ 3 _ rfl; (with_reducible repeat (first | refine blk_drewN ?_ _ | refine blk_drew ?_ | refine blk_alloc ?_ _)); refine blk_put (cs := #[.int .i64 a0_0, .int .i64 a0_1, .int .i64 0, .slice none 0 0, .slice none 0 0]) ?_ 2 _ rfl; (with_reducible repeat (first | refine blk_drewN ?_ _ | refine blk_drew ?_ | refine blk_alloc ?_ _)); refine blk_put (cs := #[.int .i64 a0_0, .int .i64 0, .int .i64 0, .slice none 0 0, .slice none 0 0]) ?_ 1 _ rfl; (with_reducible repeat (first | refine blk_drewN ?_ _ | refine blk_drew ?_ | refine blk_alloc ?_ _)); refine blk_put (cs := #[.int .i64 0, .int .i64 0, .int .i64 0, .slice none 0 0, .slice none 0 0]) ?_ 0 _ rfl; (with_reducible repeat (first | refine blk_drewN ?_ _ | refine blk_drew ?_ | refine blk_alloc ?_ _)); exact BK179.out) Try.underlying31 rfl (by kernel_rfl)) rfl ?_
       exact ⟨_, _, by first | rfl | (simp [errW_none, errW_some] <;> rfl) | (simp [*, errW_none, errW_some] <;> rfl), by (with_reducible repeat (first | apply Kd.R_alloc | apply Kd.R_drewN | apply Kd.R_drew)); exact Kd.R_mono (Kd.R_far (p := ⟨gb179, 4, none⟩) (Kd.R_far (p := ⟨gb179, 3, none⟩) (Kd.R_far (p := ⟨gb179, 2, none⟩) (Kd.R_far (p := ⟨gb179, 1, none⟩) (Kd.R_far (p := ⟨gb179, 0, none⟩) (Kd.R_types HO_181003.out BK179.out (by decide)) (fun _ hk => hk.2) (.int .i64 a0_0)) (fun _ hk => hk.2) (.int .i64 a0_1)) (fun _ hk => hk.2) (.int .i64 a0_2)) (fun _ hk => hk.2) (.slice Ao39 x181003_1.length co39)) (fun _ hk => hk.2) (.slice Ao40 x181004_2.length co40)) (fun _ hk => trivial), by (with_reducible repeat (first | apply Kd.R_alloc | apply Kd.R_drewN | apply Kd.R_drew)); exact Kd.R_mono (Kd.R_far (p := ⟨gb179, 4, none⟩) (Kd.R_far (p := ⟨gb179, 3, none⟩) (Kd.R_far (p := ⟨gb179, 2, none⟩) (Kd.R_far (p := ⟨gb179, 1, none⟩) (Kd.R_far (p := ⟨gb179, 0, none⟩) (Kd.R_types HO_181004.out BK179.out (by decide)) (fun _ hk => hk.2) (.int .i64 a0_0)) (fun _ hk => hk.2) (.int .i64 a0_1)) (fun _ hk => hk.2) (.int .i64 a0_2)) (fun _ hk => hk.2) (.slice Ao39 x181003_1.length co39)) (fun _ hk => hk.2) (.slice Ao40 x181004_2.length co40)) (fun _ hk => trivial), by repeat (first | (with_reducible first | exact HB.out | apply below_alloc | apply pw_below_drewN | apply below_drew1 | refine below_set ?_ GE178.out | refine below_set ?_ GE179.out | refine below_set ?_ GE180.out) | exact HB.out)⟩

/-! ### spec_NextLsa: function 29 -/
def spec_NextLsa.f (k : Nat) (a0_0 : Int) (a0_1 : Int) (a0_2 : Int) (l0_3 : List (S70)) (l0_4 : List (S74)) (l1 : List (S70)) (l2 : List (S74)) : Option (Int × Int × Int × (List (S70)) × (List (S74)) × Bool) := (spec_LsaOk.f k a0_0 a0_1 a0_2 l0_3 l0_4).bind fun t191 => (if t191 = true then ((spec_l05Copy.f k a0_0 (wrap64 (a0_1 + 1)) 0 l1 l2).bind fun bt192 => ((spec_LsaOk.f k bt192.1 bt192.2.1 bt192.2.2.1 bt192.2.2.2.1 bt192.2.2.2.2).bind fun t202 => (if t202 = true then (some (bt192.1, bt192.2.1, bt192.2.2.1, bt192.2.2.2.1, bt192.2.2.2.2, true)) else (some (0, 0, 0, ([] : List (S70)), ([] : List (S74)), false))))) else (some (0, 0, 0, ([] : List (S70)), ([] : List (S74)), false)))
theorem spec_NextLsa.mono : ∀ a0 a1 a2 a3 a4 a5 a6 k, LeO (spec_NextLsa.f k a0 a1 a2 a3 a4 a5 a6) (spec_NextLsa.f (k + 1) a0 a1 a2 a3 a4 a5 a6) := by
 intro a0 a1 a2 a3 a4 a5 a6 k
 unfold spec_NextLsa.f
 repeat' first
   | (with_reducible exact spec_LsaOk.mono _ _ _ _ _ _)
   | (with_reducible exact spec_l05Copy.mono _ _ _ _ _ _)
   | (with_reducible exact LeO.refl _)
   | (with_reducible exact LeO.none _)
   | (with_reducible refine LeO.ite ?_ ?_)
   | (with_reducible refine LeO.bind ?_ (fun _ => ?_))
   | exact spec_LsaOk.mono _ _ _ _ _ _
   | exact spec_l05Copy.mono _ _ _ _ _ _
   | exact LeO.none _
   | refine LeO.ite ?_ ?_
   | refine LeO.bind ?_ (fun _ => ?_)
set_option maxHeartbeats 8000000 in
set_option maxRecDepth 100000 in
theorem spec_NextLsa.calls (k : Nat) (a0_0 : Int) (a0_1 : Int) (a0_2 : Int) (A0_3 : Option Addr) (c0_3 : Nat) (l0_3 : List (S70)) (A0_4 : Option Addr) (c0_4 : Nat) (l0_4 : List (S74)) (A1 : Option Addr) (c1 : Nat) (l1 : List (S70)) (A2 : Option Addr) (c2 : Nat) (l2 : List (S74)) (r1 : Int) (r2 : Int) (r3 : Int) (r4 : List (S70)) (r5 : List (S74)) (r6 : Bool) (w : World) (hr0_3 : Kd.C k70 w A0_3 l0_3.length l0_3) (hc0_3 : l0_3.length ≤ c0_3) (hr0_4 : Kd.C k74 w A0_4 l0_4.length l0_4) (hc0_4 : l0_4.length ≤ c0_4) (hr1 : Kd.C k70 w A1 l1.length l1) (hc1 : l1.length ≤ c1) (hr2 : Kd.C k74 w A2 l2.length l2) (hc2 : l2.length ≤ c2) (h : spec_NextLsa.f k a0_0 a0_1 a0_2 l0_3 l0_4 l1 l2 = some (r1, r2, r3, r4, r5, r6)) :
  Calls Try.prog 29 #[.agg #[.int .i64 a0_0, .int .i64 a0_1, .int .i64 a0_2, .slice A0_3 l0_3.length c0_3, .slice A0_4 l0_4.length c0_4], .slice A1 l1.length c1, .slice A2 l2.length c2] w fun e w' => ∃ v3_ v4_ : Value, e = .returned (.tuple #[.agg #[.int .i64 r1, .int .i64 r2, .int .i64 r3, v3_, v4_], .bool r6]) ∧ Kd.R k70 70 w' w.heap.size (fun _ => True) v3_ r4 ∧ Kd.R k74 74 w' w.heap.size (fun _ => True) v4_ r5 ∧ Below w.heap.size w w' := by
 have hu31 := Try.underlying31
 have HR0_3 := Aside0.mk hr0_3
 have HC0_3 := Aside0.mk hc0_3
 clear hr0_3 hc0_3
 have HR0_4 := Aside0.mk hr0_4
 have HC0_4 := Aside0.mk hc0_4
 clear hr0_4 hc0_4
 have HR1 := Aside0.mk hr1
 have HC1 := Aside0.mk hc1
 clear hr1 hc1
 have HR2 := Aside0.mk hr2
 have HC2 := Aside0.mk hc2
 clear hr2 hc2
 have HB := Aside0.mk (Below.refl w.heap.size w)
 have H : ((spec_LsaOk.f k a0_0 a0_1 a0_2 l0_3 l0_4).bind fun t191 => (if t191 = true then ((spec_l05Copy.f k a0_0 (wrap64 (a0_1 + 1)) 0 l1 l2).bind fun bt192 => ((spec_LsaOk.f k bt192.1 bt192.2.1 bt192.2.2.1 bt192.2.2.2.1 bt192.2.2.2.2).bind fun t202 => (if t202 = true then (some (bt192.1, bt192.2.1, bt192.2.2.1, bt192.2.2.2.1, bt192.2.2.2.2, true)) else (some (0, 0, 0, ([] : List (S70)), ([] : List (S74)), false))))) else (some (0, 0, 0, ([] : List (S70)), ([] : List (S74)), false)))) = some (r1, r2, r3, r4, r5, r6) := h
 clear h
 replace H := Option.bind_eq_some_iff.mp H
 obtain ⟨t191, A40, H⟩ := H
 have A4 := Aside0.mk A40
 clear A40
 by_cases c5 : t191 = true
 ·subst c5
  rw [if_pos rfl] at H
  replace H := Option.bind_eq_some_iff.mp H
  obtain ⟨⟨t192, t193, t194, t195, t198⟩, A60, H⟩ := H
  have A6 := Aside0.mk A60
  clear A60
  replace H := Option.bind_eq_some_iff.mp H
  obtain ⟨t202, A70, H⟩ := H
  have A7 := Aside0.mk A70
  clear A70
  by_cases c8 : t202 = true
  ·subst c8
   rw [if_pos rfl] at H
   simp only [Option.some.injEq, Prod.mk.injEq] at H
   obtain ⟨rfl, rfl, rfl, rfl, rfl, rfl⟩ := H
   go_enter Try.func29, Try.ntmps29
   go_wp2_with (first | ((with_reducible refine gate_dst (N := 3) rfl ?_); refine box_event ?hg (N := 3) ?hd (cs := #[.int .i64 a0_0, .int .i64 a0_1, .int .i64 a0_2, .slice A0_3 l0_3.length c0_3, .slice A0_4 l0_4.length c0_4]) (t := 31) ?hr ?_; (case hd => rfl); (case hg => rfl); (case hr => first | (go_simp; done) | (go_simp; rfl)); intro gb189 hg w9 hbox hb; have BK189 := Aside0.mk hbox; have GW189 := ge_ HB hg; have GE189 := ge_ HB hg; replace HB := Aside0.mk (bt_ HB hb); clear hb hbox hg) | ((with_reducible refine gate_dst (N := 6) rfl ?_); refine box_event ?hg (N := 6) ?hd (cs := #[.int .i64 0, .int .i64 0, .int .i64 0, .slice none 0 0, .slice none 0 0]) (t := 31) ?hr ?_; (case hd => rfl); (case hg => rfl); (case hr => first | (go_simp; done) | (go_simp; rfl)); intro gb190 hg w10 hbox hb; have BK190 := Aside0.mk hbox; have GW190 := ge_ HB hg; have GE190 := ge_ HB hg; have NB189_190 := nl_ BK189 hg; have NB190_189 := ng_ BK189 hg; replace HB := Aside0.mk (bt_ HB hb); replace BK189 := Aside0.mk (bb_ BK189 hb); clear hb hbox hg; have hnb11 := NB189_190.out; have hnc11 := NB190_189.out; have hcz12_0 := cz_ BK189 0 (.int .i64 a0_0); have hcz12_1 := cz_ BK189 1 (.int .i64 a0_1); have hcz12_2 := cz_ BK189 2 (.int .i64 a0_2); have hcz12_3 := cz_ BK189 3 (.slice A0_3 l0_3.length c0_3); have hcz12_4 := cz_ BK189 4 (.slice A0_4 l0_4.length c0_4); have hfz12_0 := blk_frozen BK189.out 0; have hfz12_1 := blk_frozen BK189.out 1; have hfz12_2 := blk_frozen BK189.out 2; have hfz12_3 := blk_frozen BK189.out 3; have hfz12_4 := blk_frozen BK189.out 4) | ((with_reducible refine gate_callee (f := 14) rfl ?_); refine gl_ (some 10) Try.func14 #[.agg #[.int .i64 a0_0, .int .i64 a0_1, .int .i64 a0_2, .slice A0_3 l0_3.length c0_3, .slice A0_4 l0_4.length c0_4]] ?_; (with_reducible refine (spec_LsaOk.calls k a0_0 a0_1 a0_2 _ _ l0_3 _ _ l0_4 true _ ?side1 ?side2 ?side3 ?side4 A4.out).mono ?_); (case side1 => exact cb_ HR0_3 HB); (case side2 => exact HC0_3.out); (case side3 => exact cb_ HR0_4 HB); (case side4 => exact HC0_4.out); rintro e w13 ⟨rfl, hb⟩; refine ⟨_, rfl, ?_⟩; replace BK189 := Aside0.mk (bb_ BK189 hb); replace BK190 := Aside0.mk (bb_ BK190 hb); replace HB := Aside0.mk (bt_ HB hb); (try clear hb); (try clear hb2); (try clear hk); (try clear hi); have hcz14_0 := cz_ BK189 0 (.int .i64 a0_0); have hcz14_1 := cz_ BK189 1 (.int .i64 a0_1); have hcz14_2 := cz_ BK189 2 (.int .i64 a0_2); have hcz14_3 := cz_ BK189 3 (.slice A0_3 l0_3.length c0_3); have hcz14_4 := cz_ BK189 4 (.slice A0_4 l0_4.length c0_4); have hfz14_0 := blk_frozen BK189.out 0; have hfz14_1 := blk_frozen BK189.out 1; have hfz14_2 := blk_frozen BK189.out 2; have hfz14_3 := blk_frozen BK189.out 3; have hfz14_4 := blk_frozen BK189.out 4) | ((with_reducible refine gate_callee (f := 64) rfl ?_); refine gl_ (some 21) Try.func64 #[.agg #[.int .i64 a0_0, .int .i64 (wrap64 (a0_1 + 1)), .int .i64 0, .slice A1 l1.length c1, .slice A2 l2.length c2]] ?_; (with_reducible refine (spec_l05Copy.calls k a0_0 (wrap64 (a0_1 + 1)) 0 _ _ l1 _ _ l2 t192 t193 t194 t195 t198 _ ?side1 ?side2 ?side3 ?side4 A6.out).mono ?_); (case side1 => exact cb_ HR1 HB); (case side2 => exact HC1.out); (case side3 => exact cb_ HR2 HB); (case side4 => exact HC2.out); rintro e w15 ⟨v196, v199, rfl, ho0, ho1, hb⟩; refine ⟨_, rfl, ?_⟩; have HO197 := Aside0.mk (Kd.R_lower ho0 (bz_ HB)); have HO200 := Aside0.mk (Kd.R_lower ho1 (bz_ HB)); replace BK189 := Aside0.mk (bb_ BK189 hb); replace BK190 := Aside0.mk (bb_ BK190 hb); replace HB := Aside0.mk (bt_ HB hb); (try clear hb); (try clear hb2); (try clear hk); (try clear hi); (try clear ho0); (try clear ho1)) | ((with_reducible refine gate_dst (N := 8) rfl ?_); refine box_event ?hg (N := 8) ?hd (cs := #[.int .i64 0, .int .i64 0, .int .i64 0, .slice none 0 0, .slice none 0 0]) (t := 31) ?hr ?_; (case hd => rfl); (case hg => rfl); (case hr => first | (go_simp; done) | (go_simp; rfl)); intro gb201 hg w16 hbox hb; have BK201 := Aside0.mk hbox; have GW201 := ge_ HB hg; have GE201 := ge_ HB hg; have NB189_201 := nl_ BK189 hg; have NB201_189 := ng_ BK189 hg; have NB190_201 := nl_ BK190 hg; have NB201_190 := ng_ BK190 hg; replace HO197 := rb_ HO197 hb; replace HO200 := rb_ HO200 hb; replace HB := Aside0.mk (bt_ HB hb); replace BK189 := Aside0.mk (bb_ BK189 hb); replace BK190 := Aside0.mk (bb_ BK190 hb); clear hb hbox hg; have hnb17 := NB201_189.out; have hnc17 := NB189_201.out; have hnb18 := NB201_190.out; have hnc18 := NB190_201.out; have hcz19_0 := cz_ BK201 0 (.int .i64 0); have hcz19_1 := cz_ BK201 1 (.int .i64 0); have hcz19_2 := cz_ BK201 2 (.int .i64 0); have hcz19_3 := cz_ BK201 3 (.slice none 0 0); have hcz19_4 := cz_ BK201 4 (.slice none 0 0); have hfz19_0 := blk_frozen BK201.out 0; have hfz19_1 := blk_frozen BK201.out 1; have hfz19_2 := blk_frozen BK201.out 2; have hfz19_3 := blk_frozen BK201.out 3; have hfz19_4 := blk_frozen BK201.out 4; obtain ⟨Ao20, co20, eo20⟩ := Kd.R_slice HO197.out; subst eo20; obtain ⟨Ao21, co21, eo21⟩ := Kd.R_slice HO200.out; subst eo21) | ((with_reducible refine gate_callee (f := 14) rfl ?_); refine gl_ (some 23) Try.func14 #[.agg #[.int .i64 t192, .int .i64 t193, .int .i64 t194, .slice Ao20 t195.length co20, .slice Ao21 t198.length co21]] ?_; (with_reducible refine (spec_LsaOk.calls k t192 t193 t194 _ _ t195 _ _ t198 true _ ?side1 ?side2 ?side3 ?side4 A7.out).mono ?_); (case side1 => refine (Kd.R_reads' (e := 70) (base := w.heap.size) (ok := fun k_ => True) (n := t195.length) (c := co20) ?_).2.2; exact (hs_ HO197 BK201)); (case side2 => exact (Kd.R_reads' HO197.out).2.1); (case side3 => refine (Kd.R_reads' (e := 74) (base := w.heap.size) (ok := fun k_ => True) (n := t198.length) (c := co21) ?_).2.2; exact (hs_ HO200 BK201)); (case side4 => exact (Kd.R_reads' HO200.out).2.1); rintro e w22 ⟨rfl, hb⟩; refine ⟨_, rfl, ?_⟩; replace HO197 := rs_ HO197 BK201 hb; replace HO200 := rs_ HO200 BK201 hb; replace BK189 := bf_ BK189 NB189_201 hb; replace BK190 := bf_ BK190 NB190_201 hb; replace BK201 := Aside0.mk (blk_below (g := gb201) (o := .cells #[.int .i64 t192, .int .i64 t193, .int .i64 t194, .slice Ao20 t195.length co20, .slice Ao21 t198.length co21] 31 (0, 0)) (by (with_reducible repeat (first | refine blk_drewN ?_ _ | refine blk_drew ?_ | refine blk_alloc ?_ _)); refine blk_put (cs := #[.int .i64 t192, .int .i64 t193, .int .i64 t194, .slice Ao20 t195.length co20, .slice none 0 0]) ?_ 4 _ rfl; (with_reducible repeat (first | refine blk_drewN ?_ _ | refine blk_drew ?_ | refine blk_alloc ?_ _)); refine blk_put (cs := #[.int .i64 t192, .int .i64 t193, .int .i64 t194, .slice none 0 0, .slice none 0 0]) ?_ 3 _ rfl; (with_reducible repeat (first | refine blk_drewN ?_ _ | refine blk_drew ?_ | refine blk_alloc ?_ _)); refine blk_put (cs := #[.int .i64 t192, .int .i64 t193, .int .i64 0, .slice none 0 0, .slice none 0 0]) ?_ 2 _ rfl; (with_reducible repeat (first | refine blk_drewN ?_ _ | refine blk_drew ?_ | refine blk_alloc ?_ _)); refine blk_put (cs := #[.int .i64 t192, .int .i64 0, .int .i64 0, .slice none 0 0, .slice none 0 0]) ?_ 1 _ rfl; (with_reducible repeat (first | refine blk_drewN ?_ _ | refine blk_drew ?_ | refine blk_alloc ?_ _)); refine blk_put (cs := #[.int .i64 0, .int .i64 0, .int .i64 0, .slice none 0 0, .slice none 0 0]) ?_ 0 _ rfl; (with_reducible repeat (first | refine blk_drewN ?_ _ | refine blk_drew ?_ | refine blk_alloc ?_ _)); exact BK201.out) hb); replace HB := Aside0.mk (bt_ HB hb); (try clear hb); (try clear hb2); (try clear hk); (try clear hi); have hcz23_0 := cz_ BK201 0 (.int .i64 t192); have hcz23_1 := cz_ BK201 1 (.int .i64 t193); have hcz23_2 := cz_ BK201 2 (.int .i64 t194); have hcz23_3 := cz_ BK201 3 (.slice Ao20 t195.length co20); have hcz23_4 := cz_ BK201 4 (.slice Ao21 t198.length co21); have hfz23_0 := blk_frozen BK201.out 0; have hfz23_1 := blk_frozen BK201.out 1; have hfz23_2 := blk_frozen BK201.out 2; have hfz23_3 := blk_frozen BK201.out 3; have hfz23_4 := blk_frozen BK201.out 4; have hcz24_0 := cz_ BK190 0 (.int .i64 0); have hcz24_1 := cz_ BK190 1 (.int .i64 0); have hcz24_2 := cz_ BK190 2 (.int .i64 0); have hcz24_3 := cz_ BK190 3 (.slice none 0 0); have hcz24_4 := cz_ BK190 4 (.slice none 0 0); have hfz24_0 := blk_frozen BK190.out 0; have hfz24_1 := blk_frozen BK190.out 1; have hfz24_2 := blk_frozen BK190.out 2; have hfz24_3 := blk_frozen BK190.out 3; have hfz24_4 := blk_frozen BK190.out 4))
   refine bodyPost_ret (results_ct rfl _ _ gb190 31 #[.int .i64 t192, .int .i64 t193, .int .i64 t194, .slice Ao20 t195.length co20, .slice Ao21 t198.length co21] (0, 0) _ rfl (by (with_reducible repeat (first | refine blk_drewN ?_ _ | refine blk_drew ?_ | refine blk_alloc ?_ _)); refine blk_put (cs := #[.int .i64 t192, .int .i64 t193, .int .i64 t194, .slice Ao20 t195.length co20, .slice none 0 0]) ?_ 4 _ rfl; (with_reducible repeat (first | refine blk_drewN ?_ _ | refine blk_drew ?_ | refine blk_alloc ?_ _)); refine blk_put (cs := #[.int .i64 t192, .int .i64 t193, .int .i64 t194, .slice none 0 0, .slice none 0 0]) ?_ 3 _ rfl; (with_reducible repeat (first | refine blk_drewN ?_ _ | refine blk_drew ?_ | refine blk_alloc ?_ _)); refine blk_put (cs := #[.int .i64 t192, .int .i64 t193, .int .i64 0, .slice none 0 0, .slice none 0 0]) ?_ 2 _ rfl; (with_reducible repeat (first | refine blk_drewN ?_ _ | refine blk_drew ?_ | refine blk_alloc ?_ _)); refine blk_put (cs := #[.int .i64 t192, .int .i64 0, .int .i64 0, .slice none 0 0, .slice none 0 0]) ?_ 1 _ rfl; (with_reducible repeat (first | refine blk_drewN ?_ _ | refine blk_drew ?_ | refine blk_alloc ?_ _)); refine blk_put (cs := #[.int .i64 0, .int .i64 0, .int .i64 0, .slice none 0 0, .slice none 0 0]) ?_ 0 _ rfl; (with_reducible repeat (first | refine blk_drewN ?_ _ | refine blk_drew ?_ | refine blk_alloc ?_ _)); exact BK190.out) Try.underlying31 rfl (by kernel_rfl)) rfl ?_
   exact ⟨_, _, by first | rfl | (simp [errW_none, errW_some] <;> rfl) | (simp [*, errW_none, errW_some] <;> rfl), by (with_reducible repeat (first | apply Kd.R_alloc | apply Kd.R_drewN | apply Kd.R_drew)); exact Kd.R_mono (Kd.R_far (p := ⟨gb190, 4, none⟩) (Kd.R_far (p := ⟨gb190, 3, none⟩) (Kd.R_far (p := ⟨gb190, 2, none⟩) (Kd.R_far (p := ⟨gb190, 1, none⟩) (Kd.R_far (p := ⟨gb190, 0, none⟩) (Kd.R_types HO197.out BK190.out (by decide)) (fun _ hk => hk.2) (.int .i64 t192)) (fun _ hk => hk.2) (.int .i64 t193)) (fun _ hk => hk.2) (.int .i64 t194)) (fun _ hk => hk.2) (.slice Ao20 t195.length co20)) (fun _ hk => hk.2) (.slice Ao21 t198.length co21)) (fun _ hk => trivial), by (with_reducible repeat (first | apply Kd.R_alloc | apply Kd.R_drewN | apply Kd.R_drew)); exact Kd.R_mono (Kd.R_far (p := ⟨gb190, 4, none⟩) (Kd.R_far (p := ⟨gb190, 3, none⟩) (Kd.R_far (p := ⟨gb190, 2, none⟩) (Kd.R_far (p := ⟨gb190, 1, none⟩) (Kd.R_far (p := ⟨gb190, 0, none⟩) (Kd.R_types HO200.out BK190.out (by decide)) (fun _ hk => hk.2) (.int .i64 t192)) (fun _ hk => hk.2) (.int .i64 t193)) (fun _ hk => hk.2) (.int .i64 t194)) (fun _ hk => hk.2) (.slice Ao20 t195.length co20)) (fun _ hk => hk.2) (.slice Ao21 t198.length co21)) (fun _ hk => trivial), by repeat (first | (with_reducible first | exact HB.out | apply below_alloc | apply pw_below_drewN | apply below_drew1 | refine below_set ?_ GE189.out | refine below_set ?_ GE190.out | refine below_set ?_ GE201.out) | exact HB.out)⟩
  ·replace c8 := Bool.eq_false_iff.mpr c8
   subst c8
   rw [if_neg (show ¬ (false = true) by decide)] at H
   simp only [Option.some.injEq, Prod.mk.injEq] at H
   obtain ⟨rfl, rfl, rfl, rfl, rfl, rfl⟩ := H
   go_enter Try.func29, Try.ntmps29
   go_wp2_with (first | ((with_reducible refine gate_dst (N := 3) rfl ?_); refine box_event ?hg (N := 3) ?hd (cs := #[.int .i64 a0_0, .int .i64 a0_1, .int .i64 a0_2, .slice A0_3 l0_3.length c0_3, .slice A0_4 l0_4.length c0_4]) (t := 31) ?hr ?_; (case hd => rfl); (case hg => rfl); (case hr => first | (go_simp; done) | (go_simp; rfl)); intro gb189 hg w25 hbox hb; have BK189 := Aside0.mk hbox; have GW189 := ge_ HB hg; have GE189 := ge_ HB hg; replace HB := Aside0.mk (bt_ HB hb); clear hb hbox hg) | ((with_reducible refine gate_dst (N := 6) rfl ?_); refine box_event ?hg (N := 6) ?hd (cs := #[.int .i64 0, .int .i64 0, .int .i64 0, .slice none 0 0, .slice none 0 0]) (t := 31) ?hr ?_; (case hd => rfl); (case hg => rfl); (case hr => first | (go_simp; done) | (go_simp; rfl)); intro gb190 hg w26 hbox hb; have BK190 := Aside0.mk hbox; have GW190 := ge_ HB hg; have GE190 := ge_ HB hg; have NB189_190 := nl_ BK189 hg; have NB190_189 := ng_ BK189 hg; replace HB := Aside0.mk (bt_ HB hb); replace BK189 := Aside0.mk (bb_ BK189 hb); clear hb hbox hg; have hnb27 := NB189_190.out; have hnc27 := NB190_189.out; have hcz28_0 := cz_ BK189 0 (.int .i64 a0_0); have hcz28_1 := cz_ BK189 1 (.int .i64 a0_1); have hcz28_2 := cz_ BK189 2 (.int .i64 a0_2); have hcz28_3 := cz_ BK189 3 (.slice A0_3 l0_3.length c0_3); have hcz28_4 := cz_ BK189 4 (.slice A0_4 l0_4.length c0_4); have hfz28_0 := blk_frozen BK189.out 0; have hfz28_1 := blk_frozen BK189.out 1; have hfz28_2 := blk_frozen BK189.out 2; have hfz28_3 := blk_frozen BK189.out 3; have hfz28_4 := blk_frozen BK189.out 4) | ((with_reducible refine gate_callee (f := 14) rfl ?_); refine gl_ (some 10) Try.func14 #[.agg #[.int .i64 a0_0, .int .i64 a0_1, .int .i64 a0_2, .slice A0_3 l0_3.length c0_3, .slice A0_4 l0_4.length c0_4]] ?_; (with_reducible refine (spec_LsaOk.calls k a0_0 a0_1 a0_2 _ _ l0_3 _ _ l0_4 true _ ?side1 ?side2 ?side3 ?side4 A4.out).mono ?_); (case side1 => exact cb_ HR0_3 HB); (case side2 => exact HC0_3.out); (case side3 => exact cb_ HR0_4 HB); (case side4 => exact HC0_4.out); rintro e w29 ⟨rfl, hb⟩; refine ⟨_, rfl, ?_⟩; replace BK189 := Aside0.mk (bb_ BK189 hb); replace BK190 := Aside0.mk (bb_ BK190 hb); replace HB := Aside0.mk (bt_ HB hb); (try clear hb); (try clear hb2); (try clear hk); (try clear hi); have hcz30_0 := cz_ BK189 0 (.int .i64 a0_0); have hcz30_1 := cz_ BK189 1 (.int .i64 a0_1); have hcz30_2 := cz_ BK189 2 (.int .i64 a0_2); have hcz30_3 := cz_ BK189 3 (.slice A0_3 l0_3.length c0_3); have hcz30_4 := cz_ BK189 4 (.slice A0_4 l0_4.length c0_4); have hfz30_0 := blk_frozen BK189.out 0; have hfz30_1 := blk_frozen BK189.out 1; have hfz30_2 := blk_frozen BK189.out 2; have hfz30_3 := blk_frozen BK189.out 3; have hfz30_4 := blk_frozen BK189.out 4) | ((with_reducible refine gate_callee (f := 64) rfl ?_); refine gl_ (some 21) Try.func64 #[.agg #[.int .i64 a0_0, .int .i64 (wrap64 (a0_1 + 1)), .int .i64 0, .slice A1 l1.length c1, .slice A2 l2.length c2]] ?_; (with_reducible refine (spec_l05Copy.calls k a0_0 (wrap64 (a0_1 + 1)) 0 _ _ l1 _ _ l2 t192 t193 t194 t195 t198 _ ?side1 ?side2 ?side3 ?side4 A6.out).mono ?_); (case side1 => exact cb_ HR1 HB); (case side2 => exact HC1.out); (case side3 => exact cb_ HR2 HB); (case side4 => exact HC2.out); rintro e w31 ⟨v196, v199, rfl, ho0, ho1, hb⟩; refine ⟨_, rfl, ?_⟩; have HO197 := Aside0.mk (Kd.R_lower ho0 (bz_ HB)); have HO200 := Aside0.mk (Kd.R_lower ho1 (bz_ HB)); replace BK189 := Aside0.mk (bb_ BK189 hb); replace BK190 := Aside0.mk (bb_ BK190 hb); replace HB := Aside0.mk (bt_ HB hb); (try clear hb); (try clear hb2); (try clear hk); (try clear hi); (try clear ho0); (try clear ho1)) | ((with_reducible refine gate_dst (N := 8) rfl ?_); refine box_event ?hg (N := 8) ?hd (cs := #[.int .i64 0, .int .i64 0, .int .i64 0, .slice none 0 0, .slice none 0 0]) (t := 31) ?hr ?_; (case hd => rfl); (case hg => rfl); (case hr => first | (go_simp; done) | (go_simp; rfl)); intro gb201 hg w32 hbox hb; have BK201 := Aside0.mk hbox; have GW201 := ge_ HB hg; have GE201 := ge_ HB hg; have NB189_201 := nl_ BK189 hg; have NB201_189 := ng_ BK189 hg; have NB190_201 := nl_ BK190 hg; have NB201_190 := ng_ BK190 hg; replace HO197 := rb_ HO197 hb; replace HO200 := rb_ HO200 hb; replace HB := Aside0.mk (bt_ HB hb); replace BK189 := Aside0.mk (bb_ BK189 hb); replace BK190 := Aside0.mk (bb_ BK190 hb); clear hb hbox hg; have hnb33 := NB201_189.out; have hnc33 := NB189_201.out; have hnb34 := NB201_190.out; have hnc34 := NB190_201.out; have hcz35_0 := cz_ BK201 0 (.int .i64 0); have hcz35_1 := cz_ BK201 1 (.int .i64 0); have hcz35_2 := cz_ BK201 2 (.int .i64 0); have hcz35_3 := cz_ BK201 3 (.slice none 0 0); have hcz35_4 := cz_ BK201 4 (.slice none 0 0); have hfz35_0 := blk_frozen BK201.out 0; have hfz35_1 := blk_frozen BK201.out 1; have hfz35_2 := blk_frozen BK201.out 2; have hfz35_3 := blk_frozen BK201.out 3; have hfz35_4 := blk_frozen BK201.out 4; obtain ⟨Ao36, co36, eo36⟩ := Kd.R_slice HO197.out; subst eo36; obtain ⟨Ao37, co37, eo37⟩ := Kd.R_slice HO200.out; subst eo37) | ((with_reducible refine gate_callee (f := 14) rfl ?_); refine gl_ (some 23) Try.func14 #[.agg #[.int .i64 t192, .int .i64 t193, .int .i64 t194, .slice Ao36 t195.length co36, .slice Ao37 t198.length co37]] ?_; (with_reducible refine (spec_LsaOk.calls k t192 t193 t194 _ _ t195 _ _ t198 false _ ?side1 ?side2 ?side3 ?side4 A7.out).mono ?_); (case side1 => refine (Kd.R_reads' (e := 70) (base := w.heap.size) (ok := fun k_ => True) (n := t195.length) (c := co36) ?_).2.2; exact (hs_ HO197 BK201)); (case side2 => exact (Kd.R_reads' HO197.out).2.1); (case side3 => refine (Kd.R_reads' (e := 74) (base := w.heap.size) (ok := fun k_ => True) (n := t198.length) (c := co37) ?_).2.2; exact (hs_ HO200 BK201)); (case side4 => exact (Kd.R_reads' HO200.out).2.1); rintro e w38 ⟨rfl, hb⟩; refine ⟨_, rfl, ?_⟩; replace HO197 := rs_ HO197 BK201 hb; replace HO200 := rs_ HO200 BK201 hb; replace BK189 := bf_ BK189 NB189_201 hb; replace BK190 := bf_ BK190 NB190_201 hb; replace BK201 := Aside0.mk (blk_below (g := gb201) (o := .cells #[.int .i64 t192, .int .i64 t193, .int .i64 t194, .slice Ao36 t195.length co36, .slice Ao37 t198.length co37] 31 (0, 0)) (by (with_reducible repeat (first | refine blk_drewN ?_ _ | refine blk_drew ?_ | refine blk_alloc ?_ _)); refine blk_put (cs := #[.int .i64 t192, .int .i64 t193, .int .i64 t194, .slice Ao36 t195.length co36, .slice none 0 0]) ?_ 4 _ rfl; (with_reducible repeat (first | refine blk_drewN ?_ _ | refine blk_drew ?_ | refine blk_alloc ?_ _)); refine blk_put (cs := #[.int .i64 t192, .int .i64 t193, .int .i64 t194, .slice none 0 0, .slice none 0 0]) ?_ 3 _ rfl; (with_reducible repeat (first | refine blk_drewN ?_ _ | refine blk_drew ?_ | refine blk_alloc ?_ _)); refine blk_put (cs := #[.int .i64 t192, .int .i64 t193, .int .i64 0, .slice none 0 0, .slice none 0 0]) ?_ 2 _ rfl; (with_reducible repeat (first | refine blk_drewN ?_ _ | refine blk_drew ?_ | refine blk_alloc ?_ _)); refine blk_put (cs := #[.int .i64 t192, .int .i64 0, .int .i64 0, .slice none 0 0, .slice none 0 0]) ?_ 1 _ rfl; (with_reducible repeat (first | refine blk_drewN ?_ _ | refine blk_drew ?_ | refine blk_alloc ?_ _)); refine blk_put (cs := #[.int .i64 0, .int .i64 0, .int .i64 0, .slice none 0 0, .slice none 0 0]) ?_ 0 _ rfl; (with_reducible repeat (first | refine blk_drewN ?_ _ | refine blk_drew ?_ | refine blk_alloc ?_ _)); exact BK201.out) hb); replace HB := Aside0.mk (bt_ HB hb); (try clear hb); (try clear hb2); (try clear hk); (try clear hi); have hcz39_0 := cz_ BK190 0 (.int .i64 0); have hcz39_1 := cz_ BK190 1 (.int .i64 0); have hcz39_2 := cz_ BK190 2 (.int .i64 0); have hcz39_3 := cz_ BK190 3 (.slice none 0 0); have hcz39_4 := cz_ BK190 4 (.slice none 0 0); have hfz39_0 := blk_frozen BK190.out 0; have hfz39_1 := blk_frozen BK190.out 1; have hfz39_2 := blk_frozen BK190.out 2; have hfz39_3 := blk_frozen BK190.out 3; have hfz39_4 := blk_frozen BK190.out 4))
   refine bodyPost_ret (results_ct rfl _ _ gb190 31 #[.int .i64 0, .int .i64 0, .int .i64 0, .slice none 0 0, .slice none 0 0] (0, 0) _ rfl (by (with_reducible repeat (first | refine blk_drewN ?_ _ | refine blk_drew ?_ | refine blk_alloc ?_ _)); refine blk_put (cs := #[.int .i64 0, .int .i64 0, .int .i64 0, .slice none 0 0, .slice none 0 0]) ?_ 4 _ rfl; (with_reducible repeat (first | refine blk_drewN ?_ _ | refine blk_drew ?_ | refine blk_alloc ?_ _)); refine blk_put (cs := #[.int .i64 0, .int .i64 0, .int .i64 0, .slice none 0 0, .slice none 0 0]) ?_ 3 _ rfl; (with_reducible repeat (first | refine blk_drewN ?_ _ | refine blk_drew ?_ | refine blk_alloc ?_ _)); refine blk_put (cs := #[.int .i64 0, .int .i64 0, .int .i64 0, .slice none 0 0, .slice none 0 0]) ?_ 2 _ rfl; (with_reducible repeat (first | refine blk_drewN ?_ _ | refine blk_drew ?_ | refine blk_alloc ?_ _)); refine blk_put (cs := #[.int .i64 0, .int .i64 0, .int .i64 0, .slice none 0 0, .slice none 0 0]) ?_ 1 _ rfl; (with_reducible repeat (first | refine blk_drewN ?_ _ | refine blk_drew ?_ | refine blk_alloc ?_ _)); refine blk_put (cs := #[.int .i64 0, .int .i64 0, .int .i64 0, .slice none 0 0, .slice none 0 0]) ?_ 0 _ rfl; (with_reducible repeat (first | refine blk_drewN ?_ _ | refine blk_drew ?_ | refine blk_alloc ?_ _)); exact BK190.out) Try.underlying31 rfl (by kernel_rfl)) rfl ?_
   exact ⟨_, _, by first | rfl | (simp [errW_none, errW_some] <;> rfl) | (simp [*, errW_none, errW_some] <;> rfl), by first | exact Kd.R_nil _ _ _ _ _ | exact Kd.N_nil _ _ _ _ _ | exact Kd.V_nil _ _ _ _ _ | exact Kd.Q_nil _ _ _ _ _ | exact Kd.S_nil _ _ _ _ _, by first | exact Kd.R_nil _ _ _ _ _ | exact Kd.N_nil _ _ _ _ _ | exact Kd.V_nil _ _ _ _ _ | exact Kd.Q_nil _ _ _ _ _ | exact Kd.S_nil _ _ _ _ _, by repeat (first | (with_reducible first | exact HB.out | apply below_alloc | apply pw_below_drewN | apply below_drew1 | refine below_set ?_ GE189.out | refine below_set ?_ GE190.out | refine below_set ?_ GE201.out) | exact HB.out)⟩
 ·replace c5 := Bool.eq_false_iff.mpr c5
  subst c5
  rw [if_neg (show ¬ (false = true) by decide)] at H
  simp only [Option.some.injEq, Prod.mk.injEq] at H
  obtain ⟨rfl, rfl, rfl, rfl, rfl, rfl⟩ := H
  go_enter Try.func29, Try.ntmps29
  go_wp2_with (first | ((with_reducible refine gate_dst (N := 3) rfl ?_); refine box_event ?hg (N := 3) ?hd (cs := #[.int .i64 a0_0, .int .i64 a0_1, .int .i64 a0_2, .slice A0_3 l0_3.length c0_3, .slice A0_4 l0_4.length c0_4]) (t := 31) ?hr ?_; (case hd => rfl); (case hg => rfl); (case hr => first | (go_simp; done) | (go_simp; rfl)); intro gb189 hg w40 hbox hb; have BK189 := Aside0.mk hbox; have GW189 := ge_ HB hg; have GE189 := ge_ HB hg; replace HB := Aside0.mk (bt_ HB hb); clear hb hbox hg) | ((with_reducible refine gate_dst (N := 6) rfl ?_); refine box_event ?hg (N := 6) ?hd (cs := #[.int .i64 0, .int .i64 0, .int .i64 0, .slice none 0 0, .slice none 0 0]) (t := 31) ?hr ?_; (case hd => rfl); (case hg => rfl); (case hr => first | (go_simp; done) | (go_simp; rfl)); intro gb190 hg w41 hbox hb; have BK190 := Aside0.mk hbox; have GW190 := ge_ HB hg; have GE190 := ge_ HB hg; have NB189_190 := nl_ BK189 hg; have NB190_189 := ng_ BK189 hg; replace HB := Aside0.mk (bt_ HB hb); replace BK189 := Aside0.mk (bb_ BK189 hb); clear hb hbox hg; have hnb42 := NB189_190.out; have hnc42 := NB190_189.out; have hcz43_0 := cz_ BK189 0 (.int .i64 a0_0); have hcz43_1 := cz_ BK189 1 (.int .i64 a0_1); have hcz43_2 := cz_ BK189 2 (.int .i64 a0_2); have hcz43_3 := cz_ BK189 3 (.slice A0_3 l0_3.length c0_3); have hcz43_4 := cz_ BK189 4 (.slice A0_4 l0_4.length c0_4); have hfz43_0 := blk_frozen BK189.out 0; have hfz43_1 := blk_frozen BK189.out 1; have hfz43_2 := blk_frozen BK189.out 2; have hfz43_3 := blk_frozen BK189.out 3; have hfz43_4 := blk_frozen BK189.out 4) | ((with_reducible refine gate_callee (f := 14) rfl ?_); refine gl_ (some 10) Try.func14 #[.agg #[.int .i64 a0_0, .int .i64 a0_1, .int .i64 a0_2, .slice A0_3 l0_3.length c0_3, .slice A0_4 l0_4.length c0_4]] ?_; (with_reducible refine (spec_LsaOk.calls k a0_0 a0_1 a0_2 _ _ l0_3 _ _ l0_4 false _ ?side1 ?side2 ?side3 ?side4 A4.out).mono ?_); (case side1 => exact cb_ HR0_3 HB); (case side2 => exact HC0_3.out); (case side3 => exact cb_ HR0_4 HB); (case side4 => exact HC0_4.out); rintro e w44 ⟨rfl, hb⟩; refine ⟨_, rfl, ?_⟩; replace BK189 := Aside0.mk (bb_ BK189 hb); replace BK190 := Aside0.mk (bb_ BK190 hb); replace HB := Aside0.mk (bt_ HB hb); (try clear hb); (try clear hb2); (try clear hk); (try clear hi); have hcz45_0 := cz_ BK190 0 (.int .i64 0); have hcz45_1 := cz_ BK190 1 (.int .i64 0); have hcz45_2 := cz_ BK190 2 (.int .i64 0); have hcz45_3 := cz_ BK190 3 (.slice none 0 0); have hcz45_4 := cz_ BK190 4 (.slice none 0 0); have hfz45_0 := blk_frozen BK190.out 0; have hfz45_1 := blk_frozen BK190.out 1; have hfz45_2 := blk_frozen BK190.out 2; have hfz45_3 := blk_frozen BK190.out 3; have hfz45_4 := blk_frozen BK190.out 4))
  refine bodyPost_ret (results_ct rfl _ _ gb190 31 #[.int .i64 0, .int .i64 0, .int .i64 0, .slice none 0 0, .slice none 0 0] (0, 0) _ rfl (by (with_reducible repeat (first | refine blk_drewN ?_ _ | refine blk_drew ?_ | refine blk_alloc ?_ _)); refine blk_put (cs := #[.int .i64 0, .int .i64 0, .int .i64 0, .slice none 0 0, .slice none 0 0]) ?_ 4 _ rfl; (with_reducible repeat (first | refine blk_drewN ?_ _ | refine blk_drew ?_ | refine blk_alloc ?_ _)); refine blk_put (cs := #[.int .i64 0, .int .i64 0, .int .i64 0, .slice none 0 0, .slice none 0 0]) ?_ 3 _ rfl; (with_reducible repeat (first | refine blk_drewN ?_ _ | refine blk_drew ?_ | refine blk_alloc ?_ _)); refine blk_put (cs := #[.int .i64 0, .int .i64 0, .int .i64 0, .slice none 0 0, .slice none 0 0]) ?_ 2 _ rfl; (with_reducible repeat (first | refine blk_drewN ?_ _ | refine blk_drew ?_ | refine blk_alloc ?_ _)); refine blk_put (cs := #[.int .i64 0, .int .i64 0, .int .i64 0, .slice none 0 0, .slice none 0 0]) ?_ 1 _ rfl; (with_reducible repeat (first | refine blk_drewN ?_ _ | refine blk_drew ?_ | refine blk_alloc ?_ _)); refine blk_put (cs := #[.int .i64 0, .int .i64 0, .int .i64 0, .slice none 0 0, .slice none 0 0]) ?_ 0 _ rfl; (with_reducible repeat (first | refine blk_drewN ?_ _ | refine blk_drew ?_ | refine blk_alloc ?_ _)); exact BK190.out) Try.underlying31 rfl (by kernel_rfl)) rfl ?_
  exact ⟨_, _, by first | rfl | (simp [errW_none, errW_some] <;> rfl) | (simp [*, errW_none, errW_some] <;> rfl), by first | exact Kd.R_nil _ _ _ _ _ | exact Kd.N_nil _ _ _ _ _ | exact Kd.V_nil _ _ _ _ _ | exact Kd.Q_nil _ _ _ _ _ | exact Kd.S_nil _ _ _ _ _, by first | exact Kd.R_nil _ _ _ _ _ | exact Kd.N_nil _ _ _ _ _ | exact Kd.V_nil _ _ _ _ _ | exact Kd.Q_nil _ _ _ _ _ | exact Kd.S_nil _ _ _ _ _, by repeat (first | (with_reducible first | exact HB.out | apply below_alloc | apply pw_below_drewN | apply below_drew1 | refine below_set ?_ GE189.out | refine below_set ?_ GE190.out) | exact HB.out)⟩

/-! ### impl_within: function 55 -/
def impl_within.f (a0 : Int) (a1 : Int) (a2 : Int) : Option (Bool) := if a0 ≥ a1 then (some (decide (a0 ≤ a2))) else (some false)
set_option maxHeartbeats 8000000 in
set_option maxRecDepth 100000 in
theorem impl_within.calls (a0 : Int) (a1 : Int) (a2 : Int) (r : Bool) (w : World) (h : impl_within.f a0 a1 a2 = some r) :
  Calls Try.prog 55 #[.int .i64 a0, .int .i64 a1, .int .i64 a2] w fun e w' => e = .returned (.bool r) ∧ Drawn0 w w' := by
 have H : (if a0 ≥ a1 then (some (decide (a0 ≤ a2))) else (some false)) = some r := h
 clear h
 by_cases c4 : a0 ≥ a1
 ·rw [if_pos c4] at H
  have c4b0 : decide (a1 ≤ a0) = true := decide_eq_true c4
  clear c4
  obtain rfl := Option.some.inj H
  go_enter Try.func55, Try.ntmps55
  go_wp2
  go_ret
  exact ⟨by first | rfl | (simp; done) | (simp [*]; done), by repeat (first | exact Drawn0.refl _ | apply Drawn0.step)⟩
 ·rw [if_neg c4] at H
  have c4b0 : decide (a1 ≤ a0) = false := decide_eq_false c4
  clear c4
  obtain rfl := Option.some.inj H
  go_enter Try.func55, Try.ntmps55
  go_wp2
  go_ret
  exact ⟨by first | rfl | (simp; done) | (simp [*]; done), by repeat (first | exact Drawn0.refl _ | apply Drawn0.step)⟩

end Go.Proofs.Ytiikcfaodkiakaa.QFnExactNextLsa
