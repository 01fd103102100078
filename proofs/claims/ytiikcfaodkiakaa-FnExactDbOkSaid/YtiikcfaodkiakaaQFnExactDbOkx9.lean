/- Contracts of functions that the law reaches: what each call returns and what it leaves in memory. Made by this session over the print of the kit. -/
import Derived.Test.YtiikcfaodkiakaaQFnExactDbOkx0
import Derived.Test.YtiikcfaodkiakaaQFnExactDbOkx8
namespace Go.Proofs.Ytiikcfaodkiakaa.QFnExactDbOk
open Go.RowKit Go.Proofs.YtiikcfaodkiakaaV.PrintWords Go.Proofs.YtiikcfaodkiakaaV.PrintLast Go.Proofs.YtiikcfaodkiakaaV.PrintMore
attribute [local go_sem] max2_int min2_int max_two min_two max_three min_three max_four min_four   -- for this text's walks alone
set_option linter.unusedVariables false
set_option linter.unusedSimpArgs false
def ba9_0 : Array Bool := #[false, false, false, false, false, false, false, false, false, false, false, false, false, false, false, false, false, false, false]
def ba9_1 : Array Bool := #[true, false, false, false, false, false, false, false, false, false, false, false, false, false, false, false, false, false, false]
def ba9_2 : Array Bool := #[true, true, false, false, false, false, false, false, false, false, false, false, false, false, false, false, false, false, false]
def ba9_3 : Array Bool := #[true, true, true, false, false, false, false, false, false, false, false, false, false, false, false, false, false, false, false]
def ba9_4 : Array Bool := #[true, true, true, true, false, false, false, false, false, false, false, false, false, false, false, false, false, false, false]
def ba9_5 : Array Bool := #[true, true, true, true, true, false, false, false, false, false, false, false, false, false, false, false, false, false, false]
def ba9_6 : Array Bool := #[true, true, true, true, true, true, false, false, false, false, false, false, false, false, false, false, false, false, false]
def ba9_7 : Array Bool := #[true, true, true, true, true, true, true, false, false, false, false, false, false, false, false, false, false, false, false]
def ba9_8 : Array Bool := #[true, true, true, true, true, true, true, true, false, false, false, false, false, false, false, false, false, false, false]
def ba9_9 : Array Bool := #[true, true, true, true, true, true, true, true, false, true, false, false, false, false, false, false, false, false, false]
def ba9_10 : Array Bool := #[true, true, true, true, true, true, true, true, false, true, false, true, false, false, false, false, false, false, false]
def ba9_11 : Array Bool := #[true, true, true, true, true, true, true, true, false, true, false, true, true, false, false, false, false, false, false]
def ba9_12 : Array Bool := #[true, true, true, true, true, true, true, true, true, true, false, true, true, false, false, false, false, false, false]
def ba9_13 : Array Bool := #[true, true, true, true, true, true, true, true, true, true, true, true, true, false, false, false, false, false, false]
def ba9_14 : Array Bool := #[true, true, true, true, true, true, true, true, true, true, true, true, true, true, false, false, false, false, false]
def ba9_15 : Array Bool := #[true, true, true, true, true, true, true, true, true, true, true, true, true, true, true, false, false, false, false]
def ba9_16 : Array Bool := #[true, true, true, true, true, true, true, true, true, true, true, true, true, true, true, true, false, false, false]
def ba9_17 : Array Bool := #[true, true, true, true, true, true, true, true, true, true, true, true, true, true, true, true, true, false, false]
def ba9_18 : Array Bool := #[true, true, true, true, true, true, true, true, true, true, true, true, true, true, true, true, true, true, false]
def ba9_19 : Array Bool := #[true, true, true, true, true, true, true, true, true, true, true, true, true, true, true, true, true, true, true]
def ba9_20 : Array Bool := #[true, true, true, true, true, true, true, true, true, false, false, false, false, false, false, false, false, false, false]
def ba9_21 : Array Bool := #[true, true, true, true, true, true, true, true, true, true, false, false, false, false, false, false, false, false, false]
def ba9_22 : Array Bool := #[true, true, true, true, true, true, true, true, true, true, true, false, false, false, false, false, false, false, false]
def ba9_23 : Array Bool := #[true, true, true, true, true, true, true, true, true, true, true, true, false, false, false, false, false, false, false]

/-! ### impl_DbOk: function 23 -/
def impl_DbOk.l0 : Nat → List (S31) → Int → Int → List (S31) → Option (Bool)
 | 0, _, _, _, _ => none
 | k + 1, x6, x7, x8, x216000 => if x8 < x7 then (if 0 ≤ x8 then (if x8 < (x6.length : Int) then ((impl_LsaOk.f k ((rd_T31 x6 x8).f0) ((rd_T31 x6 x8).f1) ((rd_T31 x6 x8).f2) ((rd_T31 x6 x8).f3) ((rd_T31 x6 x8).f4)).bind fun t218 => (if t218 = true then (if x8 > 0 then (if 0 ≤ (wrap64 (x8 - 1)) then (if (wrap64 (x8 - 1)) < (x216000.length : Int) then (if ((rd_T31 x6 x8).f0) ≤ ((rd_T31 x216000 (wrap64 (x8 - 1))).f0) then (some false) else (impl_DbOk.l0 k x6 x7 (wrap64 (x8 + 1)) x216000)) else (none)) else (none)) else (impl_DbOk.l0 k x6 x7 (wrap64 (x8 + 1)) x216000)) else (some false))) else (none)) else (none)) else (some true)
def impl_DbOk.f (k : Nat) (l0_0 : List (S31)) : Option (Bool) := impl_DbOk.l0 k l0_0 (l0_0.length : Int) 0 l0_0
theorem impl_DbOk.mono_l : ∀ k, (∀ y0 y1 y2 y3, LeO (impl_DbOk.l0 k y0 y1 y2 y3) (impl_DbOk.l0 (k + 1) y0 y1 y2 y3))
 | 0 => fun _ _ _ _ r h => by simp [impl_DbOk.l0] at h
 | k + 1 => by
  have ih0 := impl_DbOk.mono_l k
  ·intro y0 y1 y2 y3
   unfold impl_DbOk.l0
   repeat' first
   | (with_reducible exact ih0 _ _ _ _)
   | (with_reducible exact impl_LsaOk.mono _ _ _ _ _ _)
   | (with_reducible exact LeO.refl _)
   | (with_reducible exact LeO.none _)
   | (with_reducible refine LeO.ite ?_ ?_)
   | (with_reducible refine LeO.bind ?_ (fun _ => ?_))
   | exact ih0 _ _ _ _
   | exact impl_LsaOk.mono _ _ _ _ _ _
   | exact LeO.none _
   | refine LeO.ite ?_ ?_
   | refine LeO.bind ?_ (fun _ => ?_)
theorem impl_DbOk.mono : ∀ a0 k, LeO (impl_DbOk.f k a0) (impl_DbOk.f (k + 1) a0) := by
 intro a0 k
 have ih0 := impl_DbOk.mono_l k
 unfold impl_DbOk.f
 repeat' first
   | (with_reducible exact ih0 _ _ _ _)
   | (with_reducible exact impl_LsaOk.mono _ _ _ _ _ _)
   | (with_reducible exact LeO.refl _)
   | (with_reducible exact LeO.none _)
   | (with_reducible refine LeO.ite ?_ ?_)
   | (with_reducible refine LeO.bind ?_ (fun _ => ?_))
   | exact ih0 _ _ _ _
   | exact impl_LsaOk.mono _ _ _ _ _ _
   | exact LeO.none _
   | refine LeO.ite ?_ ?_
   | refine LeO.bind ?_ (fun _ => ?_)
def impl_DbOk.T4 : Bool × List (List Nat × List Nat) := (true, [([], []), ([0], [0]), ([1], [1]), ([2, 1], [2]), ([3], [3]), ([4, 3], [3, 4]), ([5, 3, 3], [3, 5]), ([6], [6]), ([7, 6], [6, 7]), ([6], [6]), ([9, 6], [6, 9]), ([6], [6]), ([11, 6], [6, 11]), ([10, 12, 6], [6, 10, 12]), ([13, 6], [6, 13]), ([14, 6], [6, 14]), ([8, 15, 6], [6, 8, 15]), ([6, 16, 3], [3, 6, 16]), ([3, 17], [3, 17])])
def impl_DbOk.B4 : List Nat := [0, 1, 3, 7, 15, 31, 63, 127, 255, 127, 639, 127, 2175, 7807, 15999, 32383, 65535, 131071, 262143]
theorem impl_DbOk.tab4 : rtab .any (opsOf Try.f23 4) = impl_DbOk.T4 := by kernel_rfl
theorem impl_DbOk.bits4 : waitsOk impl_DbOk.T4.2 impl_DbOk.B4 = true := by kernel_rfl
set_option maxHeartbeats 8000000 in
set_option maxRecDepth 100000 in
theorem impl_DbOk.calls (k : Nat) (A0_0 : Option Addr) (c0_0 : Nat) (l0_0 : List (S31)) (r : Bool) (w : World) (hr0_0 : Kd.C k31 w A0_0 l0_0.length l0_0) (hc0_0 : l0_0.length ≤ c0_0) (h : impl_DbOk.f k l0_0 = some r) :
  Calls Try.prog 23 #[.agg #[.slice A0_0 l0_0.length c0_0]] w fun e w' => e = .returned (.bool r) ∧ Below w.heap.size w w' := by
 have hu43 := Try.underlying43
 have hu31 := Try.underlying31
 have HR0_0 := Aside0.mk hr0_0
 have HC0_0 := Aside0.mk hc0_0
 clear hr0_0 hc0_0
 have HB := Aside0.mk (Below.refl w.heap.size w)
 have H : (impl_DbOk.l0 k l0_0 (l0_0.length : Int) 0 l0_0) = some r := h
 clear h
 have H' := Aside0.mk H
 clear H
 go_enter Try.func23, Try.ntmps23
 go_wp2_with (first | ((with_reducible refine gate_dst (N := 1) rfl ?_); refine box_event ?hg (N := 1) ?hd (cs := #[.slice A0_0 l0_0.length c0_0]) (t := 43) ?hr ?_; (case hd => rfl); (case hg => rfl); (case hr => first | (go_simp; done) | (go_simp; rfl)); intro gb215 hg w2 hbox hb; have n0_ := Aside0.mk (below_step (by repeat (first | (with_reducible first | exact HB.out | apply below_alloc | apply pw_below_drewN | apply below_drew1) | exact HB.out)) hb); have n1_ := Aside0.mk (hbox); have n2_ := Aside0.mk ((by rw [hg]; exact (below_size (by repeat (first | (with_reducible first | exact HB.out | apply below_alloc | apply pw_below_drewN | apply below_drew1) | exact HB.out))) : w.heap.size ≤ gb215)); have n3_ := Aside0.mk ((by rw [hg]; exact (below_size (by repeat (first | (with_reducible first | exact HB.out | apply below_alloc | apply pw_below_drewN | apply below_drew1) | exact HB.out))) : w.heap.size ≤ gb215)); clear HB; have HB := n0_; have BK215 := n1_; have GW215 := n2_; have GE215 := n3_; clear n0_ n1_ n2_ n3_; clear hb hbox hg; have hcz3_0 : w2.cell? ⟨gb215, 0, none⟩ = some (.slice A0_0 l0_0.length c0_0) := (blk_cell BK215.out 0).trans rfl; have hfz3_0 := blk_frozen BK215.out 0))
 go_loopg [8] k (fun kq v8 w' => ∃ (x8_1 : Int), v8 = .int .i64 x8_1 ∧ Aside0 (impl_DbOk.l0 kq l0_0 (l0_0.length : Int) x8_1 l0_0 = some r) ∧ Aside0 (kq ≤ k) ∧ Aside0 (w'.heap[gb215]? = some (.cells #[(.slice A0_0 l0_0.length c0_0)] 43 (0, 0))) ∧ Aside0 (Below w.heap.size w w'))
 case atStart => exact ⟨(0), (by first | rfl | (simp; done) | (simp [*]; done)), H', ⟨Nat.le_refl _⟩, ⟨by (with_reducible repeat (first | refine blk_drewN ?_ _ | refine blk_drew ?_ | refine blk_alloc ?_ _)); exact BK215.out⟩, ⟨by repeat (first | (with_reducible first | exact HB.out | apply below_alloc | apply pw_below_drewN | apply below_drew1 | refine below_set ?_ GE215.out) | exact HB.out)⟩⟩
 case round =>
  clear H'
  try clear c2
  try clear p2
  try clear hcz3_0
  try clear hfz3_0
  obtain ⟨x8_1, rfl, HA, HK1, BK215, HB⟩ := hrel
  cases gk with
  | zero => exact absurd HA.out (by simp [impl_DbOk.l0])
  | succ k1 =>
   have H := HA.out
   clear HA
   simp only [impl_DbOk.l0] at H
   by_cases c4 : x8_1 < (l0_0.length : Int)
   ·rw [if_pos c4] at H
    have c4b0 : decide (x8_1 < (l0_0.length : Int)) = true := decide_eq_true c4
    clear c4
    by_cases c5 : 0 ≤ x8_1
    ·rw [if_pos c5] at H
     have c5b0 : decide (0 ≤ x8_1) = true := decide_eq_true c5
     clear c5
     by_cases c6 : x8_1 < (l0_0.length : Int)
     ·rw [if_pos c6] at H
      have c6b0 : decide (x8_1 < (l0_0.length : Int)) = true := decide_eq_true c6
      clear c6
      replace H := Option.bind_eq_some_iff.mp H
      obtain ⟨t218, A70, H⟩ := H
      have A7 := Aside0.mk A70
      clear A70
      by_cases c8 : t218 = true
      ·subst c8
       rw [if_pos rfl] at H
       by_cases c9 : x8_1 > 0
       ·rw [if_pos c9] at H
        have c9b0 : decide (0 < x8_1) = true := decide_eq_true c9
        clear c9
        obtain ⟨ji10, hji10⟩ : ∃ j_ : Int, (wrap64 (x8_1 - 1)) = j_ := ⟨_, rfl⟩
        first | rw [hji10] at H | simp only [hji10] at H
        (try rw [hji10] at A7)
        have hji10w : (IntKind.i64.wrap (x8_1 - 1)) = ji10 := (i64_w _).trans hji10
        by_cases c11 : 0 ≤ (ji10)
        ·rw [if_pos c11] at H
         have c11b0 : decide (0 ≤ (ji10)) = true := decide_eq_true c11
         clear c11
         by_cases c12 : (ji10) < (l0_0.length : Int)
         ·rw [if_pos c12] at H
          have c12b0 : decide ((ji10) < (l0_0.length : Int)) = true := decide_eq_true c12
          clear c12
          by_cases c13 : ((rd_T31 l0_0 x8_1).f0) ≤ ((rd_T31 l0_0 (ji10)).f0)
          ·rw [if_pos c13] at H
           have c13b0 : decide (((rd_T31 l0_0 x8_1).f0) ≤ ((rd_T31 l0_0 (ji10)).f0)) = true := decide_eq_true c13
           clear c13
           obtain rfl := Option.some.inj H
           have p216 : 0 ≤ (x8_1 : Int) := of_decide_eq_true (by first | (with_reducible assumption) | assumption)
           have q216 : x8_1 < (l0_0.length : Int) := of_decide_eq_true (by first | (with_reducible assumption) | assumption)
           obtain ⟨ad216, A216_3, c216_3, A216_4, c216_4, e216, hx216_0, hx216_1, hx216_2, hx216_3, hx216_4, hl216_3, hi216_3, hl216_4, hi216_4⟩ := at_T31 HR0_0.out x8_1 p216 q216
           cases e216
           replace hx216_0 := (HB.out.cell (World.block_lt_of_cell? w _ hx216_0)).trans hx216_0
           replace hx216_1 := (HB.out.cell (World.block_lt_of_cell? w _ hx216_1)).trans hx216_1
           replace hx216_2 := (HB.out.cell (World.block_lt_of_cell? w _ hx216_2)).trans hx216_2
           replace hx216_3 := (HB.out.cell (World.block_lt_of_cell? w _ hx216_3)).trans hx216_3
           replace hx216_4 := (HB.out.cell (World.block_lt_of_cell? w _ hx216_4)).trans hx216_4
           have HR216_3 := Aside0.mk hi216_3
           have HC216_3 := Aside0.mk hl216_3
           clear hi216_3 hl216_3
           have HR216_4 := Aside0.mk hi216_4
           have HC216_4 := Aside0.mk hl216_4
           clear hi216_4 hl216_4
           replace p216 := eq_true p216
           replace q216 := eq_true q216
           try go_wp2_with (first | ((with_reducible refine gate_dst (N := 4) rfl ?_); refine box_event ?hg (N := 4) ?hd (cs := #[.int .i64 0, .int .i64 0, .int .i64 0, .slice none 0 0, .slice none 0 0]) (t := 31) ?hr ?_; (case hd => rfl); (case hg => rfl); (case hr => first | (go_simp; done) | (go_simp; rfl)); intro gb217 hg w14 hbox hb; have n0_ := Aside0.mk (blk_below (g := gb215) (o := .cells #[.slice (some ad216) l0_0.length c0_0] 43 (0, 0)) (by (with_reducible repeat (first | refine blk_drewN ?_ _ | refine blk_drew ?_ | refine blk_alloc ?_ _)); exact BK215.out) hb); have n1_ := Aside0.mk (below_step (by repeat (first | (with_reducible first | exact HB.out | apply below_alloc | apply pw_below_drewN | apply below_drew1 | refine below_set ?_ GE215.out) | exact HB.out)) hb); have n2_ := Aside0.mk (hbox); have n3_ := Aside0.mk ((by rw [hg]; exact (below_size (by repeat (first | (with_reducible first | exact HB.out | apply below_alloc | apply pw_below_drewN | apply below_drew1 | refine below_set ?_ GE215.out) | exact HB.out))) : w.heap.size ≤ gb217)); have n4_ := Aside0.mk ((by rw [hg]; exact (below_size (by repeat (first | (with_reducible first | exact HB.out | apply below_alloc | apply pw_below_drewN | apply below_drew1 | refine below_set ?_ GE215.out) | exact HB.out))) : w.heap.size ≤ gb217)); have n5_ := Aside0.mk ((by rw [hg]; exact Nat.ne_of_lt (blk_lt (g := gb215) (o := .cells #[.slice (some ad216) l0_0.length c0_0] 43 (0, 0)) (by (with_reducible repeat (first | refine blk_drewN ?_ _ | refine blk_drew ?_ | refine blk_alloc ?_ _)); exact BK215.out)) : gb215 ≠ gb217)); have n6_ := Aside0.mk ((by rw [hg]; exact Nat.ne_of_gt (blk_lt (g := gb215) (o := .cells #[.slice (some ad216) l0_0.length c0_0] 43 (0, 0)) (by (with_reducible repeat (first | refine blk_drewN ?_ _ | refine blk_drew ?_ | refine blk_alloc ?_ _)); exact BK215.out)) : gb217 ≠ gb215)); clear BK215; clear HB; have BK215 := n0_; have HB := n1_; have BK217 := n2_; have GW217 := n3_; have GE217 := n4_; have NB215_217 := n5_; have NB217_215 := n6_; clear n0_ n1_ n2_ n3_ n4_ n5_ n6_; clear hb hbox hg; have hnb15 := NB217_215.out; have hnc15 := NB215_217.out; have hcz16_0 : w14.cell? ⟨gb217, 0, none⟩ = some (.int .i64 0) := (blk_cell BK217.out 0).trans rfl; have hcz16_1 : w14.cell? ⟨gb217, 1, none⟩ = some (.int .i64 0) := (blk_cell BK217.out 1).trans rfl; have hcz16_2 : w14.cell? ⟨gb217, 2, none⟩ = some (.int .i64 0) := (blk_cell BK217.out 2).trans rfl; have hcz16_3 : w14.cell? ⟨gb217, 3, none⟩ = some (.slice none 0 0) := (blk_cell BK217.out 3).trans rfl; have hcz16_4 : w14.cell? ⟨gb217, 4, none⟩ = some (.slice none 0 0) := (blk_cell BK217.out 4).trans rfl; have hfz16_0 := blk_frozen BK217.out 0; have hfz16_1 := blk_frozen BK217.out 1; have hfz16_2 := blk_frozen BK217.out 2; have hfz16_3 := blk_frozen BK217.out 3; have hfz16_4 := blk_frozen BK217.out 4))
           have n0_ : Aside0 ((((((w14.setCell ⟨gb217, 0, none⟩ (.int .i64 ((rd_T31 l0_0 x8_1).f0))).setCell ⟨gb217, 1, none⟩ (.int .i64 ((rd_T31 l0_0 x8_1).f1))).setCell ⟨gb217, 2, none⟩ (.int .i64 ((rd_T31 l0_0 x8_1).f2))).setCell ⟨gb217, 3, none⟩ (.slice A216_3 ((rd_T31 l0_0 x8_1).f3).length c216_3)).setCell ⟨gb217, 4, none⟩ (.slice A216_4 ((rd_T31 l0_0 x8_1).f4).length c216_4)).heap[gb215]? = some (.cells #[.slice (some ad216) l0_0.length c0_0] 43 (0, 0))) := ⟨by (with_reducible repeat (first | refine blk_drewN ?_ _ | refine blk_drew ?_ | refine blk_alloc ?_ _)); refine blk_far ?_ NB215_217.out _; (with_reducible repeat (first | refine blk_drewN ?_ _ | refine blk_drew ?_ | refine blk_alloc ?_ _)); refine blk_far ?_ NB215_217.out _; (with_reducible repeat (first | refine blk_drewN ?_ _ | refine blk_drew ?_ | refine blk_alloc ?_ _)); refine blk_far ?_ NB215_217.out _; (with_reducible repeat (first | refine blk_drewN ?_ _ | refine blk_drew ?_ | refine blk_alloc ?_ _)); refine blk_far ?_ NB215_217.out _; (with_reducible repeat (first | refine blk_drewN ?_ _ | refine blk_drew ?_ | refine blk_alloc ?_ _)); refine blk_far ?_ NB215_217.out _; (with_reducible repeat (first | refine blk_drewN ?_ _ | refine blk_drew ?_ | refine blk_alloc ?_ _)); exact BK215.out⟩
           have n1_ : Aside0 ((((((w14.setCell ⟨gb217, 0, none⟩ (.int .i64 ((rd_T31 l0_0 x8_1).f0))).setCell ⟨gb217, 1, none⟩ (.int .i64 ((rd_T31 l0_0 x8_1).f1))).setCell ⟨gb217, 2, none⟩ (.int .i64 ((rd_T31 l0_0 x8_1).f2))).setCell ⟨gb217, 3, none⟩ (.slice A216_3 ((rd_T31 l0_0 x8_1).f3).length c216_3)).setCell ⟨gb217, 4, none⟩ (.slice A216_4 ((rd_T31 l0_0 x8_1).f4).length c216_4)).heap[gb217]? = some (.cells #[.int .i64 ((rd_T31 l0_0 x8_1).f0), .int .i64 ((rd_T31 l0_0 x8_1).f1), .int .i64 ((rd_T31 l0_0 x8_1).f2), .slice A216_3 ((rd_T31 l0_0 x8_1).f3).length c216_3, .slice A216_4 ((rd_T31 l0_0 x8_1).f4).length c216_4] 31 (0, 0))) := ⟨by (with_reducible repeat (first | refine blk_drewN ?_ _ | refine blk_drew ?_ | refine blk_alloc ?_ _)); refine blk_put (cs := #[.int .i64 ((rd_T31 l0_0 x8_1).f0), .int .i64 ((rd_T31 l0_0 x8_1).f1), .int .i64 ((rd_T31 l0_0 x8_1).f2), .slice A216_3 ((rd_T31 l0_0 x8_1).f3).length c216_3, .slice none 0 0]) ?_ 4 _ rfl; (with_reducible repeat (first | refine blk_drewN ?_ _ | refine blk_drew ?_ | refine blk_alloc ?_ _)); refine blk_put (cs := #[.int .i64 ((rd_T31 l0_0 x8_1).f0), .int .i64 ((rd_T31 l0_0 x8_1).f1), .int .i64 ((rd_T31 l0_0 x8_1).f2), .slice none 0 0, .slice none 0 0]) ?_ 3 _ rfl; (with_reducible repeat (first | refine blk_drewN ?_ _ | refine blk_drew ?_ | refine blk_alloc ?_ _)); refine blk_put (cs := #[.int .i64 ((rd_T31 l0_0 x8_1).f0), .int .i64 ((rd_T31 l0_0 x8_1).f1), .int .i64 0, .slice none 0 0, .slice none 0 0]) ?_ 2 _ rfl; (with_reducible repeat (first | refine blk_drewN ?_ _ | refine blk_drew ?_ | refine blk_alloc ?_ _)); refine blk_put (cs := #[.int .i64 ((rd_T31 l0_0 x8_1).f0), .int .i64 0, .int .i64 0, .slice none 0 0, .slice none 0 0]) ?_ 1 _ rfl; (with_reducible repeat (first | refine blk_drewN ?_ _ | refine blk_drew ?_ | refine blk_alloc ?_ _)); refine blk_put (cs := #[.int .i64 0, .int .i64 0, .int .i64 0, .slice none 0 0, .slice none 0 0]) ?_ 0 _ rfl; (with_reducible repeat (first | refine blk_drewN ?_ _ | refine blk_drew ?_ | refine blk_alloc ?_ _)); exact BK217.out⟩
           have n2_ : Aside0 (Below w.heap.size w (((((w14.setCell ⟨gb217, 0, none⟩ (.int .i64 ((rd_T31 l0_0 x8_1).f0))).setCell ⟨gb217, 1, none⟩ (.int .i64 ((rd_T31 l0_0 x8_1).f1))).setCell ⟨gb217, 2, none⟩ (.int .i64 ((rd_T31 l0_0 x8_1).f2))).setCell ⟨gb217, 3, none⟩ (.slice A216_3 ((rd_T31 l0_0 x8_1).f3).length c216_3)).setCell ⟨gb217, 4, none⟩ (.slice A216_4 ((rd_T31 l0_0 x8_1).f4).length c216_4))) := ⟨by repeat (first | (with_reducible first | exact HB.out | apply below_alloc | apply pw_below_drewN | apply below_drew1 | refine below_set ?_ GE215.out | refine below_set ?_ GE217.out) | exact HB.out)⟩
           (try clear BK215)
           (try clear BK217)
           (try clear HB)
           generalize (((((w14.setCell ⟨gb217, 0, none⟩ (.int .i64 ((rd_T31 l0_0 x8_1).f0))).setCell ⟨gb217, 1, none⟩ (.int .i64 ((rd_T31 l0_0 x8_1).f1))).setCell ⟨gb217, 2, none⟩ (.int .i64 ((rd_T31 l0_0 x8_1).f2))).setCell ⟨gb217, 3, none⟩ (.slice A216_3 ((rd_T31 l0_0 x8_1).f3).length c216_3)).setCell ⟨gb217, 4, none⟩ (.slice A216_4 ((rd_T31 l0_0 x8_1).f4).length c216_4)) = w17 at n0_ n1_ n2_ ⊢
           have BK215 := n0_
           have BK217 := n1_
           have HB := n2_
           clear n0_ n1_ n2_
           have n0_ := Aside0.mk (blk_drew BK215.out)
           have n1_ := Aside0.mk (blk_drew BK217.out)
           have n2_ := Aside0.mk (below_drew1 HB.out)
           clear BK215
           clear BK217
           clear HB
           have BK215 := n0_
           have BK217 := n1_
           have HB := n2_
           clear n0_ n1_ n2_
           have p219 : 0 ≤ ((ji10) : Int) := of_decide_eq_true (by first | (with_reducible assumption) | assumption)
           have q219 : (ji10) < (l0_0.length : Int) := of_decide_eq_true (by first | (with_reducible assumption) | assumption)
           obtain ⟨ad219, A219_3, c219_3, A219_4, c219_4, e219, hx219_0, hx219_1, hx219_2, hx219_3, hx219_4, hl219_3, hi219_3, hl219_4, hi219_4⟩ := at_T31 HR0_0.out (ji10) p219 q219
           have hw219_4 := hx219_4
           have hw219_3 := hx219_3
           have hw219_2 := hx219_2
           have hw219_1 := hx219_1
           have hw219_0 := hx219_0
           obtain rfl : ad216 = ad219 := (by injection e219)
           replace hx219_0 := (HB.out.cell (World.block_lt_of_cell? w _ hx219_0)).trans hx219_0
           replace hx219_1 := (HB.out.cell (World.block_lt_of_cell? w _ hx219_1)).trans hx219_1
           replace hx219_2 := (HB.out.cell (World.block_lt_of_cell? w _ hx219_2)).trans hx219_2
           replace hx219_3 := (HB.out.cell (World.block_lt_of_cell? w _ hx219_3)).trans hx219_3
           replace hx219_4 := (HB.out.cell (World.block_lt_of_cell? w _ hx219_4)).trans hx219_4
           have HR219_3 := Aside0.mk hi219_3
           have HC219_3 := Aside0.mk hl219_3
           clear hi219_3 hl219_3
           have HR219_4 := Aside0.mk hi219_4
           have HC219_4 := Aside0.mk hl219_4
           clear hi219_4 hl219_4
           replace p219 := eq_true p219
           replace q219 := eq_true q219
           refine start_ (n := 19) (S := fun w' => w'.cell? ⟨gb217, 0, none⟩ = some (.int .i64 ((rd_T31 l0_0 x8_1).f0)) ∧ w'.cell? ⟨gb217, 1, none⟩ = some (.int .i64 ((rd_T31 l0_0 x8_1).f1)) ∧ w'.cell? ⟨gb217, 2, none⟩ = some (.int .i64 ((rd_T31 l0_0 x8_1).f2)) ∧ w'.cell? ⟨gb217, 3, none⟩ = some (.slice A216_3 ((rd_T31 l0_0 x8_1).f3).length c216_3) ∧ w'.cell? ⟨gb217, 4, none⟩ = some (.slice A216_4 ((rd_T31 l0_0 x8_1).f4).length c216_4) ∧ w'.cell? ⟨gb215, 0, none⟩ = some (.slice (some ad216) l0_0.length c0_0) ∧ w'.cell? (ad216.add (((ji10)).toNat * 5)) = some (.int .i64 ((rd_T31 l0_0 (ji10)).f0)) ∧ w'.cell? ⟨(ad216.add (((ji10)).toNat * 5)).block, (ad216.add (((ji10)).toNat * 5)).off + 1, none⟩ = some (.int .i64 ((rd_T31 l0_0 (ji10)).f1)) ∧ w'.cell? ⟨(ad216.add (((ji10)).toNat * 5)).block, (ad216.add (((ji10)).toNat * 5)).off + 2, none⟩ = some (.int .i64 ((rd_T31 l0_0 (ji10)).f2)) ∧ w'.cell? ⟨(ad216.add (((ji10)).toNat * 5)).block, (ad216.add (((ji10)).toNat * 5)).off + 3, none⟩ = some (.slice A219_3 ((rd_T31 l0_0 (ji10)).f3).length c219_3) ∧ w'.cell? ⟨(ad216.add (((ji10)).toNat * 5)).block, (ad216.add (((ji10)).toNat * 5)).off + 4, none⟩ = some (.slice A219_4 ((rd_T31 l0_0 (ji10)).f4).length c219_4)) (ds := []) ba9_0 (by kernel_rfl) rfl rfl ⟨(blk_cell BK217.out 0).trans rfl, (blk_cell BK217.out 1).trans rfl, (blk_cell BK217.out 2).trans rfl, (blk_cell BK217.out 3).trans rfl, (blk_cell BK217.out 4).trans rfl, (blk_cell BK215.out 0).trans rfl, ((HB.out.cell (World.block_lt_of_cell? w _ hw219_0)).trans hw219_0), ((HB.out.cell (World.block_lt_of_cell? w _ hw219_1)).trans hw219_1), ((HB.out.cell (World.block_lt_of_cell? w _ hw219_2)).trans hw219_2), ((HB.out.cell (World.block_lt_of_cell? w _ hw219_3)).trans hw219_3), ((HB.out.cell (World.block_lt_of_cell? w _ hw219_4)).trans hw219_4)⟩ (fun hHeld => ?_); refine with_tabW impl_DbOk.tab4 impl_DbOk.bits4 (fun HT_ HW_ => ?_)
           generalize w17.drew = w18 at BK215 BK217 HB HR219_3 HR219_4 hx219_0 hx219_1 hx219_2 hx219_3 hx219_4 hHeld ⊢
           refine pt_ 0 13 ba9_1 HT_ HW_ hHeld ?_
           refine one_ (i := 1) (N := some 14) ba9_2 rfl rfl (one_of HT_.out (by kernel_rfl)) (by decide) (fun K hK => ?_)
           refine goes_ Try.func16 (by kernel_rfl) rfl #[.agg #[.int .i64 ((rd_T31 l0_0 x8_1).f0), .int .i64 ((rd_T31 l0_0 x8_1).f1), .int .i64 ((rd_T31 l0_0 x8_1).f2), .slice A216_3 ((rd_T31 l0_0 x8_1).f3).length c216_3, .slice A216_4 ((rd_T31 l0_0 x8_1).f4).length c216_4]] (by rfl) rfl rfl (by (try simp only [List.map_toArray, List.map_cons, List.map_nil]); first | done | rfl | (simp only [List.length_drop, List.length_take]; rfl)) ?_
           with_reducible refine (impl_LsaOk.calls k1 ((rd_T31 l0_0 x8_1).f0) ((rd_T31 l0_0 x8_1).f1) ((rd_T31 l0_0 x8_1).f2) _ _ ((rd_T31 l0_0 x8_1).f3) _ _ ((rd_T31 l0_0 x8_1).f4) true _ ?side1 ?side2 ?side3 ?side4 A7.out).mono ?_
           (case side1 => repeat (first | exact (Kd.C_below HR216_3.out HB.out) | (with_reducible refine Kd.C_alloc ?_ _) | (with_reducible refine Kd.C_drewN ?_ _) | (with_reducible refine Kd.C_drew ?_)))
           (case side2 => exact HC216_3.out)
           (case side3 => repeat (first | exact (Kd.C_below HR216_4.out HB.out) | (with_reducible refine Kd.C_alloc ?_ _) | (with_reducible refine Kd.C_drewN ?_ _) | (with_reducible refine Kd.C_drew ?_)))
           (case side4 => exact HC216_4.out)
           rintro e w19 ⟨rfl, hb⟩
           refine ⟨_, rfl, ?_⟩
           have n0_ := Aside0.mk (blk_below (g := gb215) (o := .cells #[.slice (some ad216) l0_0.length c0_0] 43 (0, 0)) (by (with_reducible repeat (first | refine blk_drewN ?_ _ | refine blk_drew ?_ | refine blk_alloc ?_ _)); exact BK215.out) hb)
           have n1_ := Aside0.mk (blk_below (g := gb217) (o := .cells #[.int .i64 ((rd_T31 l0_0 x8_1).f0), .int .i64 ((rd_T31 l0_0 x8_1).f1), .int .i64 ((rd_T31 l0_0 x8_1).f2), .slice A216_3 ((rd_T31 l0_0 x8_1).f3).length c216_3, .slice A216_4 ((rd_T31 l0_0 x8_1).f4).length c216_4] 31 (0, 0)) (by (with_reducible repeat (first | refine blk_drewN ?_ _ | refine blk_drew ?_ | refine blk_alloc ?_ _)); exact BK217.out) hb)
           have n2_ := Aside0.mk (below_step (by repeat (first | (with_reducible first | exact HB.out | apply below_alloc | apply pw_below_drewN | apply below_drew1 | refine below_set ?_ GE215.out | refine below_set ?_ GE217.out) | exact HB.out)) hb)
           clear BK215
           clear BK217
           clear HB
           have BK215 := n0_
           have BK217 := n1_
           have HB := n2_
           clear n0_ n1_ n2_
           (try clear hb)
           (try clear hb2)
           (try clear hk)
           (try clear hi)
           refine hK.out _ _ ⟨(blk_cell BK217.out 0).trans rfl, (blk_cell BK217.out 1).trans rfl, (blk_cell BK217.out 2).trans rfl, (blk_cell BK217.out 3).trans rfl, (blk_cell BK217.out 4).trans rfl, (blk_cell BK215.out 0).trans rfl, ((HB.out.cell (World.block_lt_of_cell? w _ hw219_0)).trans hw219_0), ((HB.out.cell (World.block_lt_of_cell? w _ hw219_1)).trans hw219_1), ((HB.out.cell (World.block_lt_of_cell? w _ hw219_2)).trans hw219_2), ((HB.out.cell (World.block_lt_of_cell? w _ hw219_3)).trans hw219_3), ((HB.out.cell (World.block_lt_of_cell? w _ hw219_4)).trans hw219_4)⟩ (fun hHeld => ?_)
           clear hK K
           refine norm_ (a' := ?_) ?_ ?_
           rotate_left; · show Act.put _ (some 14) _ = _; simp only [Act.put, List.setIfInBounds_toArray, List.set_cons_zero, List.set_cons_succ, i64_w, i32_w]; rfl
           refine pz_ 2 15 ba9_3 HT_ ?_
           refine pz_ 3 16 ba9_4 HT_ ?_
           refine pz_ 4 17 ba9_5 HT_ ?_
           refine pz_ 5 18 ba9_6 HT_ ?_
           refine pz_ 6 19 ba9_7 HT_ ?_
           refine pz_ 7 20 ba9_8 HT_ ?_
           refine pz_ 9 22 ba9_9 HT_ ?_
           refine pz_ 11 24 ba9_10 HT_ ?_
           refine pz_ 12 25 ba9_11 HT_ ?_
           refine pt_ 8 21 ba9_12 HT_ HW_ hHeld ?_
           refine pt_ 10 23 ba9_13 HT_ HW_ hHeld ?_
           refine pz_ 13 26 ba9_14 HT_ ?_
           refine pz_ 14 27 ba9_15 HT_ ?_
           refine pt_ 15 28 ba9_16 HT_ HW_ hHeld ?_
           refine pz_ 16 29 ba9_17 HT_ ?_
           refine pz_ 17 30 ba9_18 HT_ ?_
           refine pz_ 18 31 ba9_19 HT_ ?_
           refine done_ (done_of HT_.out (by kernel_rfl)) ?_
           try go_wp2
           go_ret
           exact ⟨by first | rfl | (simp [errW_none, errW_some] <;> rfl) | (simp only [← hji10]; first | rfl | (simp [errW_none, errW_some] <;> rfl)) | (simp [*, errW_none, errW_some] <;> rfl), by repeat (first | (with_reducible first | exact HB.out | apply below_alloc | apply pw_below_drewN | apply below_drew1 | refine below_set ?_ GE215.out | refine below_set ?_ GE217.out) | exact HB.out)⟩
          ·rw [if_neg c13] at H
           have c13b0 : decide (((rd_T31 l0_0 x8_1).f0) ≤ ((rd_T31 l0_0 (ji10)).f0)) = false := decide_eq_false c13
           clear c13
           have H' := Aside0.mk H
           clear H
           have p216 : 0 ≤ (x8_1 : Int) := of_decide_eq_true (by first | (with_reducible assumption) | assumption)
           have q216 : x8_1 < (l0_0.length : Int) := of_decide_eq_true (by first | (with_reducible assumption) | assumption)
           obtain ⟨ad216, A216_3, c216_3, A216_4, c216_4, e216, hx216_0, hx216_1, hx216_2, hx216_3, hx216_4, hl216_3, hi216_3, hl216_4, hi216_4⟩ := at_T31 HR0_0.out x8_1 p216 q216
           cases e216
           replace hx216_0 := (HB.out.cell (World.block_lt_of_cell? w _ hx216_0)).trans hx216_0
           replace hx216_1 := (HB.out.cell (World.block_lt_of_cell? w _ hx216_1)).trans hx216_1
           replace hx216_2 := (HB.out.cell (World.block_lt_of_cell? w _ hx216_2)).trans hx216_2
           replace hx216_3 := (HB.out.cell (World.block_lt_of_cell? w _ hx216_3)).trans hx216_3
           replace hx216_4 := (HB.out.cell (World.block_lt_of_cell? w _ hx216_4)).trans hx216_4
           have HR216_3 := Aside0.mk hi216_3
           have HC216_3 := Aside0.mk hl216_3
           clear hi216_3 hl216_3
           have HR216_4 := Aside0.mk hi216_4
           have HC216_4 := Aside0.mk hl216_4
           clear hi216_4 hl216_4
           replace p216 := eq_true p216
           replace q216 := eq_true q216
           try go_wp2_with (first | ((with_reducible refine gate_dst (N := 4) rfl ?_); refine box_event ?hg (N := 4) ?hd (cs := #[.int .i64 0, .int .i64 0, .int .i64 0, .slice none 0 0, .slice none 0 0]) (t := 31) ?hr ?_; (case hd => rfl); (case hg => rfl); (case hr => first | (go_simp; done) | (go_simp; rfl)); intro gb217 hg w20 hbox hb; have n0_ := Aside0.mk (blk_below (g := gb215) (o := .cells #[.slice (some ad216) l0_0.length c0_0] 43 (0, 0)) (by (with_reducible repeat (first | refine blk_drewN ?_ _ | refine blk_drew ?_ | refine blk_alloc ?_ _)); exact BK215.out) hb); have n1_ := Aside0.mk (below_step (by repeat (first | (with_reducible first | exact HB.out | apply below_alloc | apply pw_below_drewN | apply below_drew1 | refine below_set ?_ GE215.out) | exact HB.out)) hb); have n2_ := Aside0.mk (hbox); have n3_ := Aside0.mk ((by rw [hg]; exact (below_size (by repeat (first | (with_reducible first | exact HB.out | apply below_alloc | apply pw_below_drewN | apply below_drew1 | refine below_set ?_ GE215.out) | exact HB.out))) : w.heap.size ≤ gb217)); have n4_ := Aside0.mk ((by rw [hg]; exact (below_size (by repeat (first | (with_reducible first | exact HB.out | apply below_alloc | apply pw_below_drewN | apply below_drew1 | refine below_set ?_ GE215.out) | exact HB.out))) : w.heap.size ≤ gb217)); have n5_ := Aside0.mk ((by rw [hg]; exact Nat.ne_of_lt (blk_lt (g := gb215) (o := .cells #[.slice (some ad216) l0_0.length c0_0] 43 (0, 0)) (by (with_reducible repeat (first | refine blk_drewN ?_ _ | refine blk_drew ?_ | refine blk_alloc ?_ _)); exact BK215.out)) : gb215 ≠ gb217)); have n6_ := Aside0.mk ((by rw [hg]; exact Nat.ne_of_gt (blk_lt (g := gb215) (o := .cells #[.slice (some ad216) l0_0.length c0_0] 43 (0, 0)) (by (with_reducible repeat (first | refine blk_drewN ?_ _ | refine blk_drew ?_ | refine blk_alloc ?_ _)); exact BK215.out)) : gb217 ≠ gb215)); clear BK215; clear HB; have BK215 := n0_; have HB := n1_; have BK217 := n2_; have GW217 := n3_; have GE217 := n4_; have NB215_217 := n5_; have NB217_215 := n6_; clear n0_ n1_ n2_ n3_ n4_ n5_ n6_; clear hb hbox hg; have hnb21 := NB217_215.out; have hnc21 := NB215_217.out; have hcz22_0 : w20.cell? ⟨gb217, 0, none⟩ = some (.int .i64 0) := (blk_cell BK217.out 0).trans rfl; have hcz22_1 : w20.cell? ⟨gb217, 1, none⟩ = some (.int .i64 0) := (blk_cell BK217.out 1).trans rfl; have hcz22_2 : w20.cell? ⟨gb217, 2, none⟩ = some (.int .i64 0) := (blk_cell BK217.out 2).trans rfl; have hcz22_3 : w20.cell? ⟨gb217, 3, none⟩ = some (.slice none 0 0) := (blk_cell BK217.out 3).trans rfl; have hcz22_4 : w20.cell? ⟨gb217, 4, none⟩ = some (.slice none 0 0) := (blk_cell BK217.out 4).trans rfl; have hfz22_0 := blk_frozen BK217.out 0; have hfz22_1 := blk_frozen BK217.out 1; have hfz22_2 := blk_frozen BK217.out 2; have hfz22_3 := blk_frozen BK217.out 3; have hfz22_4 := blk_frozen BK217.out 4))
           have n0_ : Aside0 ((((((w20.setCell ⟨gb217, 0, none⟩ (.int .i64 ((rd_T31 l0_0 x8_1).f0))).setCell ⟨gb217, 1, none⟩ (.int .i64 ((rd_T31 l0_0 x8_1).f1))).setCell ⟨gb217, 2, none⟩ (.int .i64 ((rd_T31 l0_0 x8_1).f2))).setCell ⟨gb217, 3, none⟩ (.slice A216_3 ((rd_T31 l0_0 x8_1).f3).length c216_3)).setCell ⟨gb217, 4, none⟩ (.slice A216_4 ((rd_T31 l0_0 x8_1).f4).length c216_4)).heap[gb215]? = some (.cells #[.slice (some ad216) l0_0.length c0_0] 43 (0, 0))) := ⟨by (with_reducible repeat (first | refine blk_drewN ?_ _ | refine blk_drew ?_ | refine blk_alloc ?_ _)); refine blk_far ?_ NB215_217.out _; (with_reducible repeat (first | refine blk_drewN ?_ _ | refine blk_drew ?_ | refine blk_alloc ?_ _)); refine blk_far ?_ NB215_217.out _; (with_reducible repeat (first | refine blk_drewN ?_ _ | refine blk_drew ?_ | refine blk_alloc ?_ _)); refine blk_far ?_ NB215_217.out _; (with_reducible repeat (first | refine blk_drewN ?_ _ | refine blk_drew ?_ | refine blk_alloc ?_ _)); refine blk_far ?_ NB215_217.out _; (with_reducible repeat (first | refine blk_drewN ?_ _ | refine blk_drew ?_ | refine blk_alloc ?_ _)); refine blk_far ?_ NB215_217.out _; (with_reducible repeat (first | refine blk_drewN ?_ _ | refine blk_drew ?_ | refine blk_alloc ?_ _)); exact BK215.out⟩
           have n1_ : Aside0 ((((((w20.setCell ⟨gb217, 0, none⟩ (.int .i64 ((rd_T31 l0_0 x8_1).f0))).setCell ⟨gb217, 1, none⟩ (.int .i64 ((rd_T31 l0_0 x8_1).f1))).setCell ⟨gb217, 2, none⟩ (.int .i64 ((rd_T31 l0_0 x8_1).f2))).setCell ⟨gb217, 3, none⟩ (.slice A216_3 ((rd_T31 l0_0 x8_1).f3).length c216_3)).setCell ⟨gb217, 4, none⟩ (.slice A216_4 ((rd_T31 l0_0 x8_1).f4).length c216_4)).heap[gb217]? = some (.cells #[.int .i64 ((rd_T31 l0_0 x8_1).f0), .int .i64 ((rd_T31 l0_0 x8_1).f1), .int .i64 ((rd_T31 l0_0 x8_1).f2), .slice A216_3 ((rd_T31 l0_0 x8_1).f3).length c216_3, .slice A216_4 ((rd_T31 l0_0 x8_1).f4).length c216_4] 31 (0, 0))) := ⟨by (with_reducible repeat (first | refine blk_drewN ?_ _ | refine blk_drew ?_ | refine blk_alloc ?_ _)); refine blk_put (cs := #[.int .i64 ((rd_T31 l0_0 x8_1).f0), .int .i64 ((rd_T31 l0_0 x8_1).f1), .int .i64 ((rd_T31 l0_0 x8_1).f2), .slice A216_3 ((rd_T31 l0_0 x8_1).f3).length c216_3, .slice none 0 0]) ?_ 4 _ rfl; (with_reducible repeat (first | refine blk_drewN ?_ _ | refine blk_drew ?_ | refine blk_alloc ?_ _)); refine blk_put (cs := #[.int .i64 ((rd_T31 l0_0 x8_1).f0), .int .i64 ((rd_T31 l0_0 x8_1).f1), .int .i64 ((rd_T31 l0_0 x8_1).f2), .slice none 0 0, .slice none 0 0]) ?_ 3 _ rfl; (with_reducible repeat (first | refine blk_drewN ?_ _ | refine blk_drew ?_ | refine blk_alloc ?_ _)); refine blk_put (cs := #[.int .i64 ((rd_T31 l0_0 x8_1).f0), .int .i64 ((rd_T31 l0_0 x8_1).f1), .int .i64 0, .slice none 0 0, .slice none 0 0]) ?_ 2 _ rfl; (with_reducible repeat (first | refine blk_drewN ?_ _ | refine blk_drew ?_ | refine blk_alloc ?_ _)); refine blk_put (cs := #[.int .i64 ((rd_T31 l0_0 x8_1).f0), .int .i64 0, .int .i64 0, .slice none 0 0, .slice none 0 0]) ?_ 1 _ rfl; (with_reducible repeat (first | refine blk_drewN ?_ _ | refine blk_drew ?_ | refine blk_alloc ?_ _)); refine blk_put (cs := #[.int .i64 0, .int .i64 0, .int .i64 0, .slice none 0 0, .slice none 0 0]) ?_ 0 _ rfl; (with_reducible repeat (first | refine blk_drewN ?_ _ | refine blk_drew ?_ | refine blk_alloc ?_ _)); exact BK217.out⟩
           have n2_ : Aside0 (Below w.heap.size w (((((w20.setCell ⟨gb217, 0, none⟩ (.int .i64 ((rd_T31 l0_0 x8_1).f0))).setCell ⟨gb217, 1, none⟩ (.int .i64 ((rd_T31 l0_0 x8_1).f1))).setCell ⟨gb217, 2, none⟩ (.int .i64 ((rd_T31 l0_0 x8_1).f2))).setCell ⟨gb217, 3, none⟩ (.slice A216_3 ((rd_T31 l0_0 x8_1).f3).length c216_3)).setCell ⟨gb217, 4, none⟩ (.slice A216_4 ((rd_T31 l0_0 x8_1).f4).length c216_4))) := ⟨by repeat (first | (with_reducible first | exact HB.out | apply below_alloc | apply pw_below_drewN | apply below_drew1 | refine below_set ?_ GE215.out | refine below_set ?_ GE217.out) | exact HB.out)⟩
           (try clear BK215)
           (try clear BK217)
           (try clear HB)
           generalize (((((w20.setCell ⟨gb217, 0, none⟩ (.int .i64 ((rd_T31 l0_0 x8_1).f0))).setCell ⟨gb217, 1, none⟩ (.int .i64 ((rd_T31 l0_0 x8_1).f1))).setCell ⟨gb217, 2, none⟩ (.int .i64 ((rd_T31 l0_0 x8_1).f2))).setCell ⟨gb217, 3, none⟩ (.slice A216_3 ((rd_T31 l0_0 x8_1).f3).length c216_3)).setCell ⟨gb217, 4, none⟩ (.slice A216_4 ((rd_T31 l0_0 x8_1).f4).length c216_4)) = w23 at n0_ n1_ n2_ ⊢
           have BK215 := n0_
           have BK217 := n1_
           have HB := n2_
           clear n0_ n1_ n2_
           have n0_ := Aside0.mk (blk_drew BK215.out)
           have n1_ := Aside0.mk (blk_drew BK217.out)
           have n2_ := Aside0.mk (below_drew1 HB.out)
           clear BK215
           clear BK217
           clear HB
           have BK215 := n0_
           have BK217 := n1_
           have HB := n2_
           clear n0_ n1_ n2_
           have p219 : 0 ≤ ((ji10) : Int) := of_decide_eq_true (by first | (with_reducible assumption) | assumption)
           have q219 : (ji10) < (l0_0.length : Int) := of_decide_eq_true (by first | (with_reducible assumption) | assumption)
           obtain ⟨ad219, A219_3, c219_3, A219_4, c219_4, e219, hx219_0, hx219_1, hx219_2, hx219_3, hx219_4, hl219_3, hi219_3, hl219_4, hi219_4⟩ := at_T31 HR0_0.out (ji10) p219 q219
           have hw219_4 := hx219_4
           have hw219_3 := hx219_3
           have hw219_2 := hx219_2
           have hw219_1 := hx219_1
           have hw219_0 := hx219_0
           obtain rfl : ad216 = ad219 := (by injection e219)
           replace hx219_0 := (HB.out.cell (World.block_lt_of_cell? w _ hx219_0)).trans hx219_0
           replace hx219_1 := (HB.out.cell (World.block_lt_of_cell? w _ hx219_1)).trans hx219_1
           replace hx219_2 := (HB.out.cell (World.block_lt_of_cell? w _ hx219_2)).trans hx219_2
           replace hx219_3 := (HB.out.cell (World.block_lt_of_cell? w _ hx219_3)).trans hx219_3
           replace hx219_4 := (HB.out.cell (World.block_lt_of_cell? w _ hx219_4)).trans hx219_4
           have HR219_3 := Aside0.mk hi219_3
           have HC219_3 := Aside0.mk hl219_3
           clear hi219_3 hl219_3
           have HR219_4 := Aside0.mk hi219_4
           have HC219_4 := Aside0.mk hl219_4
           clear hi219_4 hl219_4
           replace p219 := eq_true p219
           replace q219 := eq_true q219
           refine start_ (n := 19) (S := fun w' => w'.cell? ⟨gb217, 0, none⟩ = some (.int .i64 ((rd_T31 l0_0 x8_1).f0)) ∧ w'.cell? ⟨gb217, 1, none⟩ = some (.int .i64 ((rd_T31 l0_0 x8_1).f1)) ∧ w'.cell? ⟨gb217, 2, none⟩ = some (.int .i64 ((rd_T31 l0_0 x8_1).f2)) ∧ w'.cell? ⟨gb217, 3, none⟩ = some (.slice A216_3 ((rd_T31 l0_0 x8_1).f3).length c216_3) ∧ w'.cell? ⟨gb217, 4, none⟩ = some (.slice A216_4 ((rd_T31 l0_0 x8_1).f4).length c216_4) ∧ w'.cell? ⟨gb215, 0, none⟩ = some (.slice (some ad216) l0_0.length c0_0) ∧ w'.cell? (ad216.add (((ji10)).toNat * 5)) = some (.int .i64 ((rd_T31 l0_0 (ji10)).f0)) ∧ w'.cell? ⟨(ad216.add (((ji10)).toNat * 5)).block, (ad216.add (((ji10)).toNat * 5)).off + 1, none⟩ = some (.int .i64 ((rd_T31 l0_0 (ji10)).f1)) ∧ w'.cell? ⟨(ad216.add (((ji10)).toNat * 5)).block, (ad216.add (((ji10)).toNat * 5)).off + 2, none⟩ = some (.int .i64 ((rd_T31 l0_0 (ji10)).f2)) ∧ w'.cell? ⟨(ad216.add (((ji10)).toNat * 5)).block, (ad216.add (((ji10)).toNat * 5)).off + 3, none⟩ = some (.slice A219_3 ((rd_T31 l0_0 (ji10)).f3).length c219_3) ∧ w'.cell? ⟨(ad216.add (((ji10)).toNat * 5)).block, (ad216.add (((ji10)).toNat * 5)).off + 4, none⟩ = some (.slice A219_4 ((rd_T31 l0_0 (ji10)).f4).length c219_4)) (ds := []) ba9_0 (by kernel_rfl) rfl rfl ⟨(blk_cell BK217.out 0).trans rfl, (blk_cell BK217.out 1).trans rfl, (blk_cell BK217.out 2).trans rfl, (blk_cell BK217.out 3).trans rfl, (blk_cell BK217.out 4).trans rfl, (blk_cell BK215.out 0).trans rfl, ((HB.out.cell (World.block_lt_of_cell? w _ hw219_0)).trans hw219_0), ((HB.out.cell (World.block_lt_of_cell? w _ hw219_1)).trans hw219_1), ((HB.out.cell (World.block_lt_of_cell? w _ hw219_2)).trans hw219_2), ((HB.out.cell (World.block_lt_of_cell? w _ hw219_3)).trans hw219_3), ((HB.out.cell (World.block_lt_of_cell? w _ hw219_4)).trans hw219_4)⟩ (fun hHeld => ?_); refine with_tabW impl_DbOk.tab4 impl_DbOk.bits4 (fun HT_ HW_ => ?_)
           generalize w23.drew = w24 at BK215 BK217 HB HR219_3 HR219_4 hx219_0 hx219_1 hx219_2 hx219_3 hx219_4 hHeld ⊢
           refine pt_ 0 13 ba9_1 HT_ HW_ hHeld ?_
           refine one_ (i := 1) (N := some 14) ba9_2 rfl rfl (one_of HT_.out (by kernel_rfl)) (by decide) (fun K hK => ?_)
           refine goes_ Try.func16 (by kernel_rfl) rfl #[.agg #[.int .i64 ((rd_T31 l0_0 x8_1).f0), .int .i64 ((rd_T31 l0_0 x8_1).f1), .int .i64 ((rd_T31 l0_0 x8_1).f2), .slice A216_3 ((rd_T31 l0_0 x8_1).f3).length c216_3, .slice A216_4 ((rd_T31 l0_0 x8_1).f4).length c216_4]] (by rfl) rfl rfl (by (try simp only [List.map_toArray, List.map_cons, List.map_nil]); first | done | rfl | (simp only [List.length_drop, List.length_take]; rfl)) ?_
           with_reducible refine (impl_LsaOk.calls k1 ((rd_T31 l0_0 x8_1).f0) ((rd_T31 l0_0 x8_1).f1) ((rd_T31 l0_0 x8_1).f2) _ _ ((rd_T31 l0_0 x8_1).f3) _ _ ((rd_T31 l0_0 x8_1).f4) true _ ?side1 ?side2 ?side3 ?side4 A7.out).mono ?_
           (case side1 => repeat (first | exact (Kd.C_below HR216_3.out HB.out) | (with_reducible refine Kd.C_alloc ?_ _) | (with_reducible refine Kd.C_drewN ?_ _) | (with_reducible refine Kd.C_drew ?_)))
           (case side2 => exact HC216_3.out)
           (case side3 => repeat (first | exact (Kd.C_below HR216_4.out HB.out) | (with_reducible refine Kd.C_alloc ?_ _) | (with_reducible refine Kd.C_drewN ?_ _) | (with_reducible refine Kd.C_drew ?_)))
           (case side4 => exact HC216_4.out)
           rintro e w25 ⟨rfl, hb⟩
           refine ⟨_, rfl, ?_⟩
           have n0_ := Aside0.mk (blk_below (g := gb215) (o := .cells #[.slice (some ad216) l0_0.length c0_0] 43 (0, 0)) (by (with_reducible repeat (first | refine blk_drewN ?_ _ | refine blk_drew ?_ | refine blk_alloc ?_ _)); exact BK215.out) hb)
           have n1_ := Aside0.mk (blk_below (g := gb217) (o := .cells #[.int .i64 ((rd_T31 l0_0 x8_1).f0), .int .i64 ((rd_T31 l0_0 x8_1).f1), .int .i64 ((rd_T31 l0_0 x8_1).f2), .slice A216_3 ((rd_T31 l0_0 x8_1).f3).length c216_3, .slice A216_4 ((rd_T31 l0_0 x8_1).f4).length c216_4] 31 (0, 0)) (by (with_reducible repeat (first | refine blk_drewN ?_ _ | refine blk_drew ?_ | refine blk_alloc ?_ _)); exact BK217.out) hb)
           have n2_ := Aside0.mk (below_step (by repeat (first | (with_reducible first | exact HB.out | apply below_alloc | apply pw_below_drewN | apply below_drew1 | refine below_set ?_ GE215.out | refine below_set ?_ GE217.out) | exact HB.out)) hb)
           clear BK215
           clear BK217
           clear HB
           have BK215 := n0_
           have BK217 := n1_
           have HB := n2_
           clear n0_ n1_ n2_
           (try clear hb)
           (try clear hb2)
           (try clear hk)
           (try clear hi)
           refine hK.out _ _ ⟨(blk_cell BK217.out 0).trans rfl, (blk_cell BK217.out 1).trans rfl, (blk_cell BK217.out 2).trans rfl, (blk_cell BK217.out 3).trans rfl, (blk_cell BK217.out 4).trans rfl, (blk_cell BK215.out 0).trans rfl, ((HB.out.cell (World.block_lt_of_cell? w _ hw219_0)).trans hw219_0), ((HB.out.cell (World.block_lt_of_cell? w _ hw219_1)).trans hw219_1), ((HB.out.cell (World.block_lt_of_cell? w _ hw219_2)).trans hw219_2), ((HB.out.cell (World.block_lt_of_cell? w _ hw219_3)).trans hw219_3), ((HB.out.cell (World.block_lt_of_cell? w _ hw219_4)).trans hw219_4)⟩ (fun hHeld => ?_)
           clear hK K
           refine norm_ (a' := ?_) ?_ ?_
           rotate_left; · show Act.put _ (some 14) _ = _; simp only [Act.put, List.setIfInBounds_toArray, List.set_cons_zero, List.set_cons_succ, i64_w, i32_w]; rfl
           refine pz_ 2 15 ba9_3 HT_ ?_
           refine pz_ 3 16 ba9_4 HT_ ?_
           refine pz_ 4 17 ba9_5 HT_ ?_
           refine pz_ 5 18 ba9_6 HT_ ?_
           refine pz_ 6 19 ba9_7 HT_ ?_
           refine pz_ 7 20 ba9_8 HT_ ?_
           refine pz_ 9 22 ba9_9 HT_ ?_
           refine pz_ 11 24 ba9_10 HT_ ?_
           refine pz_ 12 25 ba9_11 HT_ ?_
           refine pt_ 8 21 ba9_12 HT_ HW_ hHeld ?_
           refine pt_ 10 23 ba9_13 HT_ HW_ hHeld ?_
           refine pz_ 13 26 ba9_14 HT_ ?_
           refine pz_ 14 27 ba9_15 HT_ ?_
           refine pt_ 15 28 ba9_16 HT_ HW_ hHeld ?_
           refine pz_ 16 29 ba9_17 HT_ ?_
           refine pz_ 17 30 ba9_18 HT_ ?_
           refine pz_ 18 31 ba9_19 HT_ ?_
           refine done_ (done_of HT_.out (by kernel_rfl)) ?_
           try go_wp2
           go_roundg k1
           case measure => have := HK1.out; omega
           case rel => exact ⟨(wrap64 (x8_1 + 1)), (by first | rfl | (simp; done) | (simp [*]; done)), H', ⟨by have := HK1.out; omega⟩, ⟨by (with_reducible repeat (first | refine blk_drewN ?_ _ | refine blk_drew ?_ | refine blk_alloc ?_ _)); exact BK215.out⟩, ⟨by repeat (first | (with_reducible first | exact HB.out | apply below_alloc | apply pw_below_drewN | apply below_drew1 | refine below_set ?_ GE215.out | refine below_set ?_ GE217.out) | exact HB.out)⟩⟩
         ·rw [if_neg c12] at H
          exact absurd H (by simp)
        ·rw [if_neg c11] at H
         exact absurd H (by simp)
       ·rw [if_neg c9] at H
        have c9b0 : decide (0 < x8_1) = false := decide_eq_false c9
        clear c9
        have H' := Aside0.mk H
        clear H
        have p216 : 0 ≤ (x8_1 : Int) := of_decide_eq_true (by first | (with_reducible assumption) | assumption)
        have q216 : x8_1 < (l0_0.length : Int) := of_decide_eq_true (by first | (with_reducible assumption) | assumption)
        obtain ⟨ad216, A216_3, c216_3, A216_4, c216_4, e216, hx216_0, hx216_1, hx216_2, hx216_3, hx216_4, hl216_3, hi216_3, hl216_4, hi216_4⟩ := at_T31 HR0_0.out x8_1 p216 q216
        cases e216
        replace hx216_0 := (HB.out.cell (World.block_lt_of_cell? w _ hx216_0)).trans hx216_0
        replace hx216_1 := (HB.out.cell (World.block_lt_of_cell? w _ hx216_1)).trans hx216_1
        replace hx216_2 := (HB.out.cell (World.block_lt_of_cell? w _ hx216_2)).trans hx216_2
        replace hx216_3 := (HB.out.cell (World.block_lt_of_cell? w _ hx216_3)).trans hx216_3
        replace hx216_4 := (HB.out.cell (World.block_lt_of_cell? w _ hx216_4)).trans hx216_4
        have HR216_3 := Aside0.mk hi216_3
        have HC216_3 := Aside0.mk hl216_3
        clear hi216_3 hl216_3
        have HR216_4 := Aside0.mk hi216_4
        have HC216_4 := Aside0.mk hl216_4
        clear hi216_4 hl216_4
        replace p216 := eq_true p216
        replace q216 := eq_true q216
        try go_wp2_with (first | ((with_reducible refine gate_dst (N := 4) rfl ?_); refine box_event ?hg (N := 4) ?hd (cs := #[.int .i64 0, .int .i64 0, .int .i64 0, .slice none 0 0, .slice none 0 0]) (t := 31) ?hr ?_; (case hd => rfl); (case hg => rfl); (case hr => first | (go_simp; done) | (go_simp; rfl)); intro gb217 hg w26 hbox hb; have n0_ := Aside0.mk (blk_below (g := gb215) (o := .cells #[.slice (some ad216) l0_0.length c0_0] 43 (0, 0)) (by (with_reducible repeat (first | refine blk_drewN ?_ _ | refine blk_drew ?_ | refine blk_alloc ?_ _)); exact BK215.out) hb); have n1_ := Aside0.mk (below_step (by repeat (first | (with_reducible first | exact HB.out | apply below_alloc | apply pw_below_drewN | apply below_drew1 | refine below_set ?_ GE215.out) | exact HB.out)) hb); have n2_ := Aside0.mk (hbox); have n3_ := Aside0.mk ((by rw [hg]; exact (below_size (by repeat (first | (with_reducible first | exact HB.out | apply below_alloc | apply pw_below_drewN | apply below_drew1 | refine below_set ?_ GE215.out) | exact HB.out))) : w.heap.size ≤ gb217)); have n4_ := Aside0.mk ((by rw [hg]; exact (below_size (by repeat (first | (with_reducible first | exact HB.out | apply below_alloc | apply pw_below_drewN | apply below_drew1 | refine below_set ?_ GE215.out) | exact HB.out))) : w.heap.size ≤ gb217)); have n5_ := Aside0.mk ((by rw [hg]; exact Nat.ne_of_lt (blk_lt (g := gb215) (o := .cells #[.slice (some ad216) l0_0.length c0_0] 43 (0, 0)) (by (with_reducible repeat (first | refine blk_drewN ?_ _ | refine blk_drew ?_ | refine blk_alloc ?_ _)); exact BK215.out)) : gb215 ≠ gb217)); have n6_ := Aside0.mk ((by rw [hg]; exact Nat.ne_of_gt (blk_lt (g := gb215) (o := .cells #[.slice (some ad216) l0_0.length c0_0] 43 (0, 0)) (by (with_reducible repeat (first | refine blk_drewN ?_ _ | refine blk_drew ?_ | refine blk_alloc ?_ _)); exact BK215.out)) : gb217 ≠ gb215)); clear BK215; clear HB; have BK215 := n0_; have HB := n1_; have BK217 := n2_; have GW217 := n3_; have GE217 := n4_; have NB215_217 := n5_; have NB217_215 := n6_; clear n0_ n1_ n2_ n3_ n4_ n5_ n6_; clear hb hbox hg; have hnb27 := NB217_215.out; have hnc27 := NB215_217.out; have hcz28_0 : w26.cell? ⟨gb217, 0, none⟩ = some (.int .i64 0) := (blk_cell BK217.out 0).trans rfl; have hcz28_1 : w26.cell? ⟨gb217, 1, none⟩ = some (.int .i64 0) := (blk_cell BK217.out 1).trans rfl; have hcz28_2 : w26.cell? ⟨gb217, 2, none⟩ = some (.int .i64 0) := (blk_cell BK217.out 2).trans rfl; have hcz28_3 : w26.cell? ⟨gb217, 3, none⟩ = some (.slice none 0 0) := (blk_cell BK217.out 3).trans rfl; have hcz28_4 : w26.cell? ⟨gb217, 4, none⟩ = some (.slice none 0 0) := (blk_cell BK217.out 4).trans rfl; have hfz28_0 := blk_frozen BK217.out 0; have hfz28_1 := blk_frozen BK217.out 1; have hfz28_2 := blk_frozen BK217.out 2; have hfz28_3 := blk_frozen BK217.out 3; have hfz28_4 := blk_frozen BK217.out 4))
        have n0_ : Aside0 ((((((w26.setCell ⟨gb217, 0, none⟩ (.int .i64 ((rd_T31 l0_0 x8_1).f0))).setCell ⟨gb217, 1, none⟩ (.int .i64 ((rd_T31 l0_0 x8_1).f1))).setCell ⟨gb217, 2, none⟩ (.int .i64 ((rd_T31 l0_0 x8_1).f2))).setCell ⟨gb217, 3, none⟩ (.slice A216_3 ((rd_T31 l0_0 x8_1).f3).length c216_3)).setCell ⟨gb217, 4, none⟩ (.slice A216_4 ((rd_T31 l0_0 x8_1).f4).length c216_4)).heap[gb215]? = some (.cells #[.slice (some ad216) l0_0.length c0_0] 43 (0, 0))) := ⟨by (with_reducible repeat (first | refine blk_drewN ?_ _ | refine blk_drew ?_ | refine blk_alloc ?_ _)); refine blk_far ?_ NB215_217.out _; (with_reducible repeat (first | refine blk_drewN ?_ _ | refine blk_drew ?_ | refine blk_alloc ?_ _)); refine blk_far ?_ NB215_217.out _; (with_reducible repeat (first | refine blk_drewN ?_ _ | refine blk_drew ?_ | refine blk_alloc ?_ _)); refine blk_far ?_ NB215_217.out _; (with_reducible repeat (first | refine blk_drewN ?_ _ | refine blk_drew ?_ | refine blk_alloc ?_ _)); refine blk_far ?_ NB215_217.out _; (with_reducible repeat (first | refine blk_drewN ?_ _ | refine blk_drew ?_ | refine blk_alloc ?_ _)); refine blk_far ?_ NB215_217.out _; (with_reducible repeat (first | refine blk_drewN ?_ _ | refine blk_drew ?_ | refine blk_alloc ?_ _)); exact BK215.out⟩
        have n1_ : Aside0 ((((((w26.setCell ⟨gb217, 0, none⟩ (.int .i64 ((rd_T31 l0_0 x8_1).f0))).setCell ⟨gb217, 1, none⟩ (.int .i64 ((rd_T31 l0_0 x8_1).f1))).setCell ⟨gb217, 2, none⟩ (.int .i64 ((rd_T31 l0_0 x8_1).f2))).setCell ⟨gb217, 3, none⟩ (.slice A216_3 ((rd_T31 l0_0 x8_1).f3).length c216_3)).setCell ⟨gb217, 4, none⟩ (.slice A216_4 ((rd_T31 l0_0 x8_1).f4).length c216_4)).heap[gb217]? = some (.cells #[.int .i64 ((rd_T31 l0_0 x8_1).f0), .int .i64 ((rd_T31 l0_0 x8_1).f1), .int .i64 ((rd_T31 l0_0 x8_1).f2), .slice A216_3 ((rd_T31 l0_0 x8_1).f3).length c216_3, .slice A216_4 ((rd_T31 l0_0 x8_1).f4).length c216_4] 31 (0, 0))) := ⟨by (with_reducible repeat (first | refine blk_drewN ?_ _ | refine blk_drew ?_ | refine blk_alloc ?_ _)); refine blk_put (cs := #[.int .i64 ((rd_T31 l0_0 x8_1).f0), .int .i64 ((rd_T31 l0_0 x8_1).f1), .int .i64 ((rd_T31 l0_0 x8_1).f2), .slice A216_3 ((rd_T31 l0_0 x8_1).f3).length c216_3, .slice none 0 0]) ?_ 4 _ rfl; (with_reducible repeat (first | refine blk_drewN ?_ _ | refine blk_drew ?_ | refine blk_alloc ?_ _)); refine blk_put (cs := #[.int .i64 ((rd_T31 l0_0 x8_1).f0), .int .i64 ((rd_T31 l0_0 x8_1).f1), .int .i64 ((rd_T31 l0_0 x8_1).f2), .slice none 0 0, .slice none 0 0]) ?_ 3 _ rfl; (with_reducible repeat (first | refine blk_drewN ?_ _ | refine blk_drew ?_ | refine blk_alloc ?_ _)); refine blk_put (cs := #[.int .i64 ((rd_T31 l0_0 x8_1).f0), .int .i64 ((rd_T31 l0_0 x8_1).f1), .int .i64 0, .slice none 0 0, .slice none 0 0]) ?_ 2 _ rfl; (with_reducible repeat (first | refine blk_drewN ?_ _ | refine blk_drew ?_ | refine blk_alloc ?_ _)); refine blk_put (cs := #[.int .i64 ((rd_T31 l0_0 x8_1).f0), .int .i64 0, .int .i64 0, .slice none 0 0, .slice none 0 0]) ?_ 1 _ rfl; (with_reducible repeat (first | refine blk_drewN ?_ _ | refine blk_drew ?_ | refine blk_alloc ?_ _)); refine blk_put (cs := #[.int .i64 0, .int .i64 0, .int .i64 0, .slice none 0 0, .slice none 0 0]) ?_ 0 _ rfl; (with_reducible repeat (first | refine blk_drewN ?_ _ | refine blk_drew ?_ | refine blk_alloc ?_ _)); exact BK217.out⟩
        have n2_ : Aside0 (Below w.heap.size w (((((w26.setCell ⟨gb217, 0, none⟩ (.int .i64 ((rd_T31 l0_0 x8_1).f0))).setCell ⟨gb217, 1, none⟩ (.int .i64 ((rd_T31 l0_0 x8_1).f1))).setCell ⟨gb217, 2, none⟩ (.int .i64 ((rd_T31 l0_0 x8_1).f2))).setCell ⟨gb217, 3, none⟩ (.slice A216_3 ((rd_T31 l0_0 x8_1).f3).length c216_3)).setCell ⟨gb217, 4, none⟩ (.slice A216_4 ((rd_T31 l0_0 x8_1).f4).length c216_4))) := ⟨by repeat (first | (with_reducible first | exact HB.out | apply below_alloc | apply pw_below_drewN | apply below_drew1 | refine below_set ?_ GE215.out | refine below_set ?_ GE217.out) | exact HB.out)⟩
        (try clear BK215)
        (try clear BK217)
        (try clear HB)
        generalize (((((w26.setCell ⟨gb217, 0, none⟩ (.int .i64 ((rd_T31 l0_0 x8_1).f0))).setCell ⟨gb217, 1, none⟩ (.int .i64 ((rd_T31 l0_0 x8_1).f1))).setCell ⟨gb217, 2, none⟩ (.int .i64 ((rd_T31 l0_0 x8_1).f2))).setCell ⟨gb217, 3, none⟩ (.slice A216_3 ((rd_T31 l0_0 x8_1).f3).length c216_3)).setCell ⟨gb217, 4, none⟩ (.slice A216_4 ((rd_T31 l0_0 x8_1).f4).length c216_4)) = w29 at n0_ n1_ n2_ ⊢
        have BK215 := n0_
        have BK217 := n1_
        have HB := n2_
        clear n0_ n1_ n2_
        have n0_ := Aside0.mk (blk_drew BK215.out)
        have n1_ := Aside0.mk (blk_drew BK217.out)
        have n2_ := Aside0.mk (below_drew1 HB.out)
        clear BK215
        clear BK217
        clear HB
        have BK215 := n0_
        have BK217 := n1_
        have HB := n2_
        clear n0_ n1_ n2_
        refine start_ (n := 19) (S := fun w' => w'.cell? ⟨gb217, 0, none⟩ = some (.int .i64 ((rd_T31 l0_0 x8_1).f0)) ∧ w'.cell? ⟨gb217, 1, none⟩ = some (.int .i64 ((rd_T31 l0_0 x8_1).f1)) ∧ w'.cell? ⟨gb217, 2, none⟩ = some (.int .i64 ((rd_T31 l0_0 x8_1).f2)) ∧ w'.cell? ⟨gb217, 3, none⟩ = some (.slice A216_3 ((rd_T31 l0_0 x8_1).f3).length c216_3) ∧ w'.cell? ⟨gb217, 4, none⟩ = some (.slice A216_4 ((rd_T31 l0_0 x8_1).f4).length c216_4)) (ds := []) ba9_0 (by kernel_rfl) rfl rfl ⟨(blk_cell BK217.out 0).trans rfl, (blk_cell BK217.out 1).trans rfl, (blk_cell BK217.out 2).trans rfl, (blk_cell BK217.out 3).trans rfl, (blk_cell BK217.out 4).trans rfl⟩ (fun hHeld => ?_); refine with_tabW impl_DbOk.tab4 impl_DbOk.bits4 (fun HT_ HW_ => ?_)
        generalize w29.drew = w30 at BK215 BK217 HB hHeld ⊢
        refine pt_ 0 13 ba9_1 HT_ HW_ hHeld ?_
        refine one_ (i := 1) (N := some 14) ba9_2 rfl rfl (one_of HT_.out (by kernel_rfl)) (by decide) (fun K hK => ?_)
        refine goes_ Try.func16 (by kernel_rfl) rfl #[.agg #[.int .i64 ((rd_T31 l0_0 x8_1).f0), .int .i64 ((rd_T31 l0_0 x8_1).f1), .int .i64 ((rd_T31 l0_0 x8_1).f2), .slice A216_3 ((rd_T31 l0_0 x8_1).f3).length c216_3, .slice A216_4 ((rd_T31 l0_0 x8_1).f4).length c216_4]] (by rfl) rfl rfl (by (try simp only [List.map_toArray, List.map_cons, List.map_nil]); first | done | rfl | (simp only [List.length_drop, List.length_take]; rfl)) ?_
        with_reducible refine (impl_LsaOk.calls k1 ((rd_T31 l0_0 x8_1).f0) ((rd_T31 l0_0 x8_1).f1) ((rd_T31 l0_0 x8_1).f2) _ _ ((rd_T31 l0_0 x8_1).f3) _ _ ((rd_T31 l0_0 x8_1).f4) true _ ?side1 ?side2 ?side3 ?side4 A7.out).mono ?_
        (case side1 => repeat (first | exact (Kd.C_below HR216_3.out HB.out) | (with_reducible refine Kd.C_alloc ?_ _) | (with_reducible refine Kd.C_drewN ?_ _) | (with_reducible refine Kd.C_drew ?_)))
        (case side2 => exact HC216_3.out)
        (case side3 => repeat (first | exact (Kd.C_below HR216_4.out HB.out) | (with_reducible refine Kd.C_alloc ?_ _) | (with_reducible refine Kd.C_drewN ?_ _) | (with_reducible refine Kd.C_drew ?_)))
        (case side4 => exact HC216_4.out)
        rintro e w31 ⟨rfl, hb⟩
        refine ⟨_, rfl, ?_⟩
        have n0_ := Aside0.mk (blk_below (g := gb215) (o := .cells #[.slice (some ad216) l0_0.length c0_0] 43 (0, 0)) (by (with_reducible repeat (first | refine blk_drewN ?_ _ | refine blk_drew ?_ | refine blk_alloc ?_ _)); exact BK215.out) hb)
        have n1_ := Aside0.mk (blk_below (g := gb217) (o := .cells #[.int .i64 ((rd_T31 l0_0 x8_1).f0), .int .i64 ((rd_T31 l0_0 x8_1).f1), .int .i64 ((rd_T31 l0_0 x8_1).f2), .slice A216_3 ((rd_T31 l0_0 x8_1).f3).length c216_3, .slice A216_4 ((rd_T31 l0_0 x8_1).f4).length c216_4] 31 (0, 0)) (by (with_reducible repeat (first | refine blk_drewN ?_ _ | refine blk_drew ?_ | refine blk_alloc ?_ _)); exact BK217.out) hb)
        have n2_ := Aside0.mk (below_step (by repeat (first | (with_reducible first | exact HB.out | apply below_alloc | apply pw_below_drewN | apply below_drew1 | refine below_set ?_ GE215.out | refine below_set ?_ GE217.out) | exact HB.out)) hb)
        clear BK215
        clear BK217
        clear HB
        have BK215 := n0_
        have BK217 := n1_
        have HB := n2_
        clear n0_ n1_ n2_
        (try clear hb)
        (try clear hb2)
        (try clear hk)
        (try clear hi)
        refine hK.out _ _ ⟨(blk_cell BK217.out 0).trans rfl, (blk_cell BK217.out 1).trans rfl, (blk_cell BK217.out 2).trans rfl, (blk_cell BK217.out 3).trans rfl, (blk_cell BK217.out 4).trans rfl⟩ (fun hHeld => ?_)
        clear hK K
        refine norm_ (a' := ?_) ?_ ?_
        rotate_left; · show Act.put _ (some 14) _ = _; simp only [Act.put, List.setIfInBounds_toArray, List.set_cons_zero, List.set_cons_succ, i64_w, i32_w]; rfl
        refine pz_ 2 15 ba9_3 HT_ ?_
        refine pz_ 3 16 ba9_4 HT_ ?_
        refine pz_ 4 17 ba9_5 HT_ ?_
        refine pz_ 5 18 ba9_6 HT_ ?_
        refine pz_ 6 19 ba9_7 HT_ ?_
        refine pu_ 7 20 ba9_8 HT_ ?_
        refine pu_ 8 21 ba9_20 HT_ ?_
        refine pu_ 9 22 ba9_21 HT_ ?_
        refine pu_ 10 23 ba9_22 HT_ ?_
        refine pu_ 11 24 ba9_23 HT_ ?_
        refine pu_ 12 25 ba9_13 HT_ ?_
        refine pu_ 13 26 ba9_14 HT_ ?_
        refine pu_ 14 27 ba9_15 HT_ ?_
        refine pu_ 15 28 ba9_16 HT_ ?_
        refine pu_ 16 29 ba9_17 HT_ ?_
        refine pz_ 17 30 ba9_18 HT_ ?_
        refine pz_ 18 31 ba9_19 HT_ ?_
        refine done_ (done_of HT_.out (by kernel_rfl)) ?_
        try go_wp2
        go_roundg k1
        case measure => have := HK1.out; omega
        case rel => exact ⟨(wrap64 (x8_1 + 1)), (by first | rfl | (simp; done) | (simp [*]; done)), H', ⟨by have := HK1.out; omega⟩, ⟨by (with_reducible repeat (first | refine blk_drewN ?_ _ | refine blk_drew ?_ | refine blk_alloc ?_ _)); exact BK215.out⟩, ⟨by repeat (first | (with_reducible first | exact HB.out | apply below_alloc | apply pw_below_drewN | apply below_drew1 | refine below_set ?_ GE215.out | refine below_set ?_ GE217.out) | exact HB.out)⟩⟩
      ·replace c8 := Bool.eq_false_iff.mpr c8
       subst c8
       rw [if_neg (show ¬ (false = true) by decide)] at H
       obtain rfl := Option.some.inj H
       have p216 : 0 ≤ (x8_1 : Int) := of_decide_eq_true (by first | (with_reducible assumption) | assumption)
       have q216 : x8_1 < (l0_0.length : Int) := of_decide_eq_true (by first | (with_reducible assumption) | assumption)
       obtain ⟨ad216, A216_3, c216_3, A216_4, c216_4, e216, hx216_0, hx216_1, hx216_2, hx216_3, hx216_4, hl216_3, hi216_3, hl216_4, hi216_4⟩ := at_T31 HR0_0.out x8_1 p216 q216
       cases e216
       replace hx216_0 := (HB.out.cell (World.block_lt_of_cell? w _ hx216_0)).trans hx216_0
       replace hx216_1 := (HB.out.cell (World.block_lt_of_cell? w _ hx216_1)).trans hx216_1
       replace hx216_2 := (HB.out.cell (World.block_lt_of_cell? w _ hx216_2)).trans hx216_2
       replace hx216_3 := (HB.out.cell (World.block_lt_of_cell? w _ hx216_3)).trans hx216_3
       replace hx216_4 := (HB.out.cell (World.block_lt_of_cell? w _ hx216_4)).trans hx216_4
       have HR216_3 := Aside0.mk hi216_3
       have HC216_3 := Aside0.mk hl216_3
       clear hi216_3 hl216_3
       have HR216_4 := Aside0.mk hi216_4
       have HC216_4 := Aside0.mk hl216_4
       clear hi216_4 hl216_4
       replace p216 := eq_true p216
       replace q216 := eq_true q216
       try go_wp2_with (first | ((with_reducible refine gate_dst (N := 4) rfl ?_); refine box_event ?hg (N := 4) ?hd (cs := #[.int .i64 0, .int .i64 0, .int .i64 0, .slice none 0 0, .slice none 0 0]) (t := 31) ?hr ?_; (case hd => rfl); (case hg => rfl); (case hr => first | (go_simp; done) | (go_simp; rfl)); intro gb217 hg w32 hbox hb; have n0_ := Aside0.mk (blk_below (g := gb215) (o := .cells #[.slice (some ad216) l0_0.length c0_0] 43 (0, 0)) (by (with_reducible repeat (first | refine blk_drewN ?_ _ | refine blk_drew ?_ | refine blk_alloc ?_ _)); exact BK215.out) hb); have n1_ := Aside0.mk (below_step (by repeat (first | (with_reducible first | exact HB.out | apply below_alloc | apply pw_below_drewN | apply below_drew1 | refine below_set ?_ GE215.out) | exact HB.out)) hb); have n2_ := Aside0.mk (hbox); have n3_ := Aside0.mk ((by rw [hg]; exact (below_size (by repeat (first | (with_reducible first | exact HB.out | apply below_alloc | apply pw_below_drewN | apply below_drew1 | refine below_set ?_ GE215.out) | exact HB.out))) : w.heap.size ≤ gb217)); have n4_ := Aside0.mk ((by rw [hg]; exact (below_size (by repeat (first | (with_reducible first | exact HB.out | apply below_alloc | apply pw_below_drewN | apply below_drew1 | refine below_set ?_ GE215.out) | exact HB.out))) : w.heap.size ≤ gb217)); have n5_ := Aside0.mk ((by rw [hg]; exact Nat.ne_of_lt (blk_lt (g := gb215) (o := .cells #[.slice (some ad216) l0_0.length c0_0] 43 (0, 0)) (by (with_reducible repeat (first | refine blk_drewN ?_ _ | refine blk_drew ?_ | refine blk_alloc ?_ _)); exact BK215.out)) : gb215 ≠ gb217)); have n6_ := Aside0.mk ((by rw [hg]; exact Nat.ne_of_gt (blk_lt (g := gb215) (o := .cells #[.slice (some ad216) l0_0.length c0_0] 43 (0, 0)) (by (with_reducible repeat (first | refine blk_drewN ?_ _ | refine blk_drew ?_ | refine blk_alloc ?_ _)); exact BK215.out)) : gb217 ≠ gb215)); clear BK215; clear HB; have BK215 := n0_; have HB := n1_; have BK217 := n2_; have GW217 := n3_; have GE217 := n4_; have NB215_217 := n5_; have NB217_215 := n6_; clear n0_ n1_ n2_ n3_ n4_ n5_ n6_; clear hb hbox hg; have hnb33 := NB217_215.out; have hnc33 := NB215_217.out; have hcz34_0 : w32.cell? ⟨gb217, 0, none⟩ = some (.int .i64 0) := (blk_cell BK217.out 0).trans rfl; have hcz34_1 : w32.cell? ⟨gb217, 1, none⟩ = some (.int .i64 0) := (blk_cell BK217.out 1).trans rfl; have hcz34_2 : w32.cell? ⟨gb217, 2, none⟩ = some (.int .i64 0) := (blk_cell BK217.out 2).trans rfl; have hcz34_3 : w32.cell? ⟨gb217, 3, none⟩ = some (.slice none 0 0) := (blk_cell BK217.out 3).trans rfl; have hcz34_4 : w32.cell? ⟨gb217, 4, none⟩ = some (.slice none 0 0) := (blk_cell BK217.out 4).trans rfl; have hfz34_0 := blk_frozen BK217.out 0; have hfz34_1 := blk_frozen BK217.out 1; have hfz34_2 := blk_frozen BK217.out 2; have hfz34_3 := blk_frozen BK217.out 3; have hfz34_4 := blk_frozen BK217.out 4))
       have n0_ : Aside0 ((((((w32.setCell ⟨gb217, 0, none⟩ (.int .i64 ((rd_T31 l0_0 x8_1).f0))).setCell ⟨gb217, 1, none⟩ (.int .i64 ((rd_T31 l0_0 x8_1).f1))).setCell ⟨gb217, 2, none⟩ (.int .i64 ((rd_T31 l0_0 x8_1).f2))).setCell ⟨gb217, 3, none⟩ (.slice A216_3 ((rd_T31 l0_0 x8_1).f3).length c216_3)).setCell ⟨gb217, 4, none⟩ (.slice A216_4 ((rd_T31 l0_0 x8_1).f4).length c216_4)).heap[gb215]? = some (.cells #[.slice (some ad216) l0_0.length c0_0] 43 (0, 0))) := ⟨by (with_reducible repeat (first | refine blk_drewN ?_ _ | refine blk_drew ?_ | refine blk_alloc ?_ _)); refine blk_far ?_ NB215_217.out _; (with_reducible repeat (first | refine blk_drewN ?_ _ | refine blk_drew ?_ | refine blk_alloc ?_ _)); refine blk_far ?_ NB215_217.out _; (with_reducible repeat (first | refine blk_drewN ?_ _ | refine blk_drew ?_ | refine blk_alloc ?_ _)); refine blk_far ?_ NB215_217.out _; (with_reducible repeat (first | refine blk_drewN ?_ _ | refine blk_drew ?_ | refine blk_alloc ?_ _)); refine blk_far ?_ NB215_217.out _; (with_reducible repeat (first | refine blk_drewN ?_ _ | refine blk_drew ?_ | refine blk_alloc ?_ _)); refine blk_far ?_ NB215_217.out _; (with_reducible repeat (first | refine blk_drewN ?_ _ | refine blk_drew ?_ | refine blk_alloc ?_ _)); exact BK215.out⟩
       have n1_ : Aside0 ((((((w32.setCell ⟨gb217, 0, none⟩ (.int .i64 ((rd_T31 l0_0 x8_1).f0))).setCell ⟨gb217, 1, none⟩ (.int .i64 ((rd_T31 l0_0 x8_1).f1))).setCell ⟨gb217, 2, none⟩ (.int .i64 ((rd_T31 l0_0 x8_1).f2))).setCell ⟨gb217, 3, none⟩ (.slice A216_3 ((rd_T31 l0_0 x8_1).f3).length c216_3)).setCell ⟨gb217, 4, none⟩ (.slice A216_4 ((rd_T31 l0_0 x8_1).f4).length c216_4)).heap[gb217]? = some (.cells #[.int .i64 ((rd_T31 l0_0 x8_1).f0), .int .i64 ((rd_T31 l0_0 x8_1).f1), .int .i64 ((rd_T31 l0_0 x8_1).f2), .slice A216_3 ((rd_T31 l0_0 x8_1).f3).length c216_3, .slice A216_4 ((rd_T31 l0_0 x8_1).f4).length c216_4] 31 (0, 0))) := ⟨by (with_reducible repeat (first | refine blk_drewN ?_ _ | refine blk_drew ?_ | refine blk_alloc ?_ _)); refine blk_put (cs := #[.int .i64 ((rd_T31 l0_0 x8_1).f0), .int .i64 ((rd_T31 l0_0 x8_1).f1), .int .i64 ((rd_T31 l0_0 x8_1).f2), .slice A216_3 ((rd_T31 l0_0 x8_1).f3).length c216_3, .slice none 0 0]) ?_ 4 _ rfl; (with_reducible repeat (first | refine blk_drewN ?_ _ | refine blk_drew ?_ | refine blk_alloc ?_ _)); refine blk_put (cs := #[.int .i64 ((rd_T31 l0_0 x8_1).f0), .int .i64 ((rd_T31 l0_0 x8_1).f1), .int .i64 ((rd_T31 l0_0 x8_1).f2), .slice none 0 0, .slice none 0 0]) ?_ 3 _ rfl; (with_reducible repeat (first | refine blk_drewN ?_ _ | refine blk_drew ?_ | refine blk_alloc ?_ _)); refine blk_put (cs := #[.int .i64 ((rd_T31 l0_0 x8_1).f0), .int .i64 ((rd_T31 l0_0 x8_1).f1), .int .i64 0, .slice none 0 0, .slice none 0 0]) ?_ 2 _ rfl; (with_reducible repeat (first | refine blk_drewN ?_ _ | refine blk_drew ?_ | refine blk_alloc ?_ _)); refine blk_put (cs := #[.int .i64 ((rd_T31 l0_0 x8_1).f0), .int .i64 0, .int .i64 0, .slice none 0 0, .slice none 0 0]) ?_ 1 _ rfl; (with_reducible repeat (first | refine blk_drewN ?_ _ | refine blk_drew ?_ | refine blk_alloc ?_ _)); refine blk_put (cs := #[.int .i64 0, .int .i64 0, .int .i64 0, .slice none 0 0, .slice none 0 0]) ?_ 0 _ rfl; (with_reducible repeat (first | refine blk_drewN ?_ _ | refine blk_drew ?_ | refine blk_alloc ?_ _)); exact BK217.out⟩
       have n2_ : Aside0 (Below w.heap.size w (((((w32.setCell ⟨gb217, 0, none⟩ (.int .i64 ((rd_T31 l0_0 x8_1).f0))).setCell ⟨gb217, 1, none⟩ (.int .i64 ((rd_T31 l0_0 x8_1).f1))).setCell ⟨gb217, 2, none⟩ (.int .i64 ((rd_T31 l0_0 x8_1).f2))).setCell ⟨gb217, 3, none⟩ (.slice A216_3 ((rd_T31 l0_0 x8_1).f3).length c216_3)).setCell ⟨gb217, 4, none⟩ (.slice A216_4 ((rd_T31 l0_0 x8_1).f4).length c216_4))) := ⟨by repeat (first | (with_reducible first | exact HB.out | apply below_alloc | apply pw_below_drewN | apply below_drew1 | refine below_set ?_ GE215.out | refine below_set ?_ GE217.out) | exact HB.out)⟩
       (try clear BK215)
       (try clear BK217)
       (try clear HB)
       generalize (((((w32.setCell ⟨gb217, 0, none⟩ (.int .i64 ((rd_T31 l0_0 x8_1).f0))).setCell ⟨gb217, 1, none⟩ (.int .i64 ((rd_T31 l0_0 x8_1).f1))).setCell ⟨gb217, 2, none⟩ (.int .i64 ((rd_T31 l0_0 x8_1).f2))).setCell ⟨gb217, 3, none⟩ (.slice A216_3 ((rd_T31 l0_0 x8_1).f3).length c216_3)).setCell ⟨gb217, 4, none⟩ (.slice A216_4 ((rd_T31 l0_0 x8_1).f4).length c216_4)) = w35 at n0_ n1_ n2_ ⊢
       have BK215 := n0_
       have BK217 := n1_
       have HB := n2_
       clear n0_ n1_ n2_
       have n0_ := Aside0.mk (blk_drew BK215.out)
       have n1_ := Aside0.mk (blk_drew BK217.out)
       have n2_ := Aside0.mk (below_drew1 HB.out)
       clear BK215
       clear BK217
       clear HB
       have BK215 := n0_
       have BK217 := n1_
       have HB := n2_
       clear n0_ n1_ n2_
       refine start_ (n := 19) (S := fun w' => w'.cell? ⟨gb217, 0, none⟩ = some (.int .i64 ((rd_T31 l0_0 x8_1).f0)) ∧ w'.cell? ⟨gb217, 1, none⟩ = some (.int .i64 ((rd_T31 l0_0 x8_1).f1)) ∧ w'.cell? ⟨gb217, 2, none⟩ = some (.int .i64 ((rd_T31 l0_0 x8_1).f2)) ∧ w'.cell? ⟨gb217, 3, none⟩ = some (.slice A216_3 ((rd_T31 l0_0 x8_1).f3).length c216_3) ∧ w'.cell? ⟨gb217, 4, none⟩ = some (.slice A216_4 ((rd_T31 l0_0 x8_1).f4).length c216_4)) (ds := []) ba9_0 (by kernel_rfl) rfl rfl ⟨(blk_cell BK217.out 0).trans rfl, (blk_cell BK217.out 1).trans rfl, (blk_cell BK217.out 2).trans rfl, (blk_cell BK217.out 3).trans rfl, (blk_cell BK217.out 4).trans rfl⟩ (fun hHeld => ?_); refine with_tabW impl_DbOk.tab4 impl_DbOk.bits4 (fun HT_ HW_ => ?_)
       generalize w35.drew = w36 at BK215 BK217 HB hHeld ⊢
       refine pt_ 0 13 ba9_1 HT_ HW_ hHeld ?_
       refine one_ (i := 1) (N := some 14) ba9_2 rfl rfl (one_of HT_.out (by kernel_rfl)) (by decide) (fun K hK => ?_)
       refine goes_ Try.func16 (by kernel_rfl) rfl #[.agg #[.int .i64 ((rd_T31 l0_0 x8_1).f0), .int .i64 ((rd_T31 l0_0 x8_1).f1), .int .i64 ((rd_T31 l0_0 x8_1).f2), .slice A216_3 ((rd_T31 l0_0 x8_1).f3).length c216_3, .slice A216_4 ((rd_T31 l0_0 x8_1).f4).length c216_4]] (by rfl) rfl rfl (by (try simp only [List.map_toArray, List.map_cons, List.map_nil]); first | done | rfl | (simp only [List.length_drop, List.length_take]; rfl)) ?_
       with_reducible refine (impl_LsaOk.calls k1 ((rd_T31 l0_0 x8_1).f0) ((rd_T31 l0_0 x8_1).f1) ((rd_T31 l0_0 x8_1).f2) _ _ ((rd_T31 l0_0 x8_1).f3) _ _ ((rd_T31 l0_0 x8_1).f4) false _ ?side1 ?side2 ?side3 ?side4 A7.out).mono ?_
       (case side1 => repeat (first | exact (Kd.C_below HR216_3.out HB.out) | (with_reducible refine Kd.C_alloc ?_ _) | (with_reducible refine Kd.C_drewN ?_ _) | (with_reducible refine Kd.C_drew ?_)))
       (case side2 => exact HC216_3.out)
       (case side3 => repeat (first | exact (Kd.C_below HR216_4.out HB.out) | (with_reducible refine Kd.C_alloc ?_ _) | (with_reducible refine Kd.C_drewN ?_ _) | (with_reducible refine Kd.C_drew ?_)))
       (case side4 => exact HC216_4.out)
       rintro e w37 ⟨rfl, hb⟩
       refine ⟨_, rfl, ?_⟩
       have n0_ := Aside0.mk (blk_below (g := gb215) (o := .cells #[.slice (some ad216) l0_0.length c0_0] 43 (0, 0)) (by (with_reducible repeat (first | refine blk_drewN ?_ _ | refine blk_drew ?_ | refine blk_alloc ?_ _)); exact BK215.out) hb)
       have n1_ := Aside0.mk (blk_below (g := gb217) (o := .cells #[.int .i64 ((rd_T31 l0_0 x8_1).f0), .int .i64 ((rd_T31 l0_0 x8_1).f1), .int .i64 ((rd_T31 l0_0 x8_1).f2), .slice A216_3 ((rd_T31 l0_0 x8_1).f3).length c216_3, .slice A216_4 ((rd_T31 l0_0 x8_1).f4).length c216_4] 31 (0, 0)) (by (with_reducible repeat (first | refine blk_drewN ?_ _ | refine blk_drew ?_ | refine blk_alloc ?_ _)); exact BK217.out) hb)
       have n2_ := Aside0.mk (below_step (by repeat (first | (with_reducible first | exact HB.out | apply below_alloc | apply pw_below_drewN | apply below_drew1 | refine below_set ?_ GE215.out | refine below_set ?_ GE217.out) | exact HB.out)) hb)
       clear BK215
       clear BK217
       clear HB
       have BK215 := n0_
       have BK217 := n1_
       have HB := n2_
       clear n0_ n1_ n2_
       (try clear hb)
       (try clear hb2)
       (try clear hk)
       (try clear hi)
       refine hK.out _ _ ⟨(blk_cell BK217.out 0).trans rfl, (blk_cell BK217.out 1).trans rfl, (blk_cell BK217.out 2).trans rfl, (blk_cell BK217.out 3).trans rfl, (blk_cell BK217.out 4).trans rfl⟩ (fun hHeld => ?_)
       clear hK K
       refine norm_ (a' := ?_) ?_ ?_
       rotate_left; · show Act.put _ (some 14) _ = _; simp only [Act.put, List.setIfInBounds_toArray, List.set_cons_zero, List.set_cons_succ, i64_w, i32_w]; rfl
       refine pz_ 2 15 ba9_3 HT_ ?_
       refine pz_ 3 16 ba9_4 HT_ ?_
       refine pu_ 4 17 ba9_5 HT_ ?_
       refine pu_ 5 18 ba9_6 HT_ ?_
       refine pu_ 6 19 ba9_7 HT_ ?_
       refine pu_ 7 20 ba9_8 HT_ ?_
       refine pu_ 8 21 ba9_20 HT_ ?_
       refine pu_ 9 22 ba9_21 HT_ ?_
       refine pu_ 10 23 ba9_22 HT_ ?_
       refine pu_ 11 24 ba9_23 HT_ ?_
       refine pu_ 12 25 ba9_13 HT_ ?_
       refine pu_ 13 26 ba9_14 HT_ ?_
       refine pu_ 14 27 ba9_15 HT_ ?_
       refine pu_ 15 28 ba9_16 HT_ ?_
       refine pu_ 16 29 ba9_17 HT_ ?_
       refine pu_ 17 30 ba9_18 HT_ ?_
       refine pz_ 18 31 ba9_19 HT_ ?_
       refine done_ (done_of HT_.out (by kernel_rfl)) ?_
       try go_wp2
       go_ret
       exact ⟨by first | rfl | (simp [errW_none, errW_some] <;> rfl) | (simp [*, errW_none, errW_some] <;> rfl), by repeat (first | (with_reducible first | exact HB.out | apply below_alloc | apply pw_below_drewN | apply below_drew1 | refine below_set ?_ GE215.out | refine below_set ?_ GE217.out) | exact HB.out)⟩
     ·rw [if_neg c6] at H
      exact absurd H (by simp)
    ·rw [if_neg c5] at H
     exact absurd H (by simp)
   ·rw [if_neg c4] at H
    have c4b0 : decide (x8_1 < (l0_0.length : Int)) = false := decide_eq_false c4
    clear c4
    obtain rfl := Option.some.inj H
    go_wp2
    go_ret
    exact ⟨by first | rfl | (simp [errW_none, errW_some] <;> rfl) | (simp [*, errW_none, errW_some] <;> rfl), by repeat (first | (with_reducible first | exact HB.out | apply below_alloc | apply pw_below_drewN | apply below_drew1 | refine below_set ?_ GE215.out) | exact HB.out)⟩

end Go.Proofs.Ytiikcfaodkiakaa.QFnExactDbOk
