/- Contracts of functions that the law reaches: what each call returns and what it leaves in memory. Made by this session over the print of the kit. -/
import Derived.Test.YtiikcfaodkiakaaQFnExactDbSumx0
import Derived.Test.YtiikcfaodkiakaaQFnExactDbSumx12
namespace Go.Proofs.Ytiikcfaodkiakaa.QFnExactDbSum
open Go.RowKit Go.Proofs.YtiikcfaodkiakaaV.PrintWords Go.Proofs.YtiikcfaodkiakaaV.PrintLast Go.Proofs.YtiikcfaodkiakaaV.PrintMore
attribute [local go_sem] max2_int min2_int max_two min_two max_three min_three max_four min_four   -- for this text's walks alone
set_option linter.unusedVariables false
set_option linter.unusedSimpArgs false
def ba13_0 : Array Bool := #[false, false, false, false, false, false, false, false, false, false, false, false, false, false, false, false, false, false, false]
def ba13_1 : Array Bool := #[true, false, false, false, false, false, false, false, false, false, false, false, false, false, false, false, false, false, false]
def ba13_2 : Array Bool := #[true, true, false, false, false, false, false, false, false, false, false, false, false, false, false, false, false, false, false]
def ba13_3 : Array Bool := #[true, true, true, false, false, false, false, false, false, false, false, false, false, false, false, false, false, false, false]
def ba13_4 : Array Bool := #[true, true, true, true, false, false, false, false, false, false, false, false, false, false, false, false, false, false, false]
def ba13_5 : Array Bool := #[true, true, true, true, true, false, false, false, false, false, false, false, false, false, false, false, false, false, false]
def ba13_6 : Array Bool := #[true, true, true, true, true, true, false, false, false, false, false, false, false, false, false, false, false, false, false]
def ba13_7 : Array Bool := #[true, true, true, true, true, true, true, false, false, false, false, false, false, false, false, false, false, false, false]
def ba13_8 : Array Bool := #[true, true, true, true, true, true, true, true, false, false, false, false, false, false, false, false, false, false, false]
def ba13_9 : Array Bool := #[true, true, true, true, true, true, true, true, false, true, false, false, false, false, false, false, false, false, false]
def ba13_10 : Array Bool := #[true, true, true, true, true, true, true, true, false, true, false, true, false, false, false, false, false, false, false]
def ba13_11 : Array Bool := #[true, true, true, true, true, true, true, true, false, true, false, true, true, false, false, false, false, false, false]
def ba13_12 : Array Bool := #[true, true, true, true, true, true, true, true, true, true, false, true, true, false, false, false, false, false, false]
def ba13_13 : Array Bool := #[true, true, true, true, true, true, true, true, true, true, true, true, true, false, false, false, false, false, false]
def ba13_14 : Array Bool := #[true, true, true, true, true, true, true, true, true, true, true, true, true, true, false, false, false, false, false]
def ba13_15 : Array Bool := #[true, true, true, true, true, true, true, true, true, true, true, true, true, true, true, false, false, false, false]
def ba13_16 : Array Bool := #[true, true, true, true, true, true, true, true, true, true, true, true, true, true, true, true, false, false, false]
def ba13_17 : Array Bool := #[true, true, true, true, true, true, true, true, true, true, true, true, true, true, true, true, true, false, false]
def ba13_18 : Array Bool := #[true, true, true, true, true, true, true, true, true, true, true, true, true, true, true, true, true, true, false]
def ba13_19 : Array Bool := #[true, true, true, true, true, true, true, true, true, true, true, true, true, true, true, true, true, true, true]
def ba13_20 : Array Bool := #[true, true, true, true, true, true, true, true, true, false, false, false, false, false, false, false, false, false, false]
def ba13_21 : Array Bool := #[true, true, true, true, true, true, true, true, true, true, false, false, false, false, false, false, false, false, false]
def ba13_22 : Array Bool := #[true, true, true, true, true, true, true, true, true, true, true, false, false, false, false, false, false, false, false]
def ba13_23 : Array Bool := #[true, true, true, true, true, true, true, true, true, true, true, true, false, false, false, false, false, false, false]

/-! ### impl_DbOk: function 23 -/
def impl_DbOk.l0 : Nat → List (S31) → Int → Int → List (S31) → Option (Bool)
 | 0, _, _, _, _ => none
 | k + 1, x6, x7, x8, x326000 => if x8 < x7 then (if 0 ≤ x8 then (if x8 < (x6.length : Int) then ((impl_LsaOk.f k ((rd_T31 x6 x8).f0) ((rd_T31 x6 x8).f1) ((rd_T31 x6 x8).f2) ((rd_T31 x6 x8).f3) ((rd_T31 x6 x8).f4)).bind fun t328 => (if t328 = true then (if x8 > 0 then (if 0 ≤ (wrap64 (x8 - 1)) then (if (wrap64 (x8 - 1)) < (x326000.length : Int) then (if ((rd_T31 x6 x8).f0) ≤ ((rd_T31 x326000 (wrap64 (x8 - 1))).f0) then (some false) else (impl_DbOk.l0 k x6 x7 (wrap64 (x8 + 1)) x326000)) else (none)) else (none)) else (impl_DbOk.l0 k x6 x7 (wrap64 (x8 + 1)) x326000)) else (some false))) else (none)) else (none)) else (some true)
def impl_DbOk.f (k : Nat) (l0_0 : List (S31)) : Option (Bool) := impl_DbOk.l0 k l0_0 (l0_0.length : Int) 0 l0_0
theorem impl_DbOk.mono_l : ∀ k, (∀ y0 y1 y2 y3, LeO (impl_DbOk.l0 k y0 y1 y2 y3) (impl_DbOk.l0 (k + 1) y0 y1 y2 y3))
 | 0 => fun _ _ _ _ r h => by simp [impl_DbOk.l0] at h
 | k + 1 => by
  have ih0 := impl_DbOk.mono_l k
  ·intro y0 y1 y2 y3
   unfold impl_DbOk.l0
   repeat' first
   | (with_reducible exact ih0 _ _ _ _)
   | (with_reducible exact impl_LsaOk.mono _ _ _ _ _ _)
   | (with_reducible exact LeO.refl _)
   | (with_reducible exact LeO.none _)
   | (with_reducible refine LeO.ite ?_ ?_)
   | (with_reducible refine LeO.bind ?_ (fun _ => ?_))
   | exact ih0 _ _ _ _
   | exact impl_LsaOk.mono _ _ _ _ _ _
   | exact LeO.none _
   | refine LeO.ite ?_ ?_
   | refine LeO.bind ?_ (fun _ => ?_)
theorem impl_DbOk.mono : ∀ a0 k, LeO (impl_DbOk.f k a0) (impl_DbOk.f (k + 1) a0) := by
 intro a0 k
 have ih0 := impl_DbOk.mono_l k
 unfold impl_DbOk.f
 repeat' first
   | (with_reducible exact ih0 _ _ _ _)
   | (with_reducible exact impl_LsaOk.mono _ _ _ _ _ _)
   | (with_reducible exact LeO.refl _)
   | (with_reducible exact LeO.none _)
   | (with_reducible refine LeO.ite ?_ ?_)
   | (with_reducible refine LeO.bind ?_ (fun _ => ?_))
   | exact ih0 _ _ _ _
   | exact impl_LsaOk.mono _ _ _ _ _ _
   | exact LeO.none _
   | refine LeO.ite ?_ ?_
   | refine LeO.bind ?_ (fun _ => ?_)
def impl_DbOk.T4 : Bool × List (List Nat × List Nat) := (true, [([], []), ([0], [0]), ([1], [1]), ([2, 1], [2]), ([3], [3]), ([4, 3], [3, 4]), ([5, 3, 3], [3, 5]), ([6], [6]), ([7, 6], [6, 7]), ([6], [6]), ([9, 6], [6, 9]), ([6], [6]), ([11, 6], [6, 11]), ([10, 12, 6], [6, 10, 12]), ([13, 6], [6, 13]), ([14, 6], [6, 14]), ([8, 15, 6], [6, 8, 15]), ([6, 16, 3], [3, 6, 16]), ([3, 17], [3, 17])])
def impl_DbOk.B4 : List Nat := [0, 1, 3, 7, 15, 31, 63, 127, 255, 127, 639, 127, 2175, 7807, 15999, 32383, 65535, 131071, 262143]
theorem impl_DbOk.tab4 : rtab .any (opsOf Try.f23 4) = impl_DbOk.T4 := by kernel_rfl
theorem impl_DbOk.bits4 : waitsOk impl_DbOk.T4.2 impl_DbOk.B4 = true := by kernel_rfl
set_option maxHeartbeats 8000000 in
set_option maxRecDepth 100000 in
theorem impl_DbOk.calls (k : Nat) (A0_0 : Option Addr) (c0_0 : Nat) (l0_0 : List (S31)) (r : Bool) (w : World) (hr0_0 : Kd.C k31 w A0_0 l0_0.length l0_0) (hc0_0 : l0_0.length ≤ c0_0) (h : impl_DbOk.f k l0_0 = some r) :
  Calls Try.prog 23 #[.agg #[.slice A0_0 l0_0.length c0_0]] w fun e w' => e = .returned (.bool r) ∧ Below w.heap.size w w' := by
 have hu43 := Try.underlying43
 have hu31 := Try.underlying31
 have HR0_0 := Aside0.mk hr0_0
 have HC0_0 := Aside0.mk hc0_0
 clear hr0_0 hc0_0
 have HB := Aside0.mk (Below.refl w.heap.size w)
 have H : (impl_DbOk.l0 k l0_0 (l0_0.length : Int) 0 l0_0) = some r := h
 clear h
 have H' := Aside0.mk H
 clear H
 go_enter Try.func23, Try.ntmps23
 go_wp2_with (first | ((with_reducible refine gate_dst (N := 1) rfl ?_); refine box_event ?hg (N := 1) ?hd (cs := #[.slice A0_0 l0_0.length c0_0]) (t := 43) ?hr ?_; (case hd => rfl); (case hg => rfl); (case hr => first | (go_simp; done) | (go_simp; rfl)); intro gb325 hg w2 hbox hb; have n0_ := Aside0.mk (bt_ HB hb); have n1_ := Aside0.mk (hbox); have n2_ := Aside0.mk ((by rw [hg]; exact (bz_ HB) : w.heap.size ≤ gb325)); have n3_ := Aside0.mk ((by rw [hg]; exact (bz_ HB) : w.heap.size ≤ gb325)); clear HB; have HB := n0_; have BK325 := n1_; have GW325 := n2_; have GE325 := n3_; clear n0_ n1_ n2_ n3_; clear hb hbox hg; have hcz3_0 : w2.cell? ⟨gb325, 0, none⟩ = some (.slice A0_0 l0_0.length c0_0) := (blk_cell BK325.out 0).trans rfl; have hfz3_0 := blk_frozen BK325.out 0))
 go_loopg [8] k (fun kq v8 w' => ∃ (x8_1 : Int), v8 = .int .i64 x8_1 ∧ Aside0 (impl_DbOk.l0 kq l0_0 (l0_0.length : Int) x8_1 l0_0 = some r) ∧ Aside0 (kq ≤ k) ∧ Aside0 (w'.heap[gb325]? = some (.cells #[(.slice A0_0 l0_0.length c0_0)] 43 (0, 0))) ∧ Aside0 (Below w.heap.size w w'))
 case atStart => exact ⟨(0), (by first | rfl | (simp; done) | (simp [*]; done)), H', ⟨Nat.le_refl _⟩, ⟨by (with_reducible repeat (first | refine blk_drewN ?_ _ | refine blk_drew ?_ | refine blk_alloc ?_ _)); exact BK325.out⟩, ⟨by repeat (first | (with_reducible first | exact HB.out | apply below_alloc | apply pw_below_drewN | apply below_drew1 | refine below_set ?_ GE325.out) | exact HB.out)⟩⟩
 case round =>
  clear H'
  try clear c2
  try clear p2
  try clear hcz3_0
  try clear hfz3_0
  obtain ⟨x8_1, rfl, HA, HK1, BK325, HB⟩ := hrel
  cases gk with
  | zero => exact absurd HA.out (by simp [impl_DbOk.l0])
  | succ k1 =>
   have H := HA.out
   clear HA
   simp only [impl_DbOk.l0] at H
   by_cases c4 : x8_1 < (l0_0.length : Int)
   ·rw [if_pos c4] at H
    have c4b0 : decide (x8_1 < (l0_0.length : Int)) = true := decide_eq_true c4
    clear c4
    by_cases c5 : 0 ≤ x8_1
    ·rw [if_pos c5] at H
     have c5b0 : decide (0 ≤ x8_1) = true := decide_eq_true c5
     clear c5
     by_cases c6 : x8_1 < (l0_0.length : Int)
     ·rw [if_pos c6] at H
      have c6b0 : decide (x8_1 < (l0_0.length : Int)) = true := decide_eq_true c6
      clear c6
      replace H := Option.bind_eq_some_iff.mp H
      obtain ⟨t328, A70, H⟩ := H
      have A7 := Aside0.mk A70
      clear A70
      by_cases c8 : t328 = true
      ·subst c8
       rw [if_pos rfl] at H
       by_cases c9 : x8_1 > 0
       ·rw [if_pos c9] at H
        have c9b0 : decide (0 < x8_1) = true := decide_eq_true c9
        clear c9
        obtain ⟨ji10, hji10⟩ : ∃ j_ : Int, (wrap64 (x8_1 - 1)) = j_ := ⟨_, rfl⟩
        first | rw [hji10] at H | simp only [hji10] at H
        (try rw [hji10] at A7)
        have hji10w : (IntKind.i64.wrap (x8_1 - 1)) = ji10 := (i64_w _).trans hji10
        by_cases c11 : 0 ≤ (ji10)
        ·rw [if_pos c11] at H
         have c11b0 : decide (0 ≤ (ji10)) = true := decide_eq_true c11
         clear c11
         by_cases c12 : (ji10) < (l0_0.length : Int)
         ·rw [if_pos c12] at H
          have c12b0 : decide ((ji10) < (l0_0.length : Int)) = true := decide_eq_true c12
          clear c12
          by_cases c13 : ((rd_T31 l0_0 x8_1).f0) ≤ ((rd_T31 l0_0 (ji10)).f0)
          ·rw [if_pos c13] at H
           have c13b0 : decide (((rd_T31 l0_0 x8_1).f0) ≤ ((rd_T31 l0_0 (ji10)).f0)) = true := decide_eq_true c13
           clear c13
           obtain rfl := Option.some.inj H
           have p326 : 0 ≤ (x8_1 : Int) := of_decide_eq_true (by first | (with_reducible assumption) | assumption)
           have q326 : x8_1 < (l0_0.length : Int) := of_decide_eq_true (by first | (with_reducible assumption) | assumption)
           obtain ⟨ad326, A326_3, c326_3, A326_4, c326_4, e326, hx326_0, hx326_1, hx326_2, hx326_3, hx326_4, hl326_3, hi326_3, hl326_4, hi326_4⟩ := at_T31 HR0_0.out x8_1 p326 q326
           cases e326
           replace hx326_0 := (HB.out.cell (World.block_lt_of_cell? w _ hx326_0)).trans hx326_0
           replace hx326_1 := (HB.out.cell (World.block_lt_of_cell? w _ hx326_1)).trans hx326_1
           replace hx326_2 := (HB.out.cell (World.block_lt_of_cell? w _ hx326_2)).trans hx326_2
           replace hx326_3 := (HB.out.cell (World.block_lt_of_cell? w _ hx326_3)).trans hx326_3
           replace hx326_4 := (HB.out.cell (World.block_lt_of_cell? w _ hx326_4)).trans hx326_4
           have HR326_3 := Aside0.mk hi326_3
           have HC326_3 := Aside0.mk hl326_3
           clear hi326_3 hl326_3
           have HR326_4 := Aside0.mk hi326_4
           have HC326_4 := Aside0.mk hl326_4
           clear hi326_4 hl326_4
           replace p326 := eq_true p326
           replace q326 := eq_true q326
           try go_wp2_with (first | ((with_reducible refine gate_dst (N := 4) rfl ?_); refine box_event ?hg (N := 4) ?hd (cs := #[.int .i64 0, .int .i64 0, .int .i64 0, .slice none 0 0, .slice none 0 0]) (t := 31) ?hr ?_; (case hd => rfl); (case hg => rfl); (case hr => first | (go_simp; done) | (go_simp; rfl)); intro gb327 hg w14 hbox hb; have n0_ := Aside0.mk (bb_ BK325 hb); have n1_ := Aside0.mk (below_step (by repeat (first | (with_reducible first | exact HB.out | apply below_alloc | apply pw_below_drewN | apply below_drew1 | refine below_set ?_ GE325.out) | exact HB.out)) hb); have n2_ := Aside0.mk (hbox); have n3_ := Aside0.mk ((by rw [hg]; exact (below_size (by repeat (first | (with_reducible first | exact HB.out | apply below_alloc | apply pw_below_drewN | apply below_drew1 | refine below_set ?_ GE325.out) | exact HB.out))) : w.heap.size ≤ gb327)); have n4_ := Aside0.mk ((by rw [hg]; exact (below_size (by repeat (first | (with_reducible first | exact HB.out | apply below_alloc | apply pw_below_drewN | apply below_drew1 | refine below_set ?_ GE325.out) | exact HB.out))) : w.heap.size ≤ gb327)); have n5_ := Aside0.mk ((by rw [hg]; exact Nat.ne_of_lt (bl_ BK325) : gb325 ≠ gb327)); have n6_ := Aside0.mk ((by rw [hg]; exact Nat.ne_of_gt (bl_ BK325) : gb327 ≠ gb325)); clear BK325; clear HB; have BK325 := n0_; have HB := n1_; have BK327 := n2_; have GW327 := n3_; have GE327 := n4_; have NB325_327 := n5_; have NB327_325 := n6_; clear n0_ n1_ n2_ n3_ n4_ n5_ n6_; clear hb hbox hg; have hnb15 := NB327_325.out; have hnc15 := NB325_327.out; have hcz16_0 : w14.cell? ⟨gb327, 0, none⟩ = some (.int .i64 0) := (blk_cell BK327.out 0).trans rfl; have hcz16_1 : w14.cell? ⟨gb327, 1, none⟩ = some (.int .i64 0) := (blk_cell BK327.out 1).trans rfl; have hcz16_2 : w14.cell? ⟨gb327, 2, none⟩ = some (.int .i64 0) := (blk_cell BK327.out 2).trans rfl; have hcz16_3 : w14.cell? ⟨gb327, 3, none⟩ = some (.slice none 0 0) := (blk_cell BK327.out 3).trans rfl; have hcz16_4 : w14.cell? ⟨gb327, 4, none⟩ = some (.slice none 0 0) := (blk_cell BK327.out 4).trans rfl; have hfz16_0 := blk_frozen BK327.out 0; have hfz16_1 := blk_frozen BK327.out 1; have hfz16_2 := blk_frozen BK327.out 2; have hfz16_3 := blk_frozen BK327.out 3; have hfz16_4 := blk_frozen BK327.out 4))
           have n0_ : Aside0 ((((((w14.setCell ⟨gb327, 0, none⟩ (.int .i64 ((rd_T31 l0_0 x8_1).f0))).setCell ⟨gb327, 1, none⟩ (.int .i64 ((rd_T31 l0_0 x8_1).f1))).setCell ⟨gb327, 2, none⟩ (.int .i64 ((rd_T31 l0_0 x8_1).f2))).setCell ⟨gb327, 3, none⟩ (.slice A326_3 ((rd_T31 l0_0 x8_1).f3).length c326_3)).setCell ⟨gb327, 4, none⟩ (.slice A326_4 ((rd_T31 l0_0 x8_1).f4).length c326_4)).heap[gb325]? = some (.cells #[.slice (some ad326) l0_0.length c0_0] 43 (0, 0))) := ⟨by (with_reducible repeat (first | refine blk_drewN ?_ _ | refine blk_drew ?_ | refine blk_alloc ?_ _)); refine blk_far ?_ NB325_327.out _; (with_reducible repeat (first | refine blk_drewN ?_ _ | refine blk_drew ?_ | refine blk_alloc ?_ _)); refine blk_far ?_ NB325_327.out _; (with_reducible repeat (first | refine blk_drewN ?_ _ | refine blk_drew ?_ | refine blk_alloc ?_ _)); refine blk_far ?_ NB325_327.out _; (with_reducible repeat (first | refine blk_drewN ?_ _ | refine blk_drew ?_ | refine blk_alloc ?_ _)); refine blk_far ?_ NB325_327.out _; (with_reducible repeat (first | refine blk_drewN ?_ _ | refine blk_drew ?_ | refine blk_alloc ?_ _)); refine blk_far ?_ NB325_327.out _; (with_reducible repeat (first | refine blk_drewN ?_ _ | refine blk_drew ?_ | refine blk_alloc ?_ _)); exact BK325.out⟩
           have n1_ : Aside0 ((((((w14.setCell ⟨gb327, 0, none⟩ (.int .i64 ((rd_T31 l0_0 x8_1).f0))).setCell ⟨gb327, 1, none⟩ (.int .i64 ((rd_T31 l0_0 x8_1).f1))).setCell ⟨gb327, 2, none⟩ (.int .i64 ((rd_T31 l0_0 x8_1).f2))).setCell ⟨gb327, 3, none⟩ (.slice A326_3 ((rd_T31 l0_0 x8_1).f3).length c326_3)).setCell ⟨gb327, 4, none⟩ (.slice A326_4 ((rd_T31 l0_0 x8_1).f4).length c326_4)).heap[gb327]? = some (.cells #[.int .i64 ((rd_T31 l0_0 x8_1).f0), .int .i64 ((rd_T31 l0_0 x8_1).f1), .int .i64 ((rd_T31 l0_0 x8_1).f2), .slice A326_3 ((rd_T31 l0_0 x8_1).f3).length c326_3, .slice A326_4 ((rd_T31 l0_0 x8_1).f4).length c326_4] 31 (0, 0))) := ⟨by (with_reducible repeat (first | refine blk_drewN ?_ _ | refine blk_drew ?_ | refine blk_alloc ?_ _)); refine blk_put (cs := #[.int .i64 ((rd_T31 l0_0 x8_1).f0), .int .i64 ((rd_T31 l0_0 x8_1).f1), .int .i64 ((rd_T31 l0_0 x8_1).f2), .slice A326_3 ((rd_T31 l0_0 x8_1).f3).length c326_3, .slice none 0 0]) ?_ 4 _ rfl; (with_reducible repeat (first | refine blk_drewN ?_ _ | refine blk_drew ?_ | refine blk_alloc ?_ _)); refine blk_put (cs := #[.int .i64 ((rd_T31 l0_0 x8_1).f0), .int .i64 ((rd_T31 l0_0 x8_1).f1), .int .i64 ((rd_T31 l0_0 x8_1).f2), .slice none 0 0, .slice none 0 0]) ?_ 3 _ rfl; (with_reducible repeat (first | refine blk_drewN ?_ _ | refine blk_drew ?_ | refine blk_alloc ?_ _)); refine blk_put (cs := #[.int .i64 ((rd_T31 l0_0 x8_1).f0), .int .i64 ((rd_T31 l0_0 x8_1).f1), .int .i64 0, .slice none 0 0, .slice none 0 0]) ?_ 2 _ rfl; (with_reducible repeat (first | refine blk_drewN ?_ _ | refine blk_drew ?_ | refine blk_alloc ?_ _)); refine blk_put (cs := #[.int .i64 ((rd_T31 l0_0 x8_1).f0), .int .i64 0, .int .i64 0, .slice none 0 0, .slice none 0 0]) ?_ 1 _ rfl; (with_reducible repeat (first | refine blk_drewN ?_ _ | refine blk_drew ?_ | refine blk_alloc ?_ _)); refine blk_put (cs := #[.int .i64 0, .int .i64 0, .int .i64 0, .slice none 0 0, .slice none 0 0]) ?_ 0 _ rfl; (with_reducible repeat (first | refine blk_drewN ?_ _ | refine blk_drew ?_ | refine blk_alloc ?_ _)); exact BK327.out⟩
           have n2_ : Aside0 (Below w.heap.size w (((((w14.setCell ⟨gb327, 0, none⟩ (.int .i64 ((rd_T31 l0_0 x8_1).f0))).setCell ⟨gb327, 1, none⟩ (.int .i64 ((rd_T31 l0_0 x8_1).f1))).setCell ⟨gb327, 2, none⟩ (.int .i64 ((rd_T31 l0_0 x8_1).f2))).setCell ⟨gb327, 3, none⟩ (.slice A326_3 ((rd_T31 l0_0 x8_1).f3).length c326_3)).setCell ⟨gb327, 4, none⟩ (.slice A326_4 ((rd_T31 l0_0 x8_1).f4).length c326_4))) := ⟨by repeat (first | (with_reducible first | exact HB.out | apply below_alloc | apply pw_below_drewN | apply below_drew1 | refine below_set ?_ GE325.out | refine below_set ?_ GE327.out) | exact HB.out)⟩
           (try clear BK325)
           (try clear BK327)
           (try clear HB)
           generalize (((((w14.setCell ⟨gb327, 0, none⟩ (.int .i64 ((rd_T31 l0_0 x8_1).f0))).setCell ⟨gb327, 1, none⟩ (.int .i64 ((rd_T31 l0_0 x8_1).f1))).setCell ⟨gb327, 2, none⟩ (.int .i64 ((rd_T31 l0_0 x8_1).f2))).setCell ⟨gb327, 3, none⟩ (.slice A326_3 ((rd_T31 l0_0 x8_1).f3).length c326_3)).setCell ⟨gb327, 4, none⟩ (.slice A326_4 ((rd_T31 l0_0 x8_1).f4).length c326_4)) = w17 at n0_ n1_ n2_ ⊢
           have BK325 := n0_
           have BK327 := n1_
           have HB := n2_
           clear n0_ n1_ n2_
           have n0_ := Aside0.mk (blk_drew BK325.out)
           have n1_ := Aside0.mk (blk_drew BK327.out)
           have n2_ := Aside0.mk (below_drew1 HB.out)
           clear BK325
           clear BK327
           clear HB
           have BK325 := n0_
           have BK327 := n1_
           have HB := n2_
           clear n0_ n1_ n2_
           have p329 : 0 ≤ ((ji10) : Int) := of_decide_eq_true (by first | (with_reducible assumption) | assumption)
           have q329 : (ji10) < (l0_0.length : Int) := of_decide_eq_true (by first | (with_reducible assumption) | assumption)
           obtain ⟨ad329, A329_3, c329_3, A329_4, c329_4, e329, hx329_0, hx329_1, hx329_2, hx329_3, hx329_4, hl329_3, hi329_3, hl329_4, hi329_4⟩ := at_T31 HR0_0.out (ji10) p329 q329
           have hw329_4 := hx329_4
           have hw329_3 := hx329_3
           have hw329_2 := hx329_2
           have hw329_1 := hx329_1
           have hw329_0 := hx329_0
           obtain rfl : ad326 = ad329 := (by injection e329)
           replace hx329_0 := (HB.out.cell (World.block_lt_of_cell? w _ hx329_0)).trans hx329_0
           replace hx329_1 := (HB.out.cell (World.block_lt_of_cell? w _ hx329_1)).trans hx329_1
           replace hx329_2 := (HB.out.cell (World.block_lt_of_cell? w _ hx329_2)).trans hx329_2
           replace hx329_3 := (HB.out.cell (World.block_lt_of_cell? w _ hx329_3)).trans hx329_3
           replace hx329_4 := (HB.out.cell (World.block_lt_of_cell? w _ hx329_4)).trans hx329_4
           have HR329_3 := Aside0.mk hi329_3
           have HC329_3 := Aside0.mk hl329_3
           clear hi329_3 hl329_3
           have HR329_4 := Aside0.mk hi329_4
           have HC329_4 := Aside0.mk hl329_4
           clear hi329_4 hl329_4
           replace p329 := eq_true p329
           replace q329 := eq_true q329
           refine start_ (n := 19) (S := fun w' => w'.cell? ⟨gb327, 0, none⟩ = some (.int .i64 ((rd_T31 l0_0 x8_1).f0)) ∧ w'.cell? ⟨gb327, 1, none⟩ = some (.int .i64 ((rd_T31 l0_0 x8_1).f1)) ∧ w'.cell? ⟨gb327, 2, none⟩ = some (.int .i64 ((rd_T31 l0_0 x8_1).f2)) ∧ w'.cell? ⟨gb327, 3, none⟩ = some (.slice A326_3 ((rd_T31 l0_0 x8_1).f3).length c326_3) ∧ w'.cell? ⟨gb327, 4, none⟩ = some (.slice A326_4 ((rd_T31 l0_0 x8_1).f4).length c326_4) ∧ w'.cell? ⟨gb325, 0, none⟩ = some (.slice (some ad326) l0_0.length c0_0) ∧ w'.cell? (ad326.add (((ji10)).toNat * 5)) = some (.int .i64 ((rd_T31 l0_0 (ji10)).f0)) ∧ w'.cell? ⟨(ad326.add (((ji10)).toNat * 5)).block, (ad326.add (((ji10)).toNat * 5)).off + 1, none⟩ = some (.int .i64 ((rd_T31 l0_0 (ji10)).f1)) ∧ w'.cell? ⟨(ad326.add (((ji10)).toNat * 5)).block, (ad326.add (((ji10)).toNat * 5)).off + 2, none⟩ = some (.int .i64 ((rd_T31 l0_0 (ji10)).f2)) ∧ w'.cell? ⟨(ad326.add (((ji10)).toNat * 5)).block, (ad326.add (((ji10)).toNat * 5)).off + 3, none⟩ = some (.slice A329_3 ((rd_T31 l0_0 (ji10)).f3).length c329_3) ∧ w'.cell? ⟨(ad326.add (((ji10)).toNat * 5)).block, (ad326.add (((ji10)).toNat * 5)).off + 4, none⟩ = some (.slice A329_4 ((rd_T31 l0_0 (ji10)).f4).length c329_4)) (ds := []) ba13_0 (by kernel_rfl) rfl rfl ⟨(blk_cell BK327.out 0).trans rfl, (blk_cell BK327.out 1).trans rfl, (blk_cell BK327.out 2).trans rfl, (blk_cell BK327.out 3).trans rfl, (blk_cell BK327.out 4).trans rfl, (blk_cell BK325.out 0).trans rfl, (hc_ HB hw329_0), (hc_ HB hw329_1), (hc_ HB hw329_2), (hc_ HB hw329_3), (hc_ HB hw329_4)⟩ (fun hHeld => ?_); refine with_tabW impl_DbOk.tab4 impl_DbOk.bits4 (fun HT_ HW_ => ?_)
           generalize w17.drew = w18 at BK325 BK327 HB HR329_3 HR329_4 hx329_0 hx329_1 hx329_2 hx329_3 hx329_4 hHeld ⊢
           refine pt_ 0 13 ba13_1 HT_ HW_ hHeld ?_
           refine one_ (i := 1) (N := some 14) ba13_2 rfl rfl (one_of HT_.out (by kernel_rfl)) (by decide) (fun K hK => ?_)
           refine gz_ Try.func16 #[.agg #[.int .i64 ((rd_T31 l0_0 x8_1).f0), .int .i64 ((rd_T31 l0_0 x8_1).f1), .int .i64 ((rd_T31 l0_0 x8_1).f2), .slice A326_3 ((rd_T31 l0_0 x8_1).f3).length c326_3, .slice A326_4 ((rd_T31 l0_0 x8_1).f4).length c326_4]] ?_
           with_reducible refine (impl_LsaOk.calls k1 ((rd_T31 l0_0 x8_1).f0) ((rd_T31 l0_0 x8_1).f1) ((rd_T31 l0_0 x8_1).f2) _ _ ((rd_T31 l0_0 x8_1).f3) _ _ ((rd_T31 l0_0 x8_1).f4) true _ ?side1 ?side2 ?side3 ?side4 A7.out).mono ?_
           (case side1 => repeat (first | exact (Kd.C_below HR326_3.out HB.out) | (with_reducible refine Kd.C_alloc ?_ _) | (with_reducible refine Kd.C_drewN ?_ _) | (with_reducible refine Kd.C_drew ?_)))
           (case side2 => exact HC326_3.out)
           (case side3 => repeat (first | exact (Kd.C_below HR326_4.out HB.out) | (with_reducible refine Kd.C_alloc ?_ _) | (with_reducible refine Kd.C_drewN ?_ _) | (with_reducible refine Kd.C_drew ?_)))
           (case side4 => exact HC326_4.out)
           rintro e w19 ⟨rfl, hb⟩
           refine ⟨_, rfl, ?_⟩
           have n0_ := Aside0.mk (bb_ BK325 hb)
           have n1_ := Aside0.mk (bb_ BK327 hb)
           have n2_ := Aside0.mk (below_step (by repeat (first | (with_reducible first | exact HB.out | apply below_alloc | apply pw_below_drewN | apply below_drew1 | refine below_set ?_ GE325.out | refine below_set ?_ GE327.out) | exact HB.out)) hb)
           clear BK325
           clear BK327
           clear HB
           have BK325 := n0_
           have BK327 := n1_
           have HB := n2_
           clear n0_ n1_ n2_
           (try clear hb)
           (try clear hb2)
           (try clear hk)
           (try clear hi)
           refine hK.out _ _ ⟨(blk_cell BK327.out 0).trans rfl, (blk_cell BK327.out 1).trans rfl, (blk_cell BK327.out 2).trans rfl, (blk_cell BK327.out 3).trans rfl, (blk_cell BK327.out 4).trans rfl, (blk_cell BK325.out 0).trans rfl, (hc_ HB hw329_0), (hc_ HB hw329_1), (hc_ HB hw329_2), (hc_ HB hw329_3), (hc_ HB hw329_4)⟩ (fun hHeld => ?_)
           clear hK K
           refine nz_ 14 ?_
           refine pz_ 2 15 ba13_3 HT_ ?_
           refine pz_ 3 16 ba13_4 HT_ ?_
           refine pz_ 4 17 ba13_5 HT_ ?_
           refine pz_ 5 18 ba13_6 HT_ ?_
           refine pz_ 6 19 ba13_7 HT_ ?_
           refine pz_ 7 20 ba13_8 HT_ ?_
           refine pz_ 9 22 ba13_9 HT_ ?_
           refine pz_ 11 24 ba13_10 HT_ ?_
           refine pz_ 12 25 ba13_11 HT_ ?_
           refine pt_ 8 21 ba13_12 HT_ HW_ hHeld ?_
           refine pt_ 10 23 ba13_13 HT_ HW_ hHeld ?_
           refine pz_ 13 26 ba13_14 HT_ ?_
           refine pz_ 14 27 ba13_15 HT_ ?_
           refine pt_ 15 28 ba13_16 HT_ HW_ hHeld ?_
           refine pz_ 16 29 ba13_17 HT_ ?_
           refine pz_ 17 30 ba13_18 HT_ ?_
           refine pz_ 18 31 ba13_19 HT_ ?_
           refine done_ (done_of HT_.out (by kernel_rfl)) ?_
           try go_wp2
           go_ret
           exact ⟨by first | rfl | (simp [errW_none, errW_some] <;> rfl) | (simp only [← hji10]; first | rfl | (simp [errW_none, errW_some] <;> rfl)) | (simp [*, errW_none, errW_some] <;> rfl), by repeat (first | (with_reducible first | exact HB.out | apply below_alloc | apply pw_below_drewN | apply below_drew1 | refine below_set ?_ GE325.out | refine below_set ?_ GE327.out) | exact HB.out)⟩
          ·rw [if_neg c13] at H
           have c13b0 : decide (((rd_T31 l0_0 x8_1).f0) ≤ ((rd_T31 l0_0 (ji10)).f0)) = false := decide_eq_false c13
           clear c13
           have H' := Aside0.mk H
           clear H
           have p326 : 0 ≤ (x8_1 : Int) := of_decide_eq_true (by first | (with_reducible assumption) | assumption)
           have q326 : x8_1 < (l0_0.length : Int) := of_decide_eq_true (by first | (with_reducible assumption) | assumption)
           obtain ⟨ad326, A326_3, c326_3, A326_4, c326_4, e326, hx326_0, hx326_1, hx326_2, hx326_3, hx326_4, hl326_3, hi326_3, hl326_4, hi326_4⟩ := at_T31 HR0_0.out x8_1 p326 q326
           cases e326
           replace hx326_0 := (HB.out.cell (World.block_lt_of_cell? w _ hx326_0)).trans hx326_0
           replace hx326_1 := (HB.out.cell (World.block_lt_of_cell? w _ hx326_1)).trans hx326_1
           replace hx326_2 := (HB.out.cell (World.block_lt_of_cell? w _ hx326_2)).trans hx326_2
           replace hx326_3 := (HB.out.cell (World.block_lt_of_cell? w _ hx326_3)).trans hx326_3
           replace hx326_4 := (HB.out.cell (World.block_lt_of_cell? w _ hx326_4)).trans hx326_4
           have HR326_3 := Aside0.mk hi326_3
           have HC326_3 := Aside0.mk hl326_3
           clear hi326_3 hl326_3
           have HR326_4 := Aside0.mk hi326_4
           have HC326_4 := Aside0.mk hl326_4
           clear hi326_4 hl326_4
           replace p326 := eq_true p326
           replace q326 := eq_true q326
           try go_wp2_with (first | ((with_reducible refine gate_dst (N := 4) rfl ?_); refine box_event ?hg (N := 4) ?hd (cs := #[.int .i64 0, .int .i64 0, .int .i64 0, .slice none 0 0, .slice none 0 0]) (t := 31) ?hr ?_; (case hd => rfl); (case hg => rfl); (case hr => first | (go_simp; done) | (go_simp; rfl)); intro gb327 hg w20 hbox hb; have n0_ := Aside0.mk (bb_ BK325 hb); have n1_ := Aside0.mk (below_step (by repeat (first | (with_reducible first | exact HB.out | apply below_alloc | apply pw_below_drewN | apply below_drew1 | refine below_set ?_ GE325.out) | exact HB.out)) hb); have n2_ := Aside0.mk (hbox); have n3_ := Aside0.mk ((by rw [hg]; exact (below_size (by repeat (first | (with_reducible first | exact HB.out | apply below_alloc | apply pw_below_drewN | apply below_drew1 | refine below_set ?_ GE325.out) | exact HB.out))) : w.heap.size ≤ gb327)); have n4_ := Aside0.mk ((by rw [hg]; exact (below_size (by repeat (first | (with_reducible first | exact HB.out | apply below_alloc | apply pw_below_drewN | apply below_drew1 | refine below_set ?_ GE325.out) | exact HB.out))) : w.heap.size ≤ gb327)); have n5_ := Aside0.mk ((by rw [hg]; exact Nat.ne_of_lt (bl_ BK325) : gb325 ≠ gb327)); have n6_ := Aside0.mk ((by rw [hg]; exact Nat.ne_of_gt (bl_ BK325) : gb327 ≠ gb325)); clear BK325; clear HB; have BK325 := n0_; have HB := n1_; have BK327 := n2_; have GW327 := n3_; have GE327 := n4_; have NB325_327 := n5_; have NB327_325 := n6_; clear n0_ n1_ n2_ n3_ n4_ n5_ n6_; clear hb hbox hg; have hnb21 := NB327_325.out; have hnc21 := NB325_327.out; have hcz22_0 : w20.cell? ⟨gb327, 0, none⟩ = some (.int .i64 0) := (blk_cell BK327.out 0).trans rfl; have hcz22_1 : w20.cell? ⟨gb327, 1, none⟩ = some (.int .i64 0) := (blk_cell BK327.out 1).trans rfl; have hcz22_2 : w20.cell? ⟨gb327, 2, none⟩ = some (.int .i64 0) := (blk_cell BK327.out 2).trans rfl; have hcz22_3 : w20.cell? ⟨gb327, 3, none⟩ = some (.slice none 0 0) := (blk_cell BK327.out 3).trans rfl; have hcz22_4 : w20.cell? ⟨gb327, 4, none⟩ = some (.slice none 0 0) := (blk_cell BK327.out 4).trans rfl; have hfz22_0 := blk_frozen BK327.out 0; have hfz22_1 := blk_frozen BK327.out 1; have hfz22_2 := blk_frozen BK327.out 2; have hfz22_3 := blk_frozen BK327.out 3; have hfz22_4 := blk_frozen BK327.out 4))
           have n0_ : Aside0 ((((((w20.setCell ⟨gb327, 0, none⟩ (.int .i64 ((rd_T31 l0_0 x8_1).f0))).setCell ⟨gb327, 1, none⟩ (.int .i64 ((rd_T31 l0_0 x8_1).f1))).setCell ⟨gb327, 2, none⟩ (.int .i64 ((rd_T31 l0_0 x8_1).f2))).setCell ⟨gb327, 3, none⟩ (.slice A326_3 ((rd_T31 l0_0 x8_1).f3).length c326_3)).setCell ⟨gb327, 4, none⟩ (.slice A326_4 ((rd_T31 l0_0 x8_1).f4).length c326_4)).heap[gb325]? = some (.cells #[.slice (some ad326) l0_0.length c0_0] 43 (0, 0))) := ⟨by (with_reducible repeat (first | refine blk_drewN ?_ _ | refine blk_drew ?_ | refine blk_alloc ?_ _)); refine blk_far ?_ NB325_327.out _; (with_reducible repeat (first | refine blk_drewN ?_ _ | refine blk_drew ?_ | refine blk_alloc ?_ _)); refine blk_far ?_ NB325_327.out _; (with_reducible repeat (first | refine blk_drewN ?_ _ | refine blk_drew ?_ | refine blk_alloc ?_ _)); refine blk_far ?_ NB325_327.out _; (with_reducible repeat (first | refine blk_drewN ?_ _ | refine blk_drew ?_ | refine blk_alloc ?_ _)); refine blk_far ?_ NB325_327.out _; (with_reducible repeat (first | refine blk_drewN ?_ _ | refine blk_drew ?_ | refine blk_alloc ?_ _)); refine blk_far ?_ NB325_327.out _; (with_reducible repeat (first | refine blk_drewN ?_ _ | refine blk_drew ?_ | refine blk_alloc ?_ _)); exact BK325.out⟩
           have n1_ : Aside0 ((((((w20.setCell ⟨gb327, 0, none⟩ (.int .i64 ((rd_T31 l0_0 x8_1).f0))).setCell ⟨gb327, 1, none⟩ (.int .i64 ((rd_T31 l0_0 x8_1).f1))).setCell ⟨gb327, 2, none⟩ (.int .i64 ((rd_T31 l0_0 x8_1).f2))).setCell ⟨gb327, 3, none⟩ (.slice A326_3 ((rd_T31 l0_0 x8_1).f3).length c326_3)).setCell ⟨gb327, 4, none⟩ (.slice A326_4 ((rd_T31 l0_0 x8_1).f4).length c326_4)).heap[gb327]? = some (.cells #[.int .i64 ((rd_T31 l0_0 x8_1).f0), .int .i64 ((rd_T31 l0_0 x8_1).f1), .int .i64 ((rd_T31 l0_0 x8_1).f2), .slice A326_3 ((rd_T31 l0_0 x8_1).f3).length c326_3, .slice A326_4 ((rd_T31 l0_0 x8_1).f4).length c326_4] 31 (0, 0))) := ⟨by (with_reducible repeat (first | refine blk_drewN ?_ _ | refine blk_drew ?_ | refine blk_alloc ?_ _)); refine blk_put (cs := #[.int .i64 ((rd_T31 l0_0 x8_1).f0), .int .i64 ((rd_T31 l0_0 x8_1).f1), .int .i64 ((rd_T31 l0_0 x8_1).f2), .slice A326_3 ((rd_T31 l0_0 x8_1).f3).length c326_3, .slice none 0 0]) ?_ 4 _ rfl; (with_reducible repeat (first | refine blk_drewN ?_ _ | refine blk_drew ?_ | refine blk_alloc ?_ _)); refine blk_put (cs := #[.int .i64 ((rd_T31 l0_0 x8_1).f0), .int .i64 ((rd_T31 l0_0 x8_1).f1), .int .i64 ((rd_T31 l0_0 x8_1).f2), .slice none 0 0, .slice none 0 0]) ?_ 3 _ rfl; (with_reducible repeat (first | refine blk_drewN ?_ _ | refine blk_drew ?_ | refine blk_alloc ?_ _)); refine blk_put (cs := #[.int .i64 ((rd_T31 l0_0 x8_1).f0), .int .i64 ((rd_T31 l0_0 x8_1).f1), .int .i64 0, .slice none 0 0, .slice none 0 0]) ?_ 2 _ rfl; (with_reducible repeat (first | refine blk_drewN ?_ _ | refine blk_drew ?_ | refine blk_alloc ?_ _)); refine blk_put (cs := #[.int .i64 ((rd_T31 l0_0 x8_1).f0), .int .i64 0, .int .i64 0, .slice none 0 0, .slice none 0 0]) ?_ 1 _ rfl; (with_reducible repeat (first | refine blk_drewN ?_ _ | refine blk_drew ?_ | refine blk_alloc ?_ _)); refine blk_put (cs := #[.int .i64 0, .int .i64 0, .int .i64 0, .slice none 0 0, .slice none 0 0]) ?_ 0 _ rfl; (with_reducible repeat (first | refine blk_drewN ?_ _ | refine blk_drew ?_ | refine blk_alloc ?_ _)); exact BK327.out⟩
           have n2_ : Aside0 (Below w.heap.size w (((((w20.setCell ⟨gb327, 0, none⟩ (.int .i64 ((rd_T31 l0_0 x8_1).f0))).setCell ⟨gb327, 1, none⟩ (.int .i64 ((rd_T31 l0_0 x8_1).f1))).setCell ⟨gb327, 2, none⟩ (.int .i64 ((rd_T31 l0_0 x8_1).f2))).setCell ⟨gb327, 3, none⟩ (.slice A326_3 ((rd_T31 l0_0 x8_1).f3).length c326_3)).setCell ⟨gb327, 4, none⟩ (.slice A326_4 ((rd_T31 l0_0 x8_1).f4).length c326_4))) := ⟨by repeat (first | (with_reducible first | exact HB.out | apply below_alloc | apply pw_below_drewN | apply below_drew1 | refine below_set ?_ GE325.out | refine below_set ?_ GE327.out) | exact HB.out)⟩
           (try clear BK325)
           (try clear BK327)
           (try clear HB)
           generalize (((((w20.setCell ⟨gb327, 0, none⟩ (.int .i64 ((rd_T31 l0_0 x8_1).f0))).setCell ⟨gb327, 1, none⟩ (.int .i64 ((rd_T31 l0_0 x8_1).f1))).setCell ⟨gb327, 2, none⟩ (.int .i64 ((rd_T31 l0_0 x8_1).f2))).setCell ⟨gb327, 3, none⟩ (.slice A326_3 ((rd_T31 l0_0 x8_1).f3).length c326_3)).setCell ⟨gb327, 4, none⟩ (.slice A326_4 ((rd_T31 l0_0 x8_1).f4).length c326_4)) = w23 at n0_ n1_ n2_ ⊢
           have BK325 := n0_
           have BK327 := n1_
           have HB := n2_
           clear n0_ n1_ n2_
           have n0_ := Aside0.mk (blk_drew BK325.out)
           have n1_ := Aside0.mk (blk_drew BK327.out)
           have n2_ := Aside0.mk (below_drew1 HB.out)
           clear BK325
           clear BK327
           clear HB
           have BK325 := n0_
           have BK327 := n1_
           have HB := n2_
           clear n0_ n1_ n2_
           have p329 : 0 ≤ ((ji10) : Int) := of_decide_eq_true (by first | (with_reducible assumption) | assumption)
           have q329 : (ji10) < (l0_0.length : Int) := of_decide_eq_true (by first | (with_reducible assumption) | assumption)
           obtain ⟨ad329, A329_3, c329_3, A329_4, c329_4, e329, hx329_0, hx329_1, hx329_2, hx329_3, hx329_4, hl329_3, hi329_3, hl329_4, hi329_4⟩ := at_T31 HR0_0.out (ji10) p329 q329
           have hw329_4 := hx329_4
           have hw329_3 := hx329_3
           have hw329_2 := hx329_2
           have hw329_1 := hx329_1
           have hw329_0 := hx329_0
           obtain rfl : ad326 = ad329 := (by injection e329)
           replace hx329_0 := (HB.out.cell (World.block_lt_of_cell? w _ hx329_0)).trans hx329_0
           replace hx329_1 := (HB.out.cell (World.block_lt_of_cell? w _ hx329_1)).trans hx329_1
           replace hx329_2 := (HB.out.cell (World.block_lt_of_cell? w _ hx329_2)).trans hx329_2
           replace hx329_3 := (HB.out.cell (World.block_lt_of_cell? w _ hx329_3)).trans hx329_3
           replace hx329_4 := (HB.out.cell (World.block_lt_of_cell? w _ hx329_4)).trans hx329_4
           have HR329_3 := Aside0.mk hi329_3
           have HC329_3 := Aside0.mk hl329_3
           clear hi329_3 hl329_3
           have HR329_4 := Aside0.mk hi329_4
           have HC329_4 := Aside0.mk hl329_4
           clear hi329_4 hl329_4
           replace p329 := eq_true p329
           replace q329 := eq_true q329
           refine start_ (n := 19) (S := fun w' => w'.cell? ⟨gb327, 0, none⟩ = some (.int .i64 ((rd_T31 l0_0 x8_1).f0)) ∧ w'.cell? ⟨gb327, 1, none⟩ = some (.int .i64 ((rd_T31 l0_0 x8_1).f1)) ∧ w'.cell? ⟨gb327, 2, none⟩ = some (.int .i64 ((rd_T31 l0_0 x8_1).f2)) ∧ w'.cell? ⟨gb327, 3, none⟩ = some (.slice A326_3 ((rd_T31 l0_0 x8_1).f3).length c326_3) ∧ w'.cell? ⟨gb327, 4, none⟩ = some (.slice A326_4 ((rd_T31 l0_0 x8_1).f4).length c326_4) ∧ w'.cell? ⟨gb325, 0, none⟩ = some (.slice (some ad326) l0_0.length c0_0) ∧ w'.cell? (ad326.add (((ji10)).toNat * 5)) = some (.int .i64 ((rd_T31 l0_0 (ji10)).f0)) ∧ w'.cell? ⟨(ad326.add (((ji10)).toNat * 5)).block, (ad326.add (((ji10)).toNat * 5)).off + 1, none⟩ = some (.int .i64 ((rd_T31 l0_0 (ji10)).f1)) ∧ w'.cell? ⟨(ad326.add (((ji10)).toNat * 5)).block, (ad326.add (((ji10)).toNat * 5)).off + 2, none⟩ = some (.int .i64 ((rd_T31 l0_0 (ji10)).f2)) ∧ w'.cell? ⟨(ad326.add (((ji10)).toNat * 5)).block, (ad326.add (((ji10)).toNat * 5)).off + 3, none⟩ = some (.slice A329_3 ((rd_T31 l0_0 (ji10)).f3).length c329_3) ∧ w'.cell? ⟨(ad326.add (((ji10)).toNat * 5)).block, (ad326.add (((ji10)).toNat * 5)).off + 4, none⟩ = some (.slice A329_4 ((rd_T31 l0_0 (ji10)).f4).length c329_4)) (ds := []) ba13_0 (by kernel_rfl) rfl rfl ⟨(blk_cell BK327.out 0).trans rfl, (blk_cell BK327.out 1).trans rfl, (blk_cell BK327.out 2).trans rfl, (blk_cell BK327.out 3).trans rfl, (blk_cell BK327.out 4).trans rfl, (blk_cell BK325.out 0).trans rfl, (hc_ HB hw329_0), (hc_ HB hw329_1), (hc_ HB hw329_2), (hc_ HB hw329_3), (hc_ HB hw329_4)⟩ (fun hHeld => ?_); refine with_tabW impl_DbOk.tab4 impl_DbOk.bits4 (fun HT_ HW_ => ?_)
           generalize w23.drew = w24 at BK325 BK327 HB HR329_3 HR329_4 hx329_0 hx329_1 hx329_2 hx329_3 hx329_4 hHeld ⊢
           refine pt_ 0 13 ba13_1 HT_ HW_ hHeld ?_
           refine one_ (i := 1) (N := some 14) ba13_2 rfl rfl (one_of HT_.out (by kernel_rfl)) (by decide) (fun K hK => ?_)
           refine gz_ Try.func16 #[.agg #[.int .i64 ((rd_T31 l0_0 x8_1).f0), .int .i64 ((rd_T31 l0_0 x8_1).f1), .int .i64 ((rd_T31 l0_0 x8_1).f2), .slice A326_3 ((rd_T31 l0_0 x8_1).f3).length c326_3, .slice A326_4 ((rd_T31 l0_0 x8_1).f4).length c326_4]] ?_
           with_reducible refine (impl_LsaOk.calls k1 ((rd_T31 l0_0 x8_1).f0) ((rd_T31 l0_0 x8_1).f1) ((rd_T31 l0_0 x8_1).f2) _ _ ((rd_T31 l0_0 x8_1).f3) _ _ ((rd_T31 l0_0 x8_1).f4) true _ ?side1 ?side2 ?side3 ?side4 A7.out).mono ?_
           (case side1 => repeat (first | exact (Kd.C_below HR326_3.out HB.out) | (with_reducible refine Kd.C_alloc ?_ _) | (with_reducible refine Kd.C_drewN ?_ _) | (with_reducible refine Kd.C_drew ?_)))
           (case side2 => exact HC326_3.out)
           (case side3 => repeat (first | exact (Kd.C_below HR326_4.out HB.out) | (with_reducible refine Kd.C_alloc ?_ _) | (with_reducible refine Kd.C_drewN ?_ _) | (with_reducible refine Kd.C_drew ?_)))
           (case side4 => exact HC326_4.out)
           rintro e w25 ⟨rfl, hb⟩
           refine ⟨_, rfl, ?_⟩
           have n0_ := Aside0.mk (bb_ BK325 hb)
           have n1_ := Aside0.mk (bb_ BK327 hb)
           have n2_ := Aside0.mk (below_step (by repeat (first | (with_reducible first | exact HB.out | apply below_alloc | apply pw_below_drewN | apply below_drew1 | refine below_set ?_ GE325.out | refine below_set ?_ GE327.out) | exact HB.out)) hb)
           clear BK325
           clear BK327
           clear HB
           have BK325 := n0_
           have BK327 := n1_
           have HB := n2_
           clear n0_ n1_ n2_
           (try clear hb)
           (try clear hb2)
           (try clear hk)
           (try clear hi)
           refine hK.out _ _ ⟨(blk_cell BK327.out 0).trans rfl, (blk_cell BK327.out 1).trans rfl, (blk_cell BK327.out 2).trans rfl, (blk_cell BK327.out 3).trans rfl, (blk_cell BK327.out 4).trans rfl, (blk_cell BK325.out 0).trans rfl, (hc_ HB hw329_0), (hc_ HB hw329_1), (hc_ HB hw329_2), (hc_ HB hw329_3), (hc_ HB hw329_4)⟩ (fun hHeld => ?_)
           clear hK K
           refine nz_ 14 ?_
           refine pz_ 2 15 ba13_3 HT_ ?_
           refine pz_ 3 16 ba13_4 HT_ ?_
           refine pz_ 4 17 ba13_5 HT_ ?_
           refine pz_ 5 18 ba13_6 HT_ ?_
           refine pz_ 6 19 ba13_7 HT_ ?_
           refine pz_ 7 20 ba13_8 HT_ ?_
           refine pz_ 9 22 ba13_9 HT_ ?_
           refine pz_ 11 24 ba13_10 HT_ ?_
           refine pz_ 12 25 ba13_11 HT_ ?_
           refine pt_ 8 21 ba13_12 HT_ HW_ hHeld ?_
           refine pt_ 10 23 ba13_13 HT_ HW_ hHeld ?_
           refine pz_ 13 26 ba13_14 HT_ ?_
           refine pz_ 14 27 ba13_15 HT_ ?_
           refine pt_ 15 28 ba13_16 HT_ HW_ hHeld ?_
           refine pz_ 16 29 ba13_17 HT_ ?_
           refine pz_ 17 30 ba13_18 HT_ ?_
           refine pz_ 18 31 ba13_19 HT_ ?_
           refine done_ (done_of HT_.out (by kernel_rfl)) ?_
           try go_wp2
           go_roundg k1
           case measure => have := HK1.out; omega
           case rel => exact ⟨(wrap64 (x8_1 + 1)), (by first | rfl | (simp; done) | (simp [*]; done)), H', ⟨by have := HK1.out; omega⟩, ⟨by (with_reducible repeat (first | refine blk_drewN ?_ _ | refine blk_drew ?_ | refine blk_alloc ?_ _)); exact BK325.out⟩, ⟨by repeat (first | (with_reducible first | exact HB.out | apply below_alloc | apply pw_below_drewN | apply below_drew1 | refine below_set ?_ GE325.out | refine below_set ?_ GE327.out) | exact HB.out)⟩⟩
         ·rw [if_neg c12] at H
          exact absurd H (by simp)
        ·rw [if_neg c11] at H
         exact absurd H (by simp)
       ·rw [if_neg c9] at H
        have c9b0 : decide (0 < x8_1) = false := decide_eq_false c9
        clear c9
        have H' := Aside0.mk H
        clear H
        have p326 : 0 ≤ (x8_1 : Int) := of_decide_eq_true (by first | (with_reducible assumption) | assumption)
        have q326 : x8_1 < (l0_0.length : Int) := of_decide_eq_true (by first | (with_reducible assumption) | assumption)
        obtain ⟨ad326, A326_3, c326_3, A326_4, c326_4, e326, hx326_0, hx326_1, hx326_2, hx326_3, hx326_4, hl326_3, hi326_3, hl326_4, hi326_4⟩ := at_T31 HR0_0.out x8_1 p326 q326
        cases e326
        replace hx326_0 := (HB.out.cell (World.block_lt_of_cell? w _ hx326_0)).trans hx326_0
        replace hx326_1 := (HB.out.cell (World.block_lt_of_cell? w _ hx326_1)).trans hx326_1
        replace hx326_2 := (HB.out.cell (World.block_lt_of_cell? w _ hx326_2)).trans hx326_2
        replace hx326_3 := (HB.out.cell (World.block_lt_of_cell? w _ hx326_3)).trans hx326_3
        replace hx326_4 := (HB.out.cell (World.block_lt_of_cell? w _ hx326_4)).trans hx326_4
        have HR326_3 := Aside0.mk hi326_3
        have HC326_3 := Aside0.mk hl326_3
        clear hi326_3 hl326_3
        have HR326_4 := Aside0.mk hi326_4
        have HC326_4 := Aside0.mk hl326_4
        clear hi326_4 hl326_4
        replace p326 := eq_true p326
        replace q326 := eq_true q326
        try go_wp2_with (first | ((with_reducible refine gate_dst (N := 4) rfl ?_); refine box_event ?hg (N := 4) ?hd (cs := #[.int .i64 0, .int .i64 0, .int .i64 0, .slice none 0 0, .slice none 0 0]) (t := 31) ?hr ?_; (case hd => rfl); (case hg => rfl); (case hr => first | (go_simp; done) | (go_simp; rfl)); intro gb327 hg w26 hbox hb; have n0_ := Aside0.mk (bb_ BK325 hb); have n1_ := Aside0.mk (below_step (by repeat (first | (with_reducible first | exact HB.out | apply below_alloc | apply pw_below_drewN | apply below_drew1 | refine below_set ?_ GE325.out) | exact HB.out)) hb); have n2_ := Aside0.mk (hbox); have n3_ := Aside0.mk ((by rw [hg]; exact (below_size (by repeat (first | (with_reducible first | exact HB.out | apply below_alloc | apply pw_below_drewN | apply below_drew1 | refine below_set ?_ GE325.out) | exact HB.out))) : w.heap.size ≤ gb327)); have n4_ := Aside0.mk ((by rw [hg]; exact (below_size (by repeat (first | (with_reducible first | exact HB.out | apply below_alloc | apply pw_below_drewN | apply below_drew1 | refine below_set ?_ GE325.out) | exact HB.out))) : w.heap.size ≤ gb327)); have n5_ := Aside0.mk ((by rw [hg]; exact Nat.ne_of_lt (bl_ BK325) : gb325 ≠ gb327)); have n6_ := Aside0.mk ((by rw [hg]; exact Nat.ne_of_gt (bl_ BK325) : gb327 ≠ gb325)); clear BK325; clear HB; have BK325 := n0_; have HB := n1_; have BK327 := n2_; have GW327 := n3_; have GE327 := n4_; have NB325_327 := n5_; have NB327_325 := n6_; clear n0_ n1_ n2_ n3_ n4_ n5_ n6_; clear hb hbox hg; have hnb27 := NB327_325.out; have hnc27 := NB325_327.out; have hcz28_0 : w26.cell? ⟨gb327, 0, none⟩ = some (.int .i64 0) := (blk_cell BK327.out 0).trans rfl; have hcz28_1 : w26.cell? ⟨gb327, 1, none⟩ = some (.int .i64 0) := (blk_cell BK327.out 1).trans rfl; have hcz28_2 : w26.cell? ⟨gb327, 2, none⟩ = some (.int .i64 0) := (blk_cell BK327.out 2).trans rfl; have hcz28_3 : w26.cell? ⟨gb327, 3, none⟩ = some (.slice none 0 0) := (blk_cell BK327.out 3).trans rfl; have hcz28_4 : w26.cell? ⟨gb327, 4, none⟩ = some (.slice none 0 0) := (blk_cell BK327.out 4).trans rfl; have hfz28_0 := blk_frozen BK327.out 0; have hfz28_1 := blk_frozen BK327.out 1; have hfz28_2 := blk_frozen BK327.out 2; have hfz28_3 := blk_frozen BK327.out 3; have hfz28_4 := blk_frozen BK327.out 4))
        have n0_ : Aside0 ((((((w26.setCell ⟨gb327, 0, none⟩ (.int .i64 ((rd_T31 l0_0 x8_1).f0))).setCell ⟨gb327, 1, none⟩ (.int .i64 ((rd_T31 l0_0 x8_1).f1))).setCell ⟨gb327, 2, none⟩ (.int .i64 ((rd_T31 l0_0 x8_1).f2))).setCell ⟨gb327, 3, none⟩ (.slice A326_3 ((rd_T31 l0_0 x8_1).f3).length c326_3)).setCell ⟨gb327, 4, none⟩ (.slice A326_4 ((rd_T31 l0_0 x8_1).f4).length c326_4)).heap[gb325]? = some (.cells #[.slice (some ad326) l0_0.length c0_0] 43 (0, 0))) := ⟨by (with_reducible repeat (first | refine blk_drewN ?_ _ | refine blk_drew ?_ | refine blk_alloc ?_ _)); refine blk_far ?_ NB325_327.out _; (with_reducible repeat (first | refine blk_drewN ?_ _ | refine blk_drew ?_ | refine blk_alloc ?_ _)); refine blk_far ?_ NB325_327.out _; (with_reducible repeat (first | refine blk_drewN ?_ _ | refine blk_drew ?_ | refine blk_alloc ?_ _)); refine blk_far ?_ NB325_327.out _; (with_reducible repeat (first | refine blk_drewN ?_ _ | refine blk_drew ?_ | refine blk_alloc ?_ _)); refine blk_far ?_ NB325_327.out _; (with_reducible repeat (first | refine blk_drewN ?_ _ | refine blk_drew ?_ | refine blk_alloc ?_ _)); refine blk_far ?_ NB325_327.out _; (with_reducible repeat (first | refine blk_drewN ?_ _ | refine blk_drew ?_ | refine blk_alloc ?_ _)); exact BK325.out⟩
        have n1_ : Aside0 ((((((w26.setCell ⟨gb327, 0, none⟩ (.int .i64 ((rd_T31 l0_0 x8_1).f0))).setCell ⟨gb327, 1, none⟩ (.int .i64 ((rd_T31 l0_0 x8_1).f1))).setCell ⟨gb327, 2, none⟩ (.int .i64 ((rd_T31 l0_0 x8_1).f2))).setCell ⟨gb327, 3, none⟩ (.slice A326_3 ((rd_T31 l0_0 x8_1).f3).length c326_3)).setCell ⟨gb327, 4, none⟩ (.slice A326_4 ((rd_T31 l0_0 x8_1).f4).length c326_4)).heap[gb327]? = some (.cells #[.int .i64 ((rd_T31 l0_0 x8_1).f0), .int .i64 ((rd_T31 l0_0 x8_1).f1), .int .i64 ((rd_T31 l0_0 x8_1).f2), .slice A326_3 ((rd_T31 l0_0 x8_1).f3).length c326_3, .slice A326_4 ((rd_T31 l0_0 x8_1).f4).length c326_4] 31 (0, 0))) := ⟨by (with_reducible repeat (first | refine blk_drewN ?_ _ | refine blk_drew ?_ | refine blk_alloc ?_ _)); refine blk_put (cs := #[.int .i64 ((rd_T31 l0_0 x8_1).f0), .int .i64 ((rd_T31 l0_0 x8_1).f1), .int .i64 ((rd_T31 l0_0 x8_1).f2), .slice A326_3 ((rd_T31 l0_0 x8_1).f3).length c326_3, .slice none 0 0]) ?_ 4 _ rfl; (with_reducible repeat (first | refine blk_drewN ?_ _ | refine blk_drew ?_ | refine blk_alloc ?_ _)); refine blk_put (cs := #[.int .i64 ((rd_T31 l0_0 x8_1).f0), .int .i64 ((rd_T31 l0_0 x8_1).f1), .int .i64 ((rd_T31 l0_0 x8_1).f2), .slice none 0 0, .slice none 0 0]) ?_ 3 _ rfl; (with_reducible repeat (first | refine blk_drewN ?_ _ | refine blk_drew ?_ | refine blk_alloc ?_ _)); refine blk_put (cs := #[.int .i64 ((rd_T31 l0_0 x8_1).f0), .int .i64 ((rd_T31 l0_0 x8_1).f1), .int .i64 0, .slice none 0 0, .slice none 0 0]) ?_ 2 _ rfl; (with_reducible repeat (first | refine blk_drewN ?_ _ | refine blk_drew ?_ | refine blk_alloc ?_ _)); refine blk_put (cs := #[.int .i64 ((rd_T31 l0_0 x8_1).f0), .int .i64 0, .int .i64 0, .slice none 0 0, .slice none 0 0]) ?_ 1 _ rfl; (with_reducible repeat (first | refine blk_drewN ?_ _ | refine blk_drew ?_ | refine blk_alloc ?_ _)); refine blk_put (cs := #[.int .i64 0, .int .i64 0, .int .i64 0, .slice none 0 0, .slice none 0 0]) ?_ 0 _ rfl; (with_reducible repeat (first | refine blk_drewN ?_ _ | refine blk_drew ?_ | refine blk_alloc ?_ _)); exact BK327.out⟩
        have n2_ : Aside0 (Below w.heap.size w (((((w26.setCell ⟨gb327, 0, none⟩ (.int .i64 ((rd_T31 l0_0 x8_1).f0))).setCell ⟨gb327, 1, none⟩ (.int .i64 ((rd_T31 l0_0 x8_1).f1))).setCell ⟨gb327, 2, none⟩ (.int .i64 ((rd_T31 l0_0 x8_1).f2))).setCell ⟨gb327, 3, none⟩ (.slice A326_3 ((rd_T31 l0_0 x8_1).f3).length c326_3)).setCell ⟨gb327, 4, none⟩ (.slice A326_4 ((rd_T31 l0_0 x8_1).f4).length c326_4))) := ⟨by repeat (first | (with_reducible first | exact HB.out | apply below_alloc | apply pw_below_drewN | apply below_drew1 | refine below_set ?_ GE325.out | refine below_set ?_ GE327.out) | exact HB.out)⟩
        (try clear BK325)
        (try clear BK327)
        (try clear HB)
        generalize (((((w26.setCell ⟨gb327, 0, none⟩ (.int .i64 ((rd_T31 l0_0 x8_1).f0))).setCell ⟨gb327, 1, none⟩ (.int .i64 ((rd_T31 l0_0 x8_1).f1))).setCell ⟨gb327, 2, none⟩ (.int .i64 ((rd_T31 l0_0 x8_1).f2))).setCell ⟨gb327, 3, none⟩ (.slice A326_3 ((rd_T31 l0_0 x8_1).f3).length c326_3)).setCell ⟨gb327, 4, none⟩ (.slice A326_4 ((rd_T31 l0_0 x8_1).f4).length c326_4)) = w29 at n0_ n1_ n2_ ⊢
        have BK325 := n0_
        have BK327 := n1_
        have HB := n2_
        clear n0_ n1_ n2_
        have n0_ := Aside0.mk (blk_drew BK325.out)
        have n1_ := Aside0.mk (blk_drew BK327.out)
        have n2_ := Aside0.mk (below_drew1 HB.out)
        clear BK325
        clear BK327
        clear HB
        have BK325 := n0_
        have BK327 := n1_
        have HB := n2_
        clear n0_ n1_ n2_
        refine start_ (n := 19) (S := fun w' => w'.cell? ⟨gb327, 0, none⟩ = some (.int .i64 ((rd_T31 l0_0 x8_1).f0)) ∧ w'.cell? ⟨gb327, 1, none⟩ = some (.int .i64 ((rd_T31 l0_0 x8_1).f1)) ∧ w'.cell? ⟨gb327, 2, none⟩ = some (.int .i64 ((rd_T31 l0_0 x8_1).f2)) ∧ w'.cell? ⟨gb327, 3, none⟩ = some (.slice A326_3 ((rd_T31 l0_0 x8_1).f3).length c326_3) ∧ w'.cell? ⟨gb327, 4, none⟩ = some (.slice A326_4 ((rd_T31 l0_0 x8_1).f4).length c326_4)) (ds := []) ba13_0 (by kernel_rfl) rfl rfl ⟨(blk_cell BK327.out 0).trans rfl, (blk_cell BK327.out 1).trans rfl, (blk_cell BK327.out 2).trans rfl, (blk_cell BK327.out 3).trans rfl, (blk_cell BK327.out 4).trans rfl⟩ (fun hHeld => ?_); refine with_tabW impl_DbOk.tab4 impl_DbOk.bits4 (fun HT_ HW_ => ?_)
        generalize w29.drew = w30 at BK325 BK327 HB hHeld ⊢
        refine pt_ 0 13 ba13_1 HT_ HW_ hHeld ?_
        refine one_ (i := 1) (N := some 14) ba13_2 rfl rfl (one_of HT_.out (by kernel_rfl)) (by decide) (fun K hK => ?_)
        refine gz_ Try.func16 #[.agg #[.int .i64 ((rd_T31 l0_0 x8_1).f0), .int .i64 ((rd_T31 l0_0 x8_1).f1), .int .i64 ((rd_T31 l0_0 x8_1).f2), .slice A326_3 ((rd_T31 l0_0 x8_1).f3).length c326_3, .slice A326_4 ((rd_T31 l0_0 x8_1).f4).length c326_4]] ?_
        with_reducible refine (impl_LsaOk.calls k1 ((rd_T31 l0_0 x8_1).f0) ((rd_T31 l0_0 x8_1).f1) ((rd_T31 l0_0 x8_1).f2) _ _ ((rd_T31 l0_0 x8_1).f3) _ _ ((rd_T31 l0_0 x8_1).f4) true _ ?side1 ?side2 ?side3 ?side4 A7.out).mono ?_
        (case side1 => repeat (first | exact (Kd.C_below HR326_3.out HB.out) | (with_reducible refine Kd.C_alloc ?_ _) | (with_reducible refine Kd.C_drewN ?_ _) | (with_reducible refine Kd.C_drew ?_)))
        (case side2 => exact HC326_3.out)
        (case side3 => repeat (first | exact (Kd.C_below HR326_4.out HB.out) | (with_reducible refine Kd.C_alloc ?_ _) | (with_reducible refine Kd.C_drewN ?_ _) | (with_reducible refine Kd.C_drew ?_)))
        (case side4 => exact HC326_4.out)
        rintro e w31 ⟨rfl, hb⟩
        refine ⟨_, rfl, ?_⟩
        have n0_ := Aside0.mk (bb_ BK325 hb)
        have n1_ := Aside0.mk (bb_ BK327 hb)
        have n2_ := Aside0.mk (below_step (by repeat (first | (with_reducible first | exact HB.out | apply below_alloc | apply pw_below_drewN | apply below_drew1 | refine below_set ?_ GE325.out | refine below_set ?_ GE327.out) | exact HB.out)) hb)
        clear BK325
        clear BK327
        clear HB
        have BK325 := n0_
        have BK327 := n1_
        have HB := n2_
        clear n0_ n1_ n2_
        (try clear hb)
        (try clear hb2)
        (try clear hk)
        (try clear hi)
        refine hK.out _ _ ⟨(blk_cell BK327.out 0).trans rfl, (blk_cell BK327.out 1).trans rfl, (blk_cell BK327.out 2).trans rfl, (blk_cell BK327.out 3).trans rfl, (blk_cell BK327.out 4).trans rfl⟩ (fun hHeld => ?_)
        clear hK K
        refine nz_ 14 ?_
        refine pz_ 2 15 ba13_3 HT_ ?_
        refine pz_ 3 16 ba13_4 HT_ ?_
        refine pz_ 4 17 ba13_5 HT_ ?_
        refine pz_ 5 18 ba13_6 HT_ ?_
        refine pz_ 6 19 ba13_7 HT_ ?_
        refine pu_ 7 20 ba13_8 HT_ ?_
        refine pu_ 8 21 ba13_20 HT_ ?_
        refine pu_ 9 22 ba13_21 HT_ ?_
        refine pu_ 10 23 ba13_22 HT_ ?_
        refine pu_ 11 24 ba13_23 HT_ ?_
        refine pu_ 12 25 ba13_13 HT_ ?_
        refine pu_ 13 26 ba13_14 HT_ ?_
        refine pu_ 14 27 ba13_15 HT_ ?_
        refine pu_ 15 28 ba13_16 HT_ ?_
        refine pu_ 16 29 ba13_17 HT_ ?_
        refine pz_ 17 30 ba13_18 HT_ ?_
        refine pz_ 18 31 ba13_19 HT_ ?_
        refine done_ (done_of HT_.out (by kernel_rfl)) ?_
        try go_wp2
        go_roundg k1
        case measure => have := HK1.out; omega
        case rel => exact ⟨(wrap64 (x8_1 + 1)), (by first | rfl | (simp; done) | (simp [*]; done)), H', ⟨by have := HK1.out; omega⟩, ⟨by (with_reducible repeat (first | refine blk_drewN ?_ _ | refine blk_drew ?_ | refine blk_alloc ?_ _)); exact BK325.out⟩, ⟨by repeat (first | (with_reducible first | exact HB.out | apply below_alloc | apply pw_below_drewN | apply below_drew1 | refine below_set ?_ GE325.out | refine below_set ?_ GE327.out) | exact HB.out)⟩⟩
      ·replace c8 := Bool.eq_false_iff.mpr c8
       subst c8
       rw [if_neg (show ¬ (false = true) by decide)] at H
       obtain rfl := Option.some.inj H
       have p326 : 0 ≤ (x8_1 : Int) := of_decide_eq_true (by first | (with_reducible assumption) | assumption)
       have q326 : x8_1 < (l0_0.length : Int) := of_decide_eq_true (by first | (with_reducible assumption) | assumption)
       obtain ⟨ad326, A326_3, c326_3, A326_4, c326_4, e326, hx326_0, hx326_1, hx326_2, hx326_3, hx326_4, hl326_3, hi326_3, hl326_4, hi326_4⟩ := at_T31 HR0_0.out x8_1 p326 q326
       cases e326
       replace hx326_0 := (HB.out.cell (World.block_lt_of_cell? w _ hx326_0)).trans hx326_0
       replace hx326_1 := (HB.out.cell (World.block_lt_of_cell? w _ hx326_1)).trans hx326_1
       replace hx326_2 := (HB.out.cell (World.block_lt_of_cell? w _ hx326_2)).trans hx326_2
       replace hx326_3 := (HB.out.cell (World.block_lt_of_cell? w _ hx326_3)).trans hx326_3
       replace hx326_4 := (HB.out.cell (World.block_lt_of_cell? w _ hx326_4)).trans hx326_4
       have HR326_3 := Aside0.mk hi326_3
       have HC326_3 := Aside0.mk hl326_3
       clear hi326_3 hl326_3
       have HR326_4 := Aside0.mk hi326_4
       have HC326_4 := Aside0.mk hl326_4
       clear hi326_4 hl326_4
       replace p326 := eq_true p326
       replace q326 := eq_true q326
       try go_wp2_with (first | ((with_reducible refine gate_dst (N := 4) rfl ?_); refine box_event ?hg (N := 4) ?hd (cs := #[.int .i64 0, .int .i64 0, .int .i64 0, .slice none 0 0, .slice none 0 0]) (t := 31) ?hr ?_; (case hd => rfl); (case hg => rfl); (case hr => first | (go_simp; done) | (go_simp; rfl)); intro gb327 hg w32 hbox hb; have n0_ := Aside0.mk (bb_ BK325 hb); have n1_ := Aside0.mk (below_step (by repeat (first | (with_reducible first | exact HB.out | apply below_alloc | apply pw_below_drewN | apply below_drew1 | refine below_set ?_ GE325.out) | exact HB.out)) hb); have n2_ := Aside0.mk (hbox); have n3_ := Aside0.mk ((by rw [hg]; exact (below_size (by repeat (first | (with_reducible first | exact HB.out | apply below_alloc | apply pw_below_drewN | apply below_drew1 | refine below_set ?_ GE325.out) | exact HB.out))) : w.heap.size ≤ gb327)); have n4_ := Aside0.mk ((by rw [hg]; exact (below_size (by repeat (first | (with_reducible first | exact HB.out | apply below_alloc | apply pw_below_drewN | apply below_drew1 | refine below_set ?_ GE325.out) | exact HB.out))) : w.heap.size ≤ gb327)); have n5_ := Aside0.mk ((by rw [hg]; exact Nat.ne_of_lt (bl_ BK325) : gb325 ≠ gb327)); have n6_ := Aside0.mk ((by rw [hg]; exact Nat.ne_of_gt (bl_ BK325) : gb327 ≠ gb325)); clear BK325; clear HB; have BK325 := n0_; have HB := n1_; have BK327 := n2_; have GW327 := n3_; have GE327 := n4_; have NB325_327 := n5_; have NB327_325 := n6_; clear n0_ n1_ n2_ n3_ n4_ n5_ n6_; clear hb hbox hg; have hnb33 := NB327_325.out; have hnc33 := NB325_327.out; have hcz34_0 : w32.cell? ⟨gb327, 0, none⟩ = some (.int .i64 0) := (blk_cell BK327.out 0).trans rfl; have hcz34_1 : w32.cell? ⟨gb327, 1, none⟩ = some (.int .i64 0) := (blk_cell BK327.out 1).trans rfl; have hcz34_2 : w32.cell? ⟨gb327, 2, none⟩ = some (.int .i64 0) := (blk_cell BK327.out 2).trans rfl; have hcz34_3 : w32.cell? ⟨gb327, 3, none⟩ = some (.slice none 0 0) := (blk_cell BK327.out 3).trans rfl; have hcz34_4 : w32.cell? ⟨gb327, 4, none⟩ = some (.slice none 0 0) := (blk_cell BK327.out 4).trans rfl; have hfz34_0 := blk_frozen BK327.out 0; have hfz34_1 := blk_frozen BK327.out 1; have hfz34_2 := blk_frozen BK327.out 2; have hfz34_3 := blk_frozen BK327.out 3; have hfz34_4 := blk_frozen BK327.out 4))
       have n0_ : Aside0 ((((((w32.setCell ⟨gb327, 0, none⟩ (.int .i64 ((rd_T31 l0_0 x8_1).f0))).setCell ⟨gb327, 1, none⟩ (.int .i64 ((rd_T31 l0_0 x8_1).f1))).setCell ⟨gb327, 2, none⟩ (.int .i64 ((rd_T31 l0_0 x8_1).f2))).setCell ⟨gb327, 3, none⟩ (.slice A326_3 ((rd_T31 l0_0 x8_1).f3).length c326_3)).setCell ⟨gb327, 4, none⟩ (.slice A326_4 ((rd_T31 l0_0 x8_1).f4).length c326_4)).heap[gb325]? = some (.cells #[.slice (some ad326) l0_0.length c0_0] 43 (0, 0))) := ⟨by (with_reducible repeat (first | refine blk_drewN ?_ _ | refine blk_drew ?_ | refine blk_alloc ?_ _)); refine blk_far ?_ NB325_327.out _; (with_reducible repeat (first | refine blk_drewN ?_ _ | refine blk_drew ?_ | refine blk_alloc ?_ _)); refine blk_far ?_ NB325_327.out _; (with_reducible repeat (first | refine blk_drewN ?_ _ | refine blk_drew ?_ | refine blk_alloc ?_ _)); refine blk_far ?_ NB325_327.out _; (with_reducible repeat (first | refine blk_drewN ?_ _ | refine blk_drew ?_ | refine blk_alloc ?_ _)); refine blk_far ?_ NB325_327.out _; (with_reducible repeat (first | refine blk_drewN ?_ _ | refine blk_drew ?_ | refine blk_alloc ?_ _)); refine blk_far ?_ NB325_327.out _; (with_reducible repeat (first | refine blk_drewN ?_ _ | refine blk_drew ?_ | refine blk_alloc ?_ _)); exact BK325.out⟩
       have n1_ : Aside0 ((((((w32.setCell ⟨gb327, 0, none⟩ (.int .i64 ((rd_T31 l0_0 x8_1).f0))).setCell ⟨gb327, 1, none⟩ (.int .i64 ((rd_T31 l0_0 x8_1).f1))).setCell ⟨gb327, 2, none⟩ (.int .i64 ((rd_T31 l0_0 x8_1).f2))).setCell ⟨gb327, 3, none⟩ (.slice A326_3 ((rd_T31 l0_0 x8_1).f3).length c326_3)).setCell ⟨gb327, 4, none⟩ (.slice A326_4 ((rd_T31 l0_0 x8_1).f4).length c326_4)).heap[gb327]? = some (.cells #[.int .i64 ((rd_T31 l0_0 x8_1).f0), .int .i64 ((rd_T31 l0_0 x8_1).f1), .int .i64 ((rd_T31 l0_0 x8_1).f2), .slice A326_3 ((rd_T31 l0_0 x8_1).f3).length c326_3, .slice A326_4 ((rd_T31 l0_0 x8_1).f4).length c326_4] 31 (0, 0))) := ⟨by (with_reducible repeat (first | refine blk_drewN ?_ _ | refine blk_drew ?_ | refine blk_alloc ?_ _)); refine blk_put (cs := #[.int .i64 ((rd_T31 l0_0 x8_1).f0), .int .i64 ((rd_T31 l0_0 x8_1).f1), .int .i64 ((rd_T31 l0_0 x8_1).f2), .slice A326_3 ((rd_T31 l0_0 x8_1).f3).length c326_3, .slice none 0 0]) ?_ 4 _ rfl; (with_reducible repeat (first | refine blk_drewN ?_ _ | refine blk_drew ?_ | refine blk_alloc ?_ _)); refine blk_put (cs := #[.int .i64 ((rd_T31 l0_0 x8_1).f0), .int .i64 ((rd_T31 l0_0 x8_1).f1), .int .i64 ((rd_T31 l0_0 x8_1).f2), .slice none 0 0, .slice none 0 0]) ?_ 3 _ rfl; (with_reducible repeat (first | refine blk_drewN ?_ _ | refine blk_drew ?_ | refine blk_alloc ?_ _)); refine blk_put (cs := #[.int .i64 ((rd_T31 l0_0 x8_1).f0), .int .i64 ((rd_T31 l0_0 x8_1).f1), .int .i64 0, .slice none 0 0, .slice none 0 0]) ?_ 2 _ rfl; (with_reducible repeat (first | refine blk_drewN ?_ _ | refine blk_drew ?_ | refine blk_alloc ?_ _)); refine blk_put (cs := #[.int .i64 ((rd_T31 l0_0 x8_1).f0), .int .i64 0, .int .i64 0, .slice none 0 0, .slice none 0 0]) ?_ 1 _ rfl; (with_reducible repeat (first | refine blk_drewN ?_ _ | refine blk_drew ?_ | refine blk_alloc ?_ _)); refine blk_put (cs := #[.int .i64 0, .int .i64 0, .int .i64 0, .slice none 0 0, .slice none 0 0]) ?_ 0 _ rfl; (with_reducible repeat (first | refine blk_drewN ?_ _ | refine blk_drew ?_ | refine blk_alloc ?_ _)); exact BK327.out⟩
       have n2_ : Aside0 (Below w.heap.size w (((((w32.setCell ⟨gb327, 0, none⟩ (.int .i64 ((rd_T31 l0_0 x8_1).f0))).setCell ⟨gb327, 1, none⟩ (.int .i64 ((rd_T31 l0_0 x8_1).f1))).setCell ⟨gb327, 2, none⟩ (.int .i64 ((rd_T31 l0_0 x8_1).f2))).setCell ⟨gb327, 3, none⟩ (.slice A326_3 ((rd_T31 l0_0 x8_1).f3).length c326_3)).setCell ⟨gb327, 4, none⟩ (.slice A326_4 ((rd_T31 l0_0 x8_1).f4).length c326_4))) := ⟨by repeat (first | (with_reducible first | exact HB.out | apply below_alloc | apply pw_below_drewN | apply below_drew1 | refine below_set ?_ GE325.out | refine below_set ?_ GE327.out) | exact HB.out)⟩
       (try clear BK325)
       (try clear BK327)
       (try clear HB)
       generalize (((((w32.setCell ⟨gb327, 0, none⟩ (.int .i64 ((rd_T31 l0_0 x8_1).f0))).setCell ⟨gb327, 1, none⟩ (.int .i64 ((rd_T31 l0_0 x8_1).f1))).setCell ⟨gb327, 2, none⟩ (.int .i64 ((rd_T31 l0_0 x8_1).f2))).setCell ⟨gb327, 3, none⟩ (.slice A326_3 ((rd_T31 l0_0 x8_1).f3).length c326_3)).setCell ⟨gb327, 4, none⟩ (.slice A326_4 ((rd_T31 l0_0 x8_1).f4).length c326_4)) = w35 at n0_ n1_ n2_ ⊢
       have BK325 := n0_
       have BK327 := n1_
       have HB := n2_
       clear n0_ n1_ n2_
       have n0_ := Aside0.mk (blk_drew BK325.out)
       have n1_ := Aside0.mk (blk_drew BK327.out)
       have n2_ := Aside0.mk (below_drew1 HB.out)
       clear BK325
       clear BK327
       clear HB
       have BK325 := n0_
       have BK327 := n1_
       have HB := n2_
       clear n0_ n1_ n2_
       refine start_ (n := 19) (S := fun w' => w'.cell? ⟨gb327, 0, none⟩ = some (.int .i64 ((rd_T31 l0_0 x8_1).f0)) ∧ w'.cell? ⟨gb327, 1, none⟩ = some (.int .i64 ((rd_T31 l0_0 x8_1).f1)) ∧ w'.cell? ⟨gb327, 2, none⟩ = some (.int .i64 ((rd_T31 l0_0 x8_1).f2)) ∧ w'.cell? ⟨gb327, 3, none⟩ = some (.slice A326_3 ((rd_T31 l0_0 x8_1).f3).length c326_3) ∧ w'.cell? ⟨gb327, 4, none⟩ = some (.slice A326_4 ((rd_T31 l0_0 x8_1).f4).length c326_4)) (ds := []) ba13_0 (by kernel_rfl) rfl rfl ⟨(blk_cell BK327.out 0).trans rfl, (blk_cell BK327.out 1).trans rfl, (blk_cell BK327.out 2).trans rfl, (blk_cell BK327.out 3).trans rfl, (blk_cell BK327.out 4).trans rfl⟩ (fun hHeld => ?_); refine with_tabW impl_DbOk.tab4 impl_DbOk.bits4 (fun HT_ HW_ => ?_)
       generalize w35.drew = w36 at BK325 BK327 HB hHeld ⊢
       refine pt_ 0 13 ba13_1 HT_ HW_ hHeld ?_
       refine one_ (i := 1) (N := some 14) ba13_2 rfl rfl (one_of HT_.out (by kernel_rfl)) (by decide) (fun K hK => ?_)
       refine gz_ Try.func16 #[.agg #[.int .i64 ((rd_T31 l0_0 x8_1).f0), .int .i64 ((rd_T31 l0_0 x8_1).f1), .int .i64 ((rd_T31 l0_0 x8_1).f2), .slice A326_3 ((rd_T31 l0_0 x8_1).f3).length c326_3, .slice A326_4 ((rd_T31 l0_0 x8_1).f4).length c326_4]] ?_
       with_reducible refine (impl_LsaOk.calls k1 ((rd_T31 l0_0 x8_1).f0) ((rd_T31 l0_0 x8_1).f1) ((rd_T31 l0_0 x8_1).f2) _ _ ((rd_T31 l0_0 x8_1).f3) _ _ ((rd_T31 l0_0 x8_1).f4) false _ ?side1 ?side2 ?side3 ?side4 A7.out).mono ?_
       (case side1 => repeat (first | exact (Kd.C_below HR326_3.out HB.out) | (with_reducible refine Kd.C_alloc ?_ _) | (with_reducible refine Kd.C_drewN ?_ _) | (with_reducible refine Kd.C_drew ?_)))
       (case side2 => exact HC326_3.out)
       (case side3 => repeat (first | exact (Kd.C_below HR326_4.out HB.out) | (with_reducible refine Kd.C_alloc ?_ _) | (with_reducible refine Kd.C_drewN ?_ _) | (with_reducible refine Kd.C_drew ?_)))
       (case side4 => exact HC326_4.out)
       rintro e w37 ⟨rfl, hb⟩
       refine ⟨_, rfl, ?_⟩
       have n0_ := Aside0.mk (bb_ BK325 hb)
       have n1_ := Aside0.mk (bb_ BK327 hb)
       have n2_ := Aside0.mk (below_step (by repeat (first | (with_reducible first | exact HB.out | apply below_alloc | apply pw_below_drewN | apply below_drew1 | refine below_set ?_ GE325.out | refine below_set ?_ GE327.out) | exact HB.out)) hb)
       clear BK325
       clear BK327
       clear HB
       have BK325 := n0_
       have BK327 := n1_
       have HB := n2_
       clear n0_ n1_ n2_
       (try clear hb)
       (try clear hb2)
       (try clear hk)
       (try clear hi)
       refine hK.out _ _ ⟨(blk_cell BK327.out 0).trans rfl, (blk_cell BK327.out 1).trans rfl, (blk_cell BK327.out 2).trans rfl, (blk_cell BK327.out 3).trans rfl, (blk_cell BK327.out 4).trans rfl⟩ (fun hHeld => ?_)
       clear hK K
       refine nz_ 14 ?_
       refine pz_ 2 15 ba13_3 HT_ ?_
       refine pz_ 3 16 ba13_4 HT_ ?_
       refine pu_ 4 17 ba13_5 HT_ ?_
       refine pu_ 5 18 ba13_6 HT_ ?_
       refine pu_ 6 19 ba13_7 HT_ ?_
       refine pu_ 7 20 ba13_8 HT_ ?_
       refine pu_ 8 21 ba13_20 HT_ ?_
       refine pu_ 9 22 ba13_21 HT_ ?_
       refine pu_ 10 23 ba13_22 HT_ ?_
       refine pu_ 11 24 ba13_23 HT_ ?_
       refine pu_ 12 25 ba13_13 HT_ ?_
       refine pu_ 13 26 ba13_14 HT_ ?_
       refine pu_ 14 27 ba13_15 HT_ ?_
       refine pu_ 15 28 ba13_16 HT_ ?_
       refine pu_ 16 29 ba13_17 HT_ ?_
       refine pu_ 17 30 ba13_18 HT_ ?_
       refine pz_ 18 31 ba13_19 HT_ ?_
       refine done_ (done_of HT_.out (by kernel_rfl)) ?_
       try go_wp2
       go_ret
       exact ⟨by first | rfl | (simp [errW_none, errW_some] <;> rfl) | (simp [*, errW_none, errW_some] <;> rfl), by repeat (first | (with_reducible first | exact HB.out | apply below_alloc | apply pw_below_drewN | apply below_drew1 | refine below_set ?_ GE325.out | refine below_set ?_ GE327.out) | exact HB.out)⟩
     ·rw [if_neg c6] at H
      exact absurd H (by simp)
    ·rw [if_neg c5] at H
     exact absurd H (by simp)
   ·rw [if_neg c4] at H
    have c4b0 : decide (x8_1 < (l0_0.length : Int)) = false := decide_eq_false c4
    clear c4
    obtain rfl := Option.some.inj H
    go_wp2
    go_ret
    exact ⟨by first | rfl | (simp [errW_none, errW_some] <;> rfl) | (simp [*, errW_none, errW_some] <;> rfl), by repeat (first | (with_reducible first | exact HB.out | apply below_alloc | apply pw_below_drewN | apply below_drew1 | refine below_set ?_ GE325.out) | exact HB.out)⟩

end Go.Proofs.Ytiikcfaodkiakaa.QFnExactDbSum
