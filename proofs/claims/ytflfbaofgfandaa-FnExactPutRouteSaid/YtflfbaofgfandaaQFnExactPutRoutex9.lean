/- Contracts of functions that the law reaches: what each call returns and what it leaves in memory. Made by this session over the print of the kit. -/
import Derived.Test.YtflfbaofgfandaaQFnExactPutRoutex0
import Derived.Test.YtflfbaofgfandaaQFnExactPutRoutex8
namespace Go.Proofs.Ytflfbaofgfandaa.QFnExactPutRoute
open Go.RowKit Go.Proofs.YtflfbaofgfandaaP.PrintWords Go.Proofs.YtflfbaofgfandaaP.PrintLast Go.Proofs.YtflfbaofgfandaaP.PrintMore
attribute [local go_sem] max2_int min2_int max_two min_two max_three min_three max_four min_four   -- for this text's walks alone
set_option linter.unusedVariables false
set_option linter.unusedSimpArgs false
def ba9_0 : Array Bool := #[false, false, false, false, false, false, false, false, false, false, false, false, false, false, false, false, false, false, false, false]
def ba9_1 : Array Bool := #[true, false, false, false, false, false, false, false, false, false, false, false, false, false, false, false, false, false, false, false]
def ba9_2 : Array Bool := #[true, true, false, false, false, false, false, false, false, false, false, false, false, false, false, false, false, false, false, false]
def ba9_3 : Array Bool := #[true, true, true, false, false, false, false, false, false, false, false, false, false, false, false, false, false, false, false, false]
def ba9_4 : Array Bool := #[true, true, true, true, false, false, false, false, false, false, false, false, false, false, false, false, false, false, false, false]
def ba9_5 : Array Bool := #[true, true, true, true, true, false, false, false, false, false, false, false, false, false, false, false, false, false, false, false]
def ba9_6 : Array Bool := #[true, true, true, true, true, true, false, false, false, false, false, false, false, false, false, false, false, false, false, false]
def ba9_7 : Array Bool := #[true, true, true, true, true, true, true, false, false, false, false, false, false, false, false, false, false, false, false, false]
def ba9_8 : Array Bool := #[true, true, true, true, true, true, true, true, false, false, false, false, false, false, false, false, false, false, false, false]
def ba9_9 : Array Bool := #[true, true, true, true, true, true, true, true, false, true, false, false, false, false, false, false, false, false, false, false]
def ba9_10 : Array Bool := #[true, true, true, true, true, true, true, true, false, true, true, false, false, false, false, false, false, false, false, false]
def ba9_11 : Array Bool := #[true, true, true, true, true, true, true, true, false, true, true, false, false, false, true, false, false, false, false, false]
def ba9_12 : Array Bool := #[true, true, true, true, true, true, true, true, true, true, true, false, false, false, true, false, false, false, false, false]
def ba9_13 : Array Bool := #[true, true, true, true, true, true, true, true, true, true, true, true, false, false, true, false, false, false, false, false]
def ba9_14 : Array Bool := #[true, true, true, true, true, true, true, true, true, true, true, true, true, false, true, false, false, false, false, false]
def ba9_15 : Array Bool := #[true, true, true, true, true, true, true, true, true, true, true, true, true, true, true, false, false, false, false, false]
def ba9_16 : Array Bool := #[true, true, true, true, true, true, true, true, true, true, true, true, true, true, true, true, false, false, false, false]
def ba9_17 : Array Bool := #[true, true, true, true, true, true, true, true, true, true, true, true, true, true, true, true, true, false, false, false]
def ba9_18 : Array Bool := #[true, true, true, true, true, true, true, true, true, true, true, true, true, true, true, true, true, true, false, false]
def ba9_19 : Array Bool := #[true, true, true, true, true, true, true, true, true, true, true, true, true, true, true, true, true, true, true, false]
def ba9_20 : Array Bool := #[true, true, true, true, true, true, true, true, true, true, true, true, true, true, true, true, true, true, true, true]
def ba9_21 : Array Bool := #[true, true, true, true, true, true, true, true, true, false, false, false, false, false, false, false, false, false, false, false]
def ba9_22 : Array Bool := #[true, true, true, true, true, true, true, true, true, true, false, false, false, false, false, false, false, false, false, false]
def ba9_23 : Array Bool := #[true, true, true, true, true, true, true, true, true, true, true, false, false, false, false, false, false, false, false, false]
def ba9_24 : Array Bool := #[true, true, true, true, true, true, true, true, true, true, true, true, false, false, false, false, false, false, false, false]
def ba9_25 : Array Bool := #[true, true, true, true, true, true, true, true, true, true, true, true, true, false, false, false, false, false, false, false]
def ba9_26 : Array Bool := #[true, true, true, true, true, true, true, true, true, true, true, true, true, true, false, false, false, false, false, false]

/-! ### impl_TableOk: function 31 -/
def impl_TableOk.l0 : Nat → List (S43) → Int → Int → List (S43) → Option (Bool)
 | 0, _, _, _, _ => none
 | k + 1, x6, x7, x8, x231000 => if x8 < x7 then (if 0 ≤ x8 then (if x8 < (x6.length : Int) then ((impl_isRoute.f ((rd_T43 x6 x8).f0.f0) ((rd_T43 x6 x8).f0.f1) ((rd_T43 x6 x8).f1)).bind fun t233 => (if t233 = true then (if x8 > 0 then (if 0 ≤ (wrap64 (x8 - 1)) then (if (wrap64 (x8 - 1)) < (x231000.length : Int) then ((impl_comparePrefixes.f ((rd_T43 x231000 (wrap64 (x8 - 1))).f0.f0) ((rd_T43 x231000 (wrap64 (x8 - 1))).f0.f1) ((rd_T43 x6 x8).f0.f0) ((rd_T43 x6 x8).f0.f1)).bind fun t235 => (if t235 ≥ 0 then (some false) else (impl_TableOk.l0 k x6 x7 (wrap64 (x8 + 1)) x231000))) else (none)) else (none)) else (impl_TableOk.l0 k x6 x7 (wrap64 (x8 + 1)) x231000)) else (some false))) else (none)) else (none)) else (some (decide ((x231000.length : Int) ≤ 120)))
def impl_TableOk.f (k : Nat) (l0_0 : List (S43)) : Option (Bool) := impl_TableOk.l0 k l0_0 (l0_0.length : Int) 0 l0_0
theorem impl_TableOk.mono_l : ∀ k, (∀ y0 y1 y2 y3, LeO (impl_TableOk.l0 k y0 y1 y2 y3) (impl_TableOk.l0 (k + 1) y0 y1 y2 y3))
 | 0 => fun _ _ _ _ r h => by simp [impl_TableOk.l0] at h
 | k + 1 => by
  have ih0 := impl_TableOk.mono_l k
  ·intro y0 y1 y2 y3
   unfold impl_TableOk.l0
   repeat' first
   | (with_reducible exact ih0 _ _ _ _)
   | (with_reducible exact LeO.refl _)
   | (with_reducible exact LeO.none _)
   | (with_reducible refine LeO.ite ?_ ?_)
   | (with_reducible refine LeO.bind ?_ (fun _ => ?_))
   | exact ih0 _ _ _ _
   | exact LeO.none _
   | refine LeO.ite ?_ ?_
   | refine LeO.bind ?_ (fun _ => ?_)
theorem impl_TableOk.mono : ∀ a0 k, LeO (impl_TableOk.f k a0) (impl_TableOk.f (k + 1) a0) := by
 intro a0 k
 have ih0 := impl_TableOk.mono_l k
 unfold impl_TableOk.f
 repeat' first
   | (with_reducible exact ih0 _ _ _ _)
   | (with_reducible exact LeO.refl _)
   | (with_reducible exact LeO.none _)
   | (with_reducible refine LeO.ite ?_ ?_)
   | (with_reducible refine LeO.bind ?_ (fun _ => ?_))
   | exact ih0 _ _ _ _
   | exact LeO.none _
   | refine LeO.ite ?_ ?_
   | refine LeO.bind ?_ (fun _ => ?_)
def impl_TableOk.T4 : Bool × List (List Nat × List Nat) := (true, [([], []), ([0], [0]), ([1], [1]), ([2, 1], [2]), ([3], [3]), ([4, 3], [3, 4]), ([5, 3, 3], [3, 5]), ([6], [6]), ([7, 6], [6, 7]), ([6], [6]), ([9, 6], [6, 9]), ([8, 10, 6], [6, 8, 10]), ([11, 6], [6, 11]), ([12, 6], [6, 12]), ([6], [6]), ([14, 6], [6, 14]), ([13, 15, 6, 6], [6, 13, 15]), ([16, 6], [6, 16]), ([6, 17, 3], [3, 6, 17]), ([3, 18], [3, 18])])
def impl_TableOk.B4 : List Nat := [0, 1, 3, 7, 15, 31, 63, 127, 255, 127, 639, 2047, 4095, 8191, 127, 16511, 65535, 131071, 262143, 524287]
theorem impl_TableOk.tab4 : rtab .any (opsOf Try.f31 4) = impl_TableOk.T4 := by kernel_rfl
theorem impl_TableOk.bits4 : waitsOk impl_TableOk.T4.2 impl_TableOk.B4 = true := by kernel_rfl
set_option maxHeartbeats 8000000 in
set_option maxRecDepth 100000 in
theorem impl_TableOk.calls (k : Nat) (A0_0 : Option Addr) (c0_0 : Nat) (l0_0 : List (S43)) (r : Bool) (w : World) (hr0_0 : Kd.C k43 w A0_0 l0_0.length l0_0) (hc0_0 : l0_0.length ≤ c0_0) (h : impl_TableOk.f k l0_0 = some r) :
  Calls Try.prog 31 #[.agg #[.slice A0_0 l0_0.length c0_0]] w fun e w' => e = .returned (.bool r) ∧ Below w.heap.size w w' := by
 have hu30 := Try.underlying30
 have hu43 := Try.underlying43
 have hu34 := Try.underlying34
 have HR0_0 := Aside0.mk hr0_0
 have HC0_0 := Aside0.mk hc0_0
 clear hr0_0 hc0_0
 have HB := Aside0.mk (Below.refl w.heap.size w)
 have H : (impl_TableOk.l0 k l0_0 (l0_0.length : Int) 0 l0_0) = some r := h
 clear h
 have H' := Aside0.mk H
 clear H
 go_enter Try.func31, Try.ntmps31
 go_wp2_with (first | ((with_reducible refine gate_dst (N := 1) rfl ?_); refine box_event ?hg (N := 1) ?hd (cs := #[.slice A0_0 l0_0.length c0_0]) (t := 30) ?hr ?_; (case hd => rfl); (case hg => rfl); (case hr => first | (go_simp; done) | (go_simp; rfl)); intro gb230 hg w2 hbox hb; have BK230 := Aside0.mk hbox; have GW230 := ge_ HB hg; have GE230 := ge_ HB hg; replace HB := Aside0.mk (bt_ HB hb); clear hb hbox hg; have hcz3_0 := cz_ BK230 0 (.slice A0_0 l0_0.length c0_0); have hfz3_0 := blk_frozen BK230.out 0))
 go_loopg [8] k (fun kq v8 w' => ∃ (x8_1 : Int), v8 = .int .i64 x8_1 ∧ Aside0 (impl_TableOk.l0 kq l0_0 (l0_0.length : Int) x8_1 l0_0 = some r) ∧ Aside0 (kq ≤ k) ∧ Aside0 (w'.heap[gb230]? = some (.cells #[(.slice A0_0 l0_0.length c0_0)] 30 (0, 0))) ∧ Aside0 (Below w.heap.size w w'))
 case atStart => exact ⟨(0), (by first | rfl | (simp; done) | (simp [*]; done)), H', ⟨Nat.le_refl _⟩, ⟨by (with_reducible repeat (first | refine blk_drewN ?_ _ | refine blk_drew ?_ | refine blk_alloc ?_ _)); exact BK230.out⟩, ⟨by repeat (first | (with_reducible first | exact HB.out | apply below_alloc | apply pw_below_drewN | apply below_drew1 | refine below_set ?_ GE230.out) | exact HB.out)⟩⟩
 case round =>
  clear H'
  try clear p2
  try clear c3
  try clear hcz3_0
  try clear hfz3_0
  obtain ⟨x8_1, rfl, HA, HK1, BK230, HB⟩ := hrel
  cases gk with
  | zero => exact absurd HA.out (by simp [impl_TableOk.l0])
  | succ k1 =>
   have H := HA.out
   clear HA
   simp only [impl_TableOk.l0] at H
   by_cases c4 : x8_1 < (l0_0.length : Int)
   ·rw [if_pos c4] at H
    have c4b0 : decide (x8_1 < (l0_0.length : Int)) = true := decide_eq_true c4
    clear c4
    by_cases c5 : 0 ≤ x8_1
    ·rw [if_pos c5] at H
     have c5b0 : decide (0 ≤ x8_1) = true := decide_eq_true c5
     clear c5
     by_cases c6 : x8_1 < (l0_0.length : Int)
     ·rw [if_pos c6] at H
      have c6b0 : decide (x8_1 < (l0_0.length : Int)) = true := decide_eq_true c6
      clear c6
      replace H := Option.bind_eq_some_iff.mp H
      obtain ⟨t233, A70, H⟩ := H
      have A7 := Aside0.mk A70
      clear A70
      by_cases c8 : t233 = true
      ·subst c8
       rw [if_pos rfl] at H
       by_cases c9 : x8_1 > 0
       ·rw [if_pos c9] at H
        have c9b0 : decide (0 < x8_1) = true := decide_eq_true c9
        clear c9
        obtain ⟨ji10, hji10⟩ : ∃ j_ : Int, (wrap64 (x8_1 - 1)) = j_ := ⟨_, rfl⟩
        first | rw [hji10] at H | simp only [hji10] at H
        (try rw [hji10] at A7)
        have hji10w : (IntKind.i64.wrap (x8_1 - 1)) = ji10 := (i64_w _).trans hji10
        by_cases c11 : 0 ≤ (ji10)
        ·rw [if_pos c11] at H
         have c11b0 : decide (0 ≤ (ji10)) = true := decide_eq_true c11
         clear c11
         by_cases c12 : (ji10) < (l0_0.length : Int)
         ·rw [if_pos c12] at H
          have c12b0 : decide ((ji10) < (l0_0.length : Int)) = true := decide_eq_true c12
          clear c12
          replace H := Option.bind_eq_some_iff.mp H
          obtain ⟨t235, A130, H⟩ := H
          have A13 := Aside0.mk A130
          clear A130
          by_cases c14 : t235 ≥ 0
          ·rw [if_pos c14] at H
           have c14b0 : decide (0 ≤ t235) = true := decide_eq_true c14
           clear c14
           obtain rfl := Option.some.inj H
           have p231 : 0 ≤ (x8_1 : Int) := of_decide_eq_true (by first | (with_reducible assumption) | assumption)
           have q231 : x8_1 < (l0_0.length : Int) := of_decide_eq_true (by first | (with_reducible assumption) | assumption)
           obtain ⟨ad231, e231, hx231_0, hx231_1, hx231_2⟩ := at_T43 HR0_0.out x8_1 p231 q231
           cases e231
           replace hx231_0 := (HB.out.cell (World.block_lt_of_cell? w _ hx231_0)).trans hx231_0
           replace hx231_1 := (HB.out.cell (World.block_lt_of_cell? w _ hx231_1)).trans hx231_1
           replace hx231_2 := (HB.out.cell (World.block_lt_of_cell? w _ hx231_2)).trans hx231_2
           replace p231 := eq_true p231
           replace q231 := eq_true q231
           try go_wp2_with (first | ((with_reducible refine gate_dst (N := 4) rfl ?_); refine box_event ?hg (N := 4) ?hd (cs := #[.int .i64 0, .int .i64 0, .int .i64 0]) (t := 43) ?hr ?_; (case hd => rfl); (case hg => rfl); (case hr => first | (go_simp; done) | (go_simp; rfl)); intro gb232 hg w15 hbox hb; have BK232 := Aside0.mk hbox; have GW232 := ge_ HB hg; have GE232 := ge_ HB hg; have NB230_232 := nl_ BK230 hg; have NB232_230 := ng_ BK230 hg; replace HB := Aside0.mk (bt_ HB hb); replace BK230 := Aside0.mk (bb_ BK230 hb); clear hb hbox hg; have hnb16 := NB232_230.out; have hnc16 := NB230_232.out; have hcz17_0 := cz_ BK232 0 (.int .i64 0); have hcz17_1 := cz_ BK232 1 (.int .i64 0); have hcz17_2 := cz_ BK232 2 (.int .i64 0); have hfz17_0 := blk_frozen BK232.out 0; have hfz17_1 := blk_frozen BK232.out 1; have hfz17_2 := blk_frozen BK232.out 2))
           have n0_ : Aside0 ((((w15.setCell ⟨gb232, 0, none⟩ (.int .i64 ((rd_T43 l0_0 x8_1).f0.f0))).setCell ⟨gb232, 1, none⟩ (.int .i64 ((rd_T43 l0_0 x8_1).f0.f1))).setCell ⟨gb232, 2, none⟩ (.int .i64 ((rd_T43 l0_0 x8_1).f1))).heap[gb230]? = some (.cells #[.slice (some ad231) l0_0.length c0_0] 30 (0, 0))) := ⟨by (with_reducible repeat (first | refine blk_drewN ?_ _ | refine blk_drew ?_ | refine blk_alloc ?_ _)); refine blk_far ?_ NB230_232.out _; (with_reducible repeat (first | refine blk_drewN ?_ _ | refine blk_drew ?_ | refine blk_alloc ?_ _)); refine blk_far ?_ NB230_232.out _; (with_reducible repeat (first | refine blk_drewN ?_ _ | refine blk_drew ?_ | refine blk_alloc ?_ _)); refine blk_far ?_ NB230_232.out _; (with_reducible repeat (first | refine blk_drewN ?_ _ | refine blk_drew ?_ | refine blk_alloc ?_ _)); exact BK230.out⟩
           have n1_ : Aside0 ((((w15.setCell ⟨gb232, 0, none⟩ (.int .i64 ((rd_T43 l0_0 x8_1).f0.f0))).setCell ⟨gb232, 1, none⟩ (.int .i64 ((rd_T43 l0_0 x8_1).f0.f1))).setCell ⟨gb232, 2, none⟩ (.int .i64 ((rd_T43 l0_0 x8_1).f1))).heap[gb232]? = some (.cells #[.int .i64 ((rd_T43 l0_0 x8_1).f0.f0), .int .i64 ((rd_T43 l0_0 x8_1).f0.f1), .int .i64 ((rd_T43 l0_0 x8_1).f1)] 43 (0, 0))) := ⟨by (with_reducible repeat (first | refine blk_drewN ?_ _ | refine blk_drew ?_ | refine blk_alloc ?_ _)); refine blk_put (cs := #[.int .i64 ((rd_T43 l0_0 x8_1).f0.f0), .int .i64 ((rd_T43 l0_0 x8_1).f0.f1), .int .i64 0]) ?_ 2 _ rfl; (with_reducible repeat (first | refine blk_drewN ?_ _ | refine blk_drew ?_ | refine blk_alloc ?_ _)); refine blk_put (cs := #[.int .i64 ((rd_T43 l0_0 x8_1).f0.f0), .int .i64 0, .int .i64 0]) ?_ 1 _ rfl; (with_reducible repeat (first | refine blk_drewN ?_ _ | refine blk_drew ?_ | refine blk_alloc ?_ _)); refine blk_put (cs := #[.int .i64 0, .int .i64 0, .int .i64 0]) ?_ 0 _ rfl; (with_reducible repeat (first | refine blk_drewN ?_ _ | refine blk_drew ?_ | refine blk_alloc ?_ _)); exact BK232.out⟩
           have n2_ : Aside0 (Below w.heap.size w (((w15.setCell ⟨gb232, 0, none⟩ (.int .i64 ((rd_T43 l0_0 x8_1).f0.f0))).setCell ⟨gb232, 1, none⟩ (.int .i64 ((rd_T43 l0_0 x8_1).f0.f1))).setCell ⟨gb232, 2, none⟩ (.int .i64 ((rd_T43 l0_0 x8_1).f1)))) := ⟨by repeat (first | (with_reducible first | exact HB.out | apply below_alloc | apply pw_below_drewN | apply below_drew1 | refine below_set ?_ GE230.out | refine below_set ?_ GE232.out) | exact HB.out)⟩
           (try clear BK230)
           (try clear BK232)
           (try clear HB)
           generalize (((w15.setCell ⟨gb232, 0, none⟩ (.int .i64 ((rd_T43 l0_0 x8_1).f0.f0))).setCell ⟨gb232, 1, none⟩ (.int .i64 ((rd_T43 l0_0 x8_1).f0.f1))).setCell ⟨gb232, 2, none⟩ (.int .i64 ((rd_T43 l0_0 x8_1).f1))) = w18 at n0_ n1_ n2_ ⊢
           have BK230 := n0_
           have BK232 := n1_
           have HB := n2_
           clear n0_ n1_ n2_
           replace BK230 := Aside0.mk (blk_drew BK230.out)
           replace BK232 := Aside0.mk (blk_drew BK232.out)
           replace HB := Aside0.mk (below_drew1 HB.out)
           have p234 : 0 ≤ ((ji10) : Int) := of_decide_eq_true (by first | (with_reducible assumption) | assumption)
           have q234 : (ji10) < (l0_0.length : Int) := of_decide_eq_true (by first | (with_reducible assumption) | assumption)
           obtain ⟨ad234, e234, hx234_0, hx234_1, hx234_2⟩ := at_T43 HR0_0.out (ji10) p234 q234
           have hw234_2 := hx234_2
           have hw234_1 := hx234_1
           have hw234_0 := hx234_0
           obtain rfl : ad231 = ad234 := (by injection e234)
           replace hx234_0 := (HB.out.cell (World.block_lt_of_cell? w _ hx234_0)).trans hx234_0
           replace hx234_1 := (HB.out.cell (World.block_lt_of_cell? w _ hx234_1)).trans hx234_1
           replace hx234_2 := (HB.out.cell (World.block_lt_of_cell? w _ hx234_2)).trans hx234_2
           replace p234 := eq_true p234
           replace q234 := eq_true q234
           refine start_ (n := 20) (S := fun w' => w'.cell? ⟨gb232, 0, none⟩ = some (.int .i64 ((rd_T43 l0_0 x8_1).f0.f0)) ∧ w'.cell? ⟨gb232, 1, none⟩ = some (.int .i64 ((rd_T43 l0_0 x8_1).f0.f1)) ∧ w'.cell? ⟨gb232, 2, none⟩ = some (.int .i64 ((rd_T43 l0_0 x8_1).f1)) ∧ w'.cell? ⟨gb230, 0, none⟩ = some (.slice (some ad231) l0_0.length c0_0) ∧ w'.cell? (ad231.add (((ji10)).toNat * 3)) = some (.int .i64 ((rd_T43 l0_0 (ji10)).f0.f0)) ∧ w'.cell? ⟨(ad231.add (((ji10)).toNat * 3)).block, (ad231.add (((ji10)).toNat * 3)).off + 1, none⟩ = some (.int .i64 ((rd_T43 l0_0 (ji10)).f0.f1)) ∧ w'.cell? ⟨(ad231.add (((ji10)).toNat * 3)).block, (ad231.add (((ji10)).toNat * 3)).off + 2, none⟩ = some (.int .i64 ((rd_T43 l0_0 (ji10)).f1))) (ds := []) ba9_0 (by kernel_rfl) rfl rfl ⟨(blk_cell BK232.out 0).trans rfl, (blk_cell BK232.out 1).trans rfl, (blk_cell BK232.out 2).trans rfl, (blk_cell BK230.out 0).trans rfl, (hc_ HB hw234_0), (hc_ HB hw234_1), (hc_ HB hw234_2)⟩ (fun hHeld => ?_); refine with_tabW impl_TableOk.tab4 impl_TableOk.bits4 (fun HT_ HW_ => ?_)
           generalize w18.drew = w19 at BK230 BK232 HB hx234_0 hx234_1 hx234_2 hHeld ⊢
           refine pt_ 0 13 ba9_1 HT_ HW_ hHeld ?_
           refine one_ (i := 1) (N := some 14) ba9_2 rfl rfl (one_of HT_.out (by kernel_rfl)) (by decide) (fun K hK => ?_)
           refine gz_ Try.func38 #[.agg #[.int .i64 ((rd_T43 l0_0 x8_1).f0.f0), .int .i64 ((rd_T43 l0_0 x8_1).f0.f1), .int .i64 ((rd_T43 l0_0 x8_1).f1)]] ?_
           with_reducible refine (impl_isRoute.calls ((rd_T43 l0_0 x8_1).f0.f0) ((rd_T43 l0_0 x8_1).f0.f1) ((rd_T43 l0_0 x8_1).f1) true _ A7.out).mono ?_
           rintro e w20 ⟨rfl, hb⟩
           refine ⟨_, rfl, ?_⟩
           replace BK230 := Aside0.mk (bb_ BK230 hb)
           replace BK232 := Aside0.mk (bb_ BK232 hb)
           replace HB := Aside0.mk (bt_ HB hb)
           (try clear hb)
           (try clear hb2)
           (try clear hk)
           (try clear hi)
           refine hK.out _ _ ⟨(blk_cell BK232.out 0).trans rfl, (blk_cell BK232.out 1).trans rfl, (blk_cell BK232.out 2).trans rfl, (blk_cell BK230.out 0).trans rfl, (hc_ HB hw234_0), (hc_ HB hw234_1), (hc_ HB hw234_2)⟩ (fun hHeld => ?_)
           clear hK K
           refine nz_ 14 ?_
           refine pz_ 2 15 ba9_3 HT_ ?_
           refine pz_ 3 16 ba9_4 HT_ ?_
           refine pz_ 4 17 ba9_5 HT_ ?_
           refine pz_ 5 18 ba9_6 HT_ ?_
           refine pz_ 6 19 ba9_7 HT_ ?_
           refine pz_ 7 20 ba9_8 HT_ ?_
           refine pz_ 9 22 ba9_9 HT_ ?_
           refine pz_ 10 23 ba9_10 HT_ ?_
           refine pz_ 14 27 ba9_11 HT_ ?_
           refine pt_ 8 21 ba9_12 HT_ HW_ hHeld ?_
           refine pz_ 11 24 ba9_13 HT_ ?_
           refine pz_ 12 25 ba9_14 HT_ ?_
           refine pt_ 13 26 ba9_15 HT_ HW_ hHeld ?_
           refine pt_ 15 28 ba9_16 HT_ HW_ hHeld ?_
           refine one_ (i := 16) (N := some 29) ba9_17 rfl rfl (one_of HT_.out (by kernel_rfl)) (by decide) (fun K hK => ?_)
           refine goes_ Try.func52 (by kernel_rfl) rfl #[.agg #[.int .i64 ((rd_T43 l0_0 (ji10)).f0.f0), .int .i64 ((rd_T43 l0_0 (ji10)).f0.f1)], .agg #[.int .i64 ((rd_T43 l0_0 x8_1).f0.f0), .int .i64 ((rd_T43 l0_0 x8_1).f0.f1)]] (by rfl) rfl rfl (by (try simp only [List.map_toArray, List.map_cons, List.map_nil]); first | done | (simp only [hji10]; rfl) | rfl | (simp only [List.length_drop, List.length_take]; rfl)) ?_
           with_reducible refine (impl_comparePrefixes.calls ((rd_T43 l0_0 (ji10)).f0.f0) ((rd_T43 l0_0 (ji10)).f0.f1) ((rd_T43 l0_0 x8_1).f0.f0) ((rd_T43 l0_0 x8_1).f0.f1) t235 _ A13.out).mono ?_
           rintro e w21 ⟨rfl, hb⟩
           refine ⟨_, rfl, ?_⟩
           replace BK230 := Aside0.mk (bb_ BK230 hb)
           replace BK232 := Aside0.mk (bb_ BK232 hb)
           replace HB := Aside0.mk (bt_ HB hb)
           (try clear hb)
           (try clear hb2)
           (try clear hk)
           (try clear hi)
           refine hK.out _ _ ⟨(blk_cell BK232.out 0).trans rfl, (blk_cell BK232.out 1).trans rfl, (blk_cell BK232.out 2).trans rfl, (blk_cell BK230.out 0).trans rfl, (hc_ HB hw234_0), (hc_ HB hw234_1), (hc_ HB hw234_2)⟩ (fun hHeld => ?_)
           clear hK K
           refine nz_ 29 ?_
           refine pz_ 17 30 ba9_18 HT_ ?_
           refine pz_ 18 31 ba9_19 HT_ ?_
           refine pz_ 19 32 ba9_20 HT_ ?_
           refine done_ (done_of HT_.out (by kernel_rfl)) ?_
           try go_wp2
           go_ret
           exact ⟨by first | rfl | (simp [errW_none, errW_some] <;> rfl) | (simp only [← hji10]; first | rfl | (simp [errW_none, errW_some] <;> rfl)) | (simp [*, errW_none, errW_some] <;> rfl), by repeat (first | (with_reducible first | exact HB.out | apply below_alloc | apply pw_below_drewN | apply below_drew1 | refine below_set ?_ GE230.out | refine below_set ?_ GE232.out) | exact HB.out)⟩
          ·rw [if_neg c14] at H
           have c14b0 : decide (0 ≤ t235) = false := decide_eq_false c14
           clear c14
           have H' := Aside0.mk H
           clear H
           have p231 : 0 ≤ (x8_1 : Int) := of_decide_eq_true (by first | (with_reducible assumption) | assumption)
           have q231 : x8_1 < (l0_0.length : Int) := of_decide_eq_true (by first | (with_reducible assumption) | assumption)
           obtain ⟨ad231, e231, hx231_0, hx231_1, hx231_2⟩ := at_T43 HR0_0.out x8_1 p231 q231
           cases e231
           replace hx231_0 := (HB.out.cell (World.block_lt_of_cell? w _ hx231_0)).trans hx231_0
           replace hx231_1 := (HB.out.cell (World.block_lt_of_cell? w _ hx231_1)).trans hx231_1
           replace hx231_2 := (HB.out.cell (World.block_lt_of_cell? w _ hx231_2)).trans hx231_2
           replace p231 := eq_true p231
           replace q231 := eq_true q231
           try go_wp2_with (first | ((with_reducible refine gate_dst (N := 4) rfl ?_); refine box_event ?hg (N := 4) ?hd (cs := #[.int .i64 0, .int .i64 0, .int .i64 0]) (t := 43) ?hr ?_; (case hd => rfl); (case hg => rfl); (case hr => first | (go_simp; done) | (go_simp; rfl)); intro gb232 hg w22 hbox hb; have BK232 := Aside0.mk hbox; have GW232 := ge_ HB hg; have GE232 := ge_ HB hg; have NB230_232 := nl_ BK230 hg; have NB232_230 := ng_ BK230 hg; replace HB := Aside0.mk (bt_ HB hb); replace BK230 := Aside0.mk (bb_ BK230 hb); clear hb hbox hg; have hnb23 := NB232_230.out; have hnc23 := NB230_232.out; have hcz24_0 := cz_ BK232 0 (.int .i64 0); have hcz24_1 := cz_ BK232 1 (.int .i64 0); have hcz24_2 := cz_ BK232 2 (.int .i64 0); have hfz24_0 := blk_frozen BK232.out 0; have hfz24_1 := blk_frozen BK232.out 1; have hfz24_2 := blk_frozen BK232.out 2))
           have n0_ : Aside0 ((((w22.setCell ⟨gb232, 0, none⟩ (.int .i64 ((rd_T43 l0_0 x8_1).f0.f0))).setCell ⟨gb232, 1, none⟩ (.int .i64 ((rd_T43 l0_0 x8_1).f0.f1))).setCell ⟨gb232, 2, none⟩ (.int .i64 ((rd_T43 l0_0 x8_1).f1))).heap[gb230]? = some (.cells #[.slice (some ad231) l0_0.length c0_0] 30 (0, 0))) := ⟨by (with_reducible repeat (first | refine blk_drewN ?_ _ | refine blk_drew ?_ | refine blk_alloc ?_ _)); refine blk_far ?_ NB230_232.out _; (with_reducible repeat (first | refine blk_drewN ?_ _ | refine blk_drew ?_ | refine blk_alloc ?_ _)); refine blk_far ?_ NB230_232.out _; (with_reducible repeat (first | refine blk_drewN ?_ _ | refine blk_drew ?_ | refine blk_alloc ?_ _)); refine blk_far ?_ NB230_232.out _; (with_reducible repeat (first | refine blk_drewN ?_ _ | refine blk_drew ?_ | refine blk_alloc ?_ _)); exact BK230.out⟩
           have n1_ : Aside0 ((((w22.setCell ⟨gb232, 0, none⟩ (.int .i64 ((rd_T43 l0_0 x8_1).f0.f0))).setCell ⟨gb232, 1, none⟩ (.int .i64 ((rd_T43 l0_0 x8_1).f0.f1))).setCell ⟨gb232, 2, none⟩ (.int .i64 ((rd_T43 l0_0 x8_1).f1))).heap[gb232]? = some (.cells #[.int .i64 ((rd_T43 l0_0 x8_1).f0.f0), .int .i64 ((rd_T43 l0_0 x8_1).f0.f1), .int .i64 ((rd_T43 l0_0 x8_1).f1)] 43 (0, 0))) := ⟨by (with_reducible repeat (first | refine blk_drewN ?_ _ | refine blk_drew ?_ | refine blk_alloc ?_ _)); refine blk_put (cs := #[.int .i64 ((rd_T43 l0_0 x8_1).f0.f0), .int .i64 ((rd_T43 l0_0 x8_1).f0.f1), .int .i64 0]) ?_ 2 _ rfl; (with_reducible repeat (first | refine blk_drewN ?_ _ | refine blk_drew ?_ | refine blk_alloc ?_ _)); refine blk_put (cs := #[.int .i64 ((rd_T43 l0_0 x8_1).f0.f0), .int .i64 0, .int .i64 0]) ?_ 1 _ rfl; (with_reducible repeat (first | refine blk_drewN ?_ _ | refine blk_drew ?_ | refine blk_alloc ?_ _)); refine blk_put (cs := #[.int .i64 0, .int .i64 0, .int .i64 0]) ?_ 0 _ rfl; (with_reducible repeat (first | refine blk_drewN ?_ _ | refine blk_drew ?_ | refine blk_alloc ?_ _)); exact BK232.out⟩
           have n2_ : Aside0 (Below w.heap.size w (((w22.setCell ⟨gb232, 0, none⟩ (.int .i64 ((rd_T43 l0_0 x8_1).f0.f0))).setCell ⟨gb232, 1, none⟩ (.int .i64 ((rd_T43 l0_0 x8_1).f0.f1))).setCell ⟨gb232, 2, none⟩ (.int .i64 ((rd_T43 l0_0 x8_1).f1)))) := ⟨by repeat (first | (with_reducible first | exact HB.out | apply below_alloc | apply pw_below_drewN | apply below_drew1 | refine below_set ?_ GE230.out | refine below_set ?_ GE232.out) | exact HB.out)⟩
           (try clear BK230)
           (try clear BK232)
           (try clear HB)
           generalize (((w22.setCell ⟨gb232, 0, none⟩ (.int .i64 ((rd_T43 l0_0 x8_1).f0.f0))).setCell ⟨gb232, 1, none⟩ (.int .i64 ((rd_T43 l0_0 x8_1).f0.f1))).setCell ⟨gb232, 2, none⟩ (.int .i64 ((rd_T43 l0_0 x8_1).f1))) = w25 at n0_ n1_ n2_ ⊢
           have BK230 := n0_
           have BK232 := n1_
           have HB := n2_
           clear n0_ n1_ n2_
           replace BK230 := Aside0.mk (blk_drew BK230.out)
           replace BK232 := Aside0.mk (blk_drew BK232.out)
           replace HB := Aside0.mk (below_drew1 HB.out)
           have p234 : 0 ≤ ((ji10) : Int) := of_decide_eq_true (by first | (with_reducible assumption) | assumption)
           have q234 : (ji10) < (l0_0.length : Int) := of_decide_eq_true (by first | (with_reducible assumption) | assumption)
           obtain ⟨ad234, e234, hx234_0, hx234_1, hx234_2⟩ := at_T43 HR0_0.out (ji10) p234 q234
           have hw234_2 := hx234_2
           have hw234_1 := hx234_1
           have hw234_0 := hx234_0
           obtain rfl : ad231 = ad234 := (by injection e234)
           replace hx234_0 := (HB.out.cell (World.block_lt_of_cell? w _ hx234_0)).trans hx234_0
           replace hx234_1 := (HB.out.cell (World.block_lt_of_cell? w _ hx234_1)).trans hx234_1
           replace hx234_2 := (HB.out.cell (World.block_lt_of_cell? w _ hx234_2)).trans hx234_2
           replace p234 := eq_true p234
           replace q234 := eq_true q234
           refine start_ (n := 20) (S := fun w' => w'.cell? ⟨gb232, 0, none⟩ = some (.int .i64 ((rd_T43 l0_0 x8_1).f0.f0)) ∧ w'.cell? ⟨gb232, 1, none⟩ = some (.int .i64 ((rd_T43 l0_0 x8_1).f0.f1)) ∧ w'.cell? ⟨gb232, 2, none⟩ = some (.int .i64 ((rd_T43 l0_0 x8_1).f1)) ∧ w'.cell? ⟨gb230, 0, none⟩ = some (.slice (some ad231) l0_0.length c0_0) ∧ w'.cell? (ad231.add (((ji10)).toNat * 3)) = some (.int .i64 ((rd_T43 l0_0 (ji10)).f0.f0)) ∧ w'.cell? ⟨(ad231.add (((ji10)).toNat * 3)).block, (ad231.add (((ji10)).toNat * 3)).off + 1, none⟩ = some (.int .i64 ((rd_T43 l0_0 (ji10)).f0.f1)) ∧ w'.cell? ⟨(ad231.add (((ji10)).toNat * 3)).block, (ad231.add (((ji10)).toNat * 3)).off + 2, none⟩ = some (.int .i64 ((rd_T43 l0_0 (ji10)).f1))) (ds := []) ba9_0 (by kernel_rfl) rfl rfl ⟨(blk_cell BK232.out 0).trans rfl, (blk_cell BK232.out 1).trans rfl, (blk_cell BK232.out 2).trans rfl, (blk_cell BK230.out 0).trans rfl, (hc_ HB hw234_0), (hc_ HB hw234_1), (hc_ HB hw234_2)⟩ (fun hHeld => ?_); refine with_tabW impl_TableOk.tab4 impl_TableOk.bits4 (fun HT_ HW_ => ?_)
           generalize w25.drew = w26 at BK230 BK232 HB hx234_0 hx234_1 hx234_2 hHeld ⊢
           refine pt_ 0 13 ba9_1 HT_ HW_ hHeld ?_
           refine one_ (i := 1) (N := some 14) ba9_2 rfl rfl (one_of HT_.out (by kernel_rfl)) (by decide) (fun K hK => ?_)
           refine gz_ Try.func38 #[.agg #[.int .i64 ((rd_T43 l0_0 x8_1).f0.f0), .int .i64 ((rd_T43 l0_0 x8_1).f0.f1), .int .i64 ((rd_T43 l0_0 x8_1).f1)]] ?_
           with_reducible refine (impl_isRoute.calls ((rd_T43 l0_0 x8_1).f0.f0) ((rd_T43 l0_0 x8_1).f0.f1) ((rd_T43 l0_0 x8_1).f1) true _ A7.out).mono ?_
           rintro e w27 ⟨rfl, hb⟩
           refine ⟨_, rfl, ?_⟩
           replace BK230 := Aside0.mk (bb_ BK230 hb)
           replace BK232 := Aside0.mk (bb_ BK232 hb)
           replace HB := Aside0.mk (bt_ HB hb)
           (try clear hb)
           (try clear hb2)
           (try clear hk)
           (try clear hi)
           refine hK.out _ _ ⟨(blk_cell BK232.out 0).trans rfl, (blk_cell BK232.out 1).trans rfl, (blk_cell BK232.out 2).trans rfl, (blk_cell BK230.out 0).trans rfl, (hc_ HB hw234_0), (hc_ HB hw234_1), (hc_ HB hw234_2)⟩ (fun hHeld => ?_)
           clear hK K
           refine nz_ 14 ?_
           refine pz_ 2 15 ba9_3 HT_ ?_
           refine pz_ 3 16 ba9_4 HT_ ?_
           refine pz_ 4 17 ba9_5 HT_ ?_
           refine pz_ 5 18 ba9_6 HT_ ?_
           refine pz_ 6 19 ba9_7 HT_ ?_
           refine pz_ 7 20 ba9_8 HT_ ?_
           refine pz_ 9 22 ba9_9 HT_ ?_
           refine pz_ 10 23 ba9_10 HT_ ?_
           refine pz_ 14 27 ba9_11 HT_ ?_
           refine pt_ 8 21 ba9_12 HT_ HW_ hHeld ?_
           refine pz_ 11 24 ba9_13 HT_ ?_
           refine pz_ 12 25 ba9_14 HT_ ?_
           refine pt_ 13 26 ba9_15 HT_ HW_ hHeld ?_
           refine pt_ 15 28 ba9_16 HT_ HW_ hHeld ?_
           refine one_ (i := 16) (N := some 29) ba9_17 rfl rfl (one_of HT_.out (by kernel_rfl)) (by decide) (fun K hK => ?_)
           refine goes_ Try.func52 (by kernel_rfl) rfl #[.agg #[.int .i64 ((rd_T43 l0_0 (ji10)).f0.f0), .int .i64 ((rd_T43 l0_0 (ji10)).f0.f1)], .agg #[.int .i64 ((rd_T43 l0_0 x8_1).f0.f0), .int .i64 ((rd_T43 l0_0 x8_1).f0.f1)]] (by rfl) rfl rfl (by (try simp only [List.map_toArray, List.map_cons, List.map_nil]); first | done | (simp only [hji10]; rfl) | rfl | (simp only [List.length_drop, List.length_take]; rfl)) ?_
           with_reducible refine (impl_comparePrefixes.calls ((rd_T43 l0_0 (ji10)).f0.f0) ((rd_T43 l0_0 (ji10)).f0.f1) ((rd_T43 l0_0 x8_1).f0.f0) ((rd_T43 l0_0 x8_1).f0.f1) t235 _ A13.out).mono ?_
           rintro e w28 ⟨rfl, hb⟩
           refine ⟨_, rfl, ?_⟩
           replace BK230 := Aside0.mk (bb_ BK230 hb)
           replace BK232 := Aside0.mk (bb_ BK232 hb)
           replace HB := Aside0.mk (bt_ HB hb)
           (try clear hb)
           (try clear hb2)
           (try clear hk)
           (try clear hi)
           refine hK.out _ _ ⟨(blk_cell BK232.out 0).trans rfl, (blk_cell BK232.out 1).trans rfl, (blk_cell BK232.out 2).trans rfl, (blk_cell BK230.out 0).trans rfl, (hc_ HB hw234_0), (hc_ HB hw234_1), (hc_ HB hw234_2)⟩ (fun hHeld => ?_)
           clear hK K
           refine nz_ 29 ?_
           refine pz_ 17 30 ba9_18 HT_ ?_
           refine pz_ 18 31 ba9_19 HT_ ?_
           refine pz_ 19 32 ba9_20 HT_ ?_
           refine done_ (done_of HT_.out (by kernel_rfl)) ?_
           try go_wp2
           go_roundg k1
           case measure => have := HK1.out; omega
           case rel => exact ⟨(wrap64 (x8_1 + 1)), (by first | rfl | (simp; done) | (simp [*]; done)), H', ⟨by have := HK1.out; omega⟩, ⟨by (with_reducible repeat (first | refine blk_drewN ?_ _ | refine blk_drew ?_ | refine blk_alloc ?_ _)); exact BK230.out⟩, ⟨by repeat (first | (with_reducible first | exact HB.out | apply below_alloc | apply pw_below_drewN | apply below_drew1 | refine below_set ?_ GE230.out | refine below_set ?_ GE232.out) | exact HB.out)⟩⟩
         ·rw [if_neg c12] at H
          exact absurd H (by simp)
        ·rw [if_neg c11] at H
         exact absurd H (by simp)
       ·rw [if_neg c9] at H
        have c9b0 : decide (0 < x8_1) = false := decide_eq_false c9
        clear c9
        have H' := Aside0.mk H
        clear H
        have p231 : 0 ≤ (x8_1 : Int) := of_decide_eq_true (by first | (with_reducible assumption) | assumption)
        have q231 : x8_1 < (l0_0.length : Int) := of_decide_eq_true (by first | (with_reducible assumption) | assumption)
        obtain ⟨ad231, e231, hx231_0, hx231_1, hx231_2⟩ := at_T43 HR0_0.out x8_1 p231 q231
        cases e231
        replace hx231_0 := (HB.out.cell (World.block_lt_of_cell? w _ hx231_0)).trans hx231_0
        replace hx231_1 := (HB.out.cell (World.block_lt_of_cell? w _ hx231_1)).trans hx231_1
        replace hx231_2 := (HB.out.cell (World.block_lt_of_cell? w _ hx231_2)).trans hx231_2
        replace p231 := eq_true p231
        replace q231 := eq_true q231
        try go_wp2_with (first | ((with_reducible refine gate_dst (N := 4) rfl ?_); refine box_event ?hg (N := 4) ?hd (cs := #[.int .i64 0, .int .i64 0, .int .i64 0]) (t := 43) ?hr ?_; (case hd => rfl); (case hg => rfl); (case hr => first | (go_simp; done) | (go_simp; rfl)); intro gb232 hg w29 hbox hb; have BK232 := Aside0.mk hbox; have GW232 := ge_ HB hg; have GE232 := ge_ HB hg; have NB230_232 := nl_ BK230 hg; have NB232_230 := ng_ BK230 hg; replace HB := Aside0.mk (bt_ HB hb); replace BK230 := Aside0.mk (bb_ BK230 hb); clear hb hbox hg; have hnb30 := NB232_230.out; have hnc30 := NB230_232.out; have hcz31_0 := cz_ BK232 0 (.int .i64 0); have hcz31_1 := cz_ BK232 1 (.int .i64 0); have hcz31_2 := cz_ BK232 2 (.int .i64 0); have hfz31_0 := blk_frozen BK232.out 0; have hfz31_1 := blk_frozen BK232.out 1; have hfz31_2 := blk_frozen BK232.out 2))
        have n0_ : Aside0 ((((w29.setCell ⟨gb232, 0, none⟩ (.int .i64 ((rd_T43 l0_0 x8_1).f0.f0))).setCell ⟨gb232, 1, none⟩ (.int .i64 ((rd_T43 l0_0 x8_1).f0.f1))).setCell ⟨gb232, 2, none⟩ (.int .i64 ((rd_T43 l0_0 x8_1).f1))).heap[gb230]? = some (.cells #[.slice (some ad231) l0_0.length c0_0] 30 (0, 0))) := ⟨by (with_reducible repeat (first | refine blk_drewN ?_ _ | refine blk_drew ?_ | refine blk_alloc ?_ _)); refine blk_far ?_ NB230_232.out _; (with_reducible repeat (first | refine blk_drewN ?_ _ | refine blk_drew ?_ | refine blk_alloc ?_ _)); refine blk_far ?_ NB230_232.out _; (with_reducible repeat (first | refine blk_drewN ?_ _ | refine blk_drew ?_ | refine blk_alloc ?_ _)); refine blk_far ?_ NB230_232.out _; (with_reducible repeat (first | refine blk_drewN ?_ _ | refine blk_drew ?_ | refine blk_alloc ?_ _)); exact BK230.out⟩
        have n1_ : Aside0 ((((w29.setCell ⟨gb232, 0, none⟩ (.int .i64 ((rd_T43 l0_0 x8_1).f0.f0))).setCell ⟨gb232, 1, none⟩ (.int .i64 ((rd_T43 l0_0 x8_1).f0.f1))).setCell ⟨gb232, 2, none⟩ (.int .i64 ((rd_T43 l0_0 x8_1).f1))).heap[gb232]? = some (.cells #[.int .i64 ((rd_T43 l0_0 x8_1).f0.f0), .int .i64 ((rd_T43 l0_0 x8_1).f0.f1), .int .i64 ((rd_T43 l0_0 x8_1).f1)] 43 (0, 0))) := ⟨by (with_reducible repeat (first | refine blk_drewN ?_ _ | refine blk_drew ?_ | refine blk_alloc ?_ _)); refine blk_put (cs := #[.int .i64 ((rd_T43 l0_0 x8_1).f0.f0), .int .i64 ((rd_T43 l0_0 x8_1).f0.f1), .int .i64 0]) ?_ 2 _ rfl; (with_reducible repeat (first | refine blk_drewN ?_ _ | refine blk_drew ?_ | refine blk_alloc ?_ _)); refine blk_put (cs := #[.int .i64 ((rd_T43 l0_0 x8_1).f0.f0), .int .i64 0, .int .i64 0]) ?_ 1 _ rfl; (with_reducible repeat (first | refine blk_drewN ?_ _ | refine blk_drew ?_ | refine blk_alloc ?_ _)); refine blk_put (cs := #[.int .i64 0, .int .i64 0, .int .i64 0]) ?_ 0 _ rfl; (with_reducible repeat (first | refine blk_drewN ?_ _ | refine blk_drew ?_ | refine blk_alloc ?_ _)); exact BK232.out⟩
        have n2_ : Aside0 (Below w.heap.size w (((w29.setCell ⟨gb232, 0, none⟩ (.int .i64 ((rd_T43 l0_0 x8_1).f0.f0))).setCell ⟨gb232, 1, none⟩ (.int .i64 ((rd_T43 l0_0 x8_1).f0.f1))).setCell ⟨gb232, 2, none⟩ (.int .i64 ((rd_T43 l0_0 x8_1).f1)))) := ⟨by repeat (first | (with_reducible first | exact HB.out | apply below_alloc | apply pw_below_drewN | apply below_drew1 | refine below_set ?_ GE230.out | refine below_set ?_ GE232.out) | exact HB.out)⟩
        (try clear BK230)
        (try clear BK232)
        (try clear HB)
        generalize (((w29.setCell ⟨gb232, 0, none⟩ (.int .i64 ((rd_T43 l0_0 x8_1).f0.f0))).setCell ⟨gb232, 1, none⟩ (.int .i64 ((rd_T43 l0_0 x8_1).f0.f1))).setCell ⟨gb232, 2, none⟩ (.int .i64 ((rd_T43 l0_0 x8_1).f1))) = w32 at n0_ n1_ n2_ ⊢
        have BK230 := n0_
        have BK232 := n1_
        have HB := n2_
        clear n0_ n1_ n2_
        replace BK230 := Aside0.mk (blk_drew BK230.out)
        replace BK232 := Aside0.mk (blk_drew BK232.out)
        replace HB := Aside0.mk (below_drew1 HB.out)
        refine start_ (n := 20) (S := fun w' => w'.cell? ⟨gb232, 0, none⟩ = some (.int .i64 ((rd_T43 l0_0 x8_1).f0.f0)) ∧ w'.cell? ⟨gb232, 1, none⟩ = some (.int .i64 ((rd_T43 l0_0 x8_1).f0.f1)) ∧ w'.cell? ⟨gb232, 2, none⟩ = some (.int .i64 ((rd_T43 l0_0 x8_1).f1))) (ds := []) ba9_0 (by kernel_rfl) rfl rfl ⟨(blk_cell BK232.out 0).trans rfl, (blk_cell BK232.out 1).trans rfl, (blk_cell BK232.out 2).trans rfl⟩ (fun hHeld => ?_); refine with_tabW impl_TableOk.tab4 impl_TableOk.bits4 (fun HT_ HW_ => ?_)
        generalize w32.drew = w33 at BK230 BK232 HB hHeld ⊢
        refine pt_ 0 13 ba9_1 HT_ HW_ hHeld ?_
        refine one_ (i := 1) (N := some 14) ba9_2 rfl rfl (one_of HT_.out (by kernel_rfl)) (by decide) (fun K hK => ?_)
        refine gz_ Try.func38 #[.agg #[.int .i64 ((rd_T43 l0_0 x8_1).f0.f0), .int .i64 ((rd_T43 l0_0 x8_1).f0.f1), .int .i64 ((rd_T43 l0_0 x8_1).f1)]] ?_
        with_reducible refine (impl_isRoute.calls ((rd_T43 l0_0 x8_1).f0.f0) ((rd_T43 l0_0 x8_1).f0.f1) ((rd_T43 l0_0 x8_1).f1) true _ A7.out).mono ?_
        rintro e w34 ⟨rfl, hb⟩
        refine ⟨_, rfl, ?_⟩
        replace BK230 := Aside0.mk (bb_ BK230 hb)
        replace BK232 := Aside0.mk (bb_ BK232 hb)
        replace HB := Aside0.mk (bt_ HB hb)
        (try clear hb)
        (try clear hb2)
        (try clear hk)
        (try clear hi)
        refine hK.out _ _ ⟨(blk_cell BK232.out 0).trans rfl, (blk_cell BK232.out 1).trans rfl, (blk_cell BK232.out 2).trans rfl⟩ (fun hHeld => ?_)
        clear hK K
        refine nz_ 14 ?_
        refine pz_ 2 15 ba9_3 HT_ ?_
        refine pz_ 3 16 ba9_4 HT_ ?_
        refine pz_ 4 17 ba9_5 HT_ ?_
        refine pz_ 5 18 ba9_6 HT_ ?_
        refine pz_ 6 19 ba9_7 HT_ ?_
        refine pu_ 7 20 ba9_8 HT_ ?_
        refine pu_ 8 21 ba9_21 HT_ ?_
        refine pu_ 9 22 ba9_22 HT_ ?_
        refine pu_ 10 23 ba9_23 HT_ ?_
        refine pu_ 11 24 ba9_24 HT_ ?_
        refine pu_ 12 25 ba9_25 HT_ ?_
        refine pu_ 13 26 ba9_26 HT_ ?_
        refine pu_ 14 27 ba9_15 HT_ ?_
        refine pu_ 15 28 ba9_16 HT_ ?_
        refine pu_ 16 29 ba9_17 HT_ ?_
        refine pu_ 17 30 ba9_18 HT_ ?_
        refine pz_ 18 31 ba9_19 HT_ ?_
        refine pz_ 19 32 ba9_20 HT_ ?_
        refine done_ (done_of HT_.out (by kernel_rfl)) ?_
        try go_wp2
        go_roundg k1
        case measure => have := HK1.out; omega
        case rel => exact ⟨(wrap64 (x8_1 + 1)), (by first | rfl | (simp; done) | (simp [*]; done)), H', ⟨by have := HK1.out; omega⟩, ⟨by (with_reducible repeat (first | refine blk_drewN ?_ _ | refine blk_drew ?_ | refine blk_alloc ?_ _)); exact BK230.out⟩, ⟨by repeat (first | (with_reducible first | exact HB.out | apply below_alloc | apply pw_below_drewN | apply below_drew1 | refine below_set ?_ GE230.out | refine below_set ?_ GE232.out) | exact HB.out)⟩⟩
      ·replace c8 := Bool.eq_false_iff.mpr c8
       subst c8
       rw [if_neg (show ¬ (false = true) by decide)] at H
       obtain rfl := Option.some.inj H
       have p231 : 0 ≤ (x8_1 : Int) := of_decide_eq_true (by first | (with_reducible assumption) | assumption)
       have q231 : x8_1 < (l0_0.length : Int) := of_decide_eq_true (by first | (with_reducible assumption) | assumption)
       obtain ⟨ad231, e231, hx231_0, hx231_1, hx231_2⟩ := at_T43 HR0_0.out x8_1 p231 q231
       cases e231
       replace hx231_0 := (HB.out.cell (World.block_lt_of_cell? w _ hx231_0)).trans hx231_0
       replace hx231_1 := (HB.out.cell (World.block_lt_of_cell? w _ hx231_1)).trans hx231_1
       replace hx231_2 := (HB.out.cell (World.block_lt_of_cell? w _ hx231_2)).trans hx231_2
       replace p231 := eq_true p231
       replace q231 := eq_true q231
       try go_wp2_with (first | ((with_reducible refine gate_dst (N := 4) rfl ?_); refine box_event ?hg (N := 4) ?hd (cs := #[.int .i64 0, .int .i64 0, .int .i64 0]) (t := 43) ?hr ?_; (case hd => rfl); (case hg => rfl); (case hr => first | (go_simp; done) | (go_simp; rfl)); intro gb232 hg w35 hbox hb; have BK232 := Aside0.mk hbox; have GW232 := ge_ HB hg; have GE232 := ge_ HB hg; have NB230_232 := nl_ BK230 hg; have NB232_230 := ng_ BK230 hg; replace HB := Aside0.mk (bt_ HB hb); replace BK230 := Aside0.mk (bb_ BK230 hb); clear hb hbox hg; have hnb36 := NB232_230.out; have hnc36 := NB230_232.out; have hcz37_0 := cz_ BK232 0 (.int .i64 0); have hcz37_1 := cz_ BK232 1 (.int .i64 0); have hcz37_2 := cz_ BK232 2 (.int .i64 0); have hfz37_0 := blk_frozen BK232.out 0; have hfz37_1 := blk_frozen BK232.out 1; have hfz37_2 := blk_frozen BK232.out 2))
       have n0_ : Aside0 ((((w35.setCell ⟨gb232, 0, none⟩ (.int .i64 ((rd_T43 l0_0 x8_1).f0.f0))).setCell ⟨gb232, 1, none⟩ (.int .i64 ((rd_T43 l0_0 x8_1).f0.f1))).setCell ⟨gb232, 2, none⟩ (.int .i64 ((rd_T43 l0_0 x8_1).f1))).heap[gb230]? = some (.cells #[.slice (some ad231) l0_0.length c0_0] 30 (0, 0))) := ⟨by (with_reducible repeat (first | refine blk_drewN ?_ _ | refine blk_drew ?_ | refine blk_alloc ?_ _)); refine blk_far ?_ NB230_232.out _; (with_reducible repeat (first | refine blk_drewN ?_ _ | refine blk_drew ?_ | refine blk_alloc ?_ _)); refine blk_far ?_ NB230_232.out _; (with_reducible repeat (first | refine blk_drewN ?_ _ | refine blk_drew ?_ | refine blk_alloc ?_ _)); refine blk_far ?_ NB230_232.out _; (with_reducible repeat (first | refine blk_drewN ?_ _ | refine blk_drew ?_ | refine blk_alloc ?_ _)); exact BK230.out⟩
       have n1_ : Aside0 ((((w35.setCell ⟨gb232, 0, none⟩ (.int .i64 ((rd_T43 l0_0 x8_1).f0.f0))).setCell ⟨gb232, 1, none⟩ (.int .i64 ((rd_T43 l0_0 x8_1).f0.f1))).setCell ⟨gb232, 2, none⟩ (.int .i64 ((rd_T43 l0_0 x8_1).f1))).heap[gb232]? = some (.cells #[.int .i64 ((rd_T43 l0_0 x8_1).f0.f0), .int .i64 ((rd_T43 l0_0 x8_1).f0.f1), .int .i64 ((rd_T43 l0_0 x8_1).f1)] 43 (0, 0))) := ⟨by (with_reducible repeat (first | refine blk_drewN ?_ _ | refine blk_drew ?_ | refine blk_alloc ?_ _)); refine blk_put (cs := #[.int .i64 ((rd_T43 l0_0 x8_1).f0.f0), .int .i64 ((rd_T43 l0_0 x8_1).f0.f1), .int .i64 0]) ?_ 2 _ rfl; (with_reducible repeat (first | refine blk_drewN ?_ _ | refine blk_drew ?_ | refine blk_alloc ?_ _)); refine blk_put (cs := #[.int .i64 ((rd_T43 l0_0 x8_1).f0.f0), .int .i64 0, .int .i64 0]) ?_ 1 _ rfl; (with_reducible repeat (first | refine blk_drewN ?_ _ | refine blk_drew ?_ | refine blk_alloc ?_ _)); refine blk_put (cs := #[.int .i64 0, .int .i64 0, .int .i64 0]) ?_ 0 _ rfl; (with_reducible repeat (first | refine blk_drewN ?_ _ | refine blk_drew ?_ | refine blk_alloc ?_ _)); exact BK232.out⟩
       have n2_ : Aside0 (Below w.heap.size w (((w35.setCell ⟨gb232, 0, none⟩ (.int .i64 ((rd_T43 l0_0 x8_1).f0.f0))).setCell ⟨gb232, 1, none⟩ (.int .i64 ((rd_T43 l0_0 x8_1).f0.f1))).setCell ⟨gb232, 2, none⟩ (.int .i64 ((rd_T43 l0_0 x8_1).f1)))) := ⟨by repeat (first | (with_reducible first | exact HB.out | apply below_alloc | apply pw_below_drewN | apply below_drew1 | refine below_set ?_ GE230.out | refine below_set ?_ GE232.out) | exact HB.out)⟩
       (try clear BK230)
       (try clear BK232)
       (try clear HB)
       generalize (((w35.setCell ⟨gb232, 0, none⟩ (.int .i64 ((rd_T43 l0_0 x8_1).f0.f0))).setCell ⟨gb232, 1, none⟩ (.int .i64 ((rd_T43 l0_0 x8_1).f0.f1))).setCell ⟨gb232, 2, none⟩ (.int .i64 ((rd_T43 l0_0 x8_1).f1))) = w38 at n0_ n1_ n2_ ⊢
       have BK230 := n0_
       have BK232 := n1_
       have HB := n2_
       clear n0_ n1_ n2_
       replace BK230 := Aside0.mk (blk_drew BK230.out)
       replace BK232 := Aside0.mk (blk_drew BK232.out)
       replace HB := Aside0.mk (below_drew1 HB.out)
       refine start_ (n := 20) (S := fun w' => w'.cell? ⟨gb232, 0, none⟩ = some (.int .i64 ((rd_T43 l0_0 x8_1).f0.f0)) ∧ w'.cell? ⟨gb232, 1, none⟩ = some (.int .i64 ((rd_T43 l0_0 x8_1).f0.f1)) ∧ w'.cell? ⟨gb232, 2, none⟩ = some (.int .i64 ((rd_T43 l0_0 x8_1).f1))) (ds := []) ba9_0 (by kernel_rfl) rfl rfl ⟨(blk_cell BK232.out 0).trans rfl, (blk_cell BK232.out 1).trans rfl, (blk_cell BK232.out 2).trans rfl⟩ (fun hHeld => ?_); refine with_tabW impl_TableOk.tab4 impl_TableOk.bits4 (fun HT_ HW_ => ?_)
       generalize w38.drew = w39 at BK230 BK232 HB hHeld ⊢
       refine pt_ 0 13 ba9_1 HT_ HW_ hHeld ?_
       refine one_ (i := 1) (N := some 14) ba9_2 rfl rfl (one_of HT_.out (by kernel_rfl)) (by decide) (fun K hK => ?_)
       refine gz_ Try.func38 #[.agg #[.int .i64 ((rd_T43 l0_0 x8_1).f0.f0), .int .i64 ((rd_T43 l0_0 x8_1).f0.f1), .int .i64 ((rd_T43 l0_0 x8_1).f1)]] ?_
       with_reducible refine (impl_isRoute.calls ((rd_T43 l0_0 x8_1).f0.f0) ((rd_T43 l0_0 x8_1).f0.f1) ((rd_T43 l0_0 x8_1).f1) false _ A7.out).mono ?_
       rintro e w40 ⟨rfl, hb⟩
       refine ⟨_, rfl, ?_⟩
       replace BK230 := Aside0.mk (bb_ BK230 hb)
       replace BK232 := Aside0.mk (bb_ BK232 hb)
       replace HB := Aside0.mk (bt_ HB hb)
       (try clear hb)
       (try clear hb2)
       (try clear hk)
       (try clear hi)
       refine hK.out _ _ ⟨(blk_cell BK232.out 0).trans rfl, (blk_cell BK232.out 1).trans rfl, (blk_cell BK232.out 2).trans rfl⟩ (fun hHeld => ?_)
       clear hK K
       refine nz_ 14 ?_
       refine pz_ 2 15 ba9_3 HT_ ?_
       refine pz_ 3 16 ba9_4 HT_ ?_
       refine pu_ 4 17 ba9_5 HT_ ?_
       refine pu_ 5 18 ba9_6 HT_ ?_
       refine pu_ 6 19 ba9_7 HT_ ?_
       refine pu_ 7 20 ba9_8 HT_ ?_
       refine pu_ 8 21 ba9_21 HT_ ?_
       refine pu_ 9 22 ba9_22 HT_ ?_
       refine pu_ 10 23 ba9_23 HT_ ?_
       refine pu_ 11 24 ba9_24 HT_ ?_
       refine pu_ 12 25 ba9_25 HT_ ?_
       refine pu_ 13 26 ba9_26 HT_ ?_
       refine pu_ 14 27 ba9_15 HT_ ?_
       refine pu_ 15 28 ba9_16 HT_ ?_
       refine pu_ 16 29 ba9_17 HT_ ?_
       refine pu_ 17 30 ba9_18 HT_ ?_
       refine pu_ 18 31 ba9_19 HT_ ?_
       refine pz_ 19 32 ba9_20 HT_ ?_
       refine done_ (done_of HT_.out (by kernel_rfl)) ?_
       try go_wp2
       go_ret
       exact ⟨by first | rfl | (simp [errW_none, errW_some] <;> rfl) | (simp [*, errW_none, errW_some] <;> rfl), by repeat (first | (with_reducible first | exact HB.out | apply below_alloc | apply pw_below_drewN | apply below_drew1 | refine below_set ?_ GE230.out | refine below_set ?_ GE232.out) | exact HB.out)⟩
     ·rw [if_neg c6] at H
      exact absurd H (by simp)
    ·rw [if_neg c5] at H
     exact absurd H (by simp)
   ·rw [if_neg c4] at H
    have c4b0 : decide (x8_1 < (l0_0.length : Int)) = false := decide_eq_false c4
    clear c4
    obtain rfl := Option.some.inj H
    have hcz41_0 := cz_ BK230 0 (.slice A0_0 l0_0.length c0_0)
    have hfz41_0 := blk_frozen BK230.out 0
    go_wp2
    go_ret
    exact ⟨by first | rfl | (simp [errW_none, errW_some] <;> rfl) | (simp [*, errW_none, errW_some] <;> rfl), by repeat (first | (with_reducible first | exact HB.out | apply below_alloc | apply pw_below_drewN | apply below_drew1 | refine below_set ?_ GE230.out) | exact HB.out)⟩

end Go.Proofs.Ytflfbaofgfandaa.QFnExactPutRoute
