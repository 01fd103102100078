/- Contracts of functions that the law reaches: what each call returns and what it leaves in memory. Made by this session over the print of the kit. -/
import Derived.Test.YtiikcfaodkiakaaQFnExactDbOkx0
import Derived.Test.YtiikcfaodkiakaaQFnExactDbOkx2
namespace Go.Proofs.Ytiikcfaodkiakaa.QFnExactDbOk
open Go.RowKit Go.Proofs.YtiikcfaodkiakaaV.PrintWords Go.Proofs.YtiikcfaodkiakaaV.PrintLast Go.Proofs.YtiikcfaodkiakaaV.PrintMore
attribute [local go_sem] max2_int min2_int max_two min_two max_three min_three max_four min_four   -- for this text's walks alone
set_option linter.unusedVariables false
set_option linter.unusedSimpArgs false
def ba3_0 : Array Bool := #[false, false, false, false, false, false, false, false, false, false, false, false, false, false, false, false, false, false, false, false, false, false, false, false, false, false, false]
def ba3_1 : Array Bool := #[true, false, false, false, false, false, false, false, false, false, false, false, false, false, false, false, false, false, false, false, false, false, false, false, false, false, false]
def ba3_2 : Array Bool := #[true, false, true, false, false, false, false, false, false, false, false, false, false, false, false, false, false, false, false, false, false, false, false, false, false, false, false]
def ba3_3 : Array Bool := #[true, true, true, false, false, false, false, false, false, false, false, false, false, false, false, false, false, false, false, false, false, false, false, false, false, false, false]
def ba3_4 : Array Bool := #[true, true, true, true, false, false, false, false, false, false, false, false, false, false, false, false, false, false, false, false, false, false, false, false, false, false, false]
def ba3_5 : Array Bool := #[true, true, true, true, true, false, false, false, false, false, false, false, false, false, false, false, false, false, false, false, false, false, false, false, false, false, false]
def ba3_6 : Array Bool := #[true, true, true, true, true, true, false, false, false, false, false, false, false, false, false, false, false, false, false, false, false, false, false, false, false, false, false]
def ba3_7 : Array Bool := #[true, true, true, true, true, true, true, false, false, false, false, false, false, false, false, false, false, false, false, false, false, false, false, false, false, false, false]
def ba3_8 : Array Bool := #[true, true, true, true, true, true, true, true, false, false, false, false, false, false, false, false, false, false, false, false, false, false, false, false, false, false, false]
def ba3_9 : Array Bool := #[true, true, true, true, true, true, true, true, true, false, false, false, false, false, false, false, false, false, false, false, false, false, false, false, false, false, false]
def ba3_10 : Array Bool := #[true, true, true, true, true, true, true, true, true, true, false, false, false, false, false, false, false, false, false, false, false, false, false, false, false, false, false]
def ba3_11 : Array Bool := #[true, true, true, true, true, true, true, true, true, true, true, false, false, false, false, false, false, false, false, false, false, false, false, false, false, false, false]
def ba3_12 : Array Bool := #[true, true, true, true, true, true, true, true, true, true, true, true, false, false, false, false, false, false, false, false, false, false, false, false, false, false, false]
def ba3_13 : Array Bool := #[true, true, true, true, true, true, true, true, true, true, true, true, false, true, false, false, false, false, false, false, false, false, false, false, false, false, false]
def ba3_14 : Array Bool := #[true, true, true, true, true, true, true, true, true, true, true, true, false, true, true, false, false, false, false, false, false, false, false, false, false, false, false]
def ba3_15 : Array Bool := #[true, true, true, true, true, true, true, true, true, true, true, true, false, true, true, false, false, false, true, false, false, false, false, false, false, false, false]
def ba3_16 : Array Bool := #[true, true, true, true, true, true, true, true, true, true, true, true, false, true, true, false, false, false, true, false, true, false, false, false, false, false, false]
def ba3_17 : Array Bool := #[true, true, true, true, true, true, true, true, true, true, true, true, true, true, true, false, false, false, true, false, true, false, false, false, false, false, false]
def ba3_18 : Array Bool := #[true, true, true, true, true, true, true, true, true, true, true, true, true, true, true, true, false, false, true, false, true, false, false, false, false, false, false]
def ba3_19 : Array Bool := #[true, true, true, true, true, true, true, true, true, true, true, true, true, true, true, true, true, false, true, false, true, false, false, false, false, false, false]
def ba3_20 : Array Bool := #[true, true, true, true, true, true, true, true, true, true, true, true, true, true, true, true, true, true, true, false, true, false, false, false, false, false, false]
def ba3_21 : Array Bool := #[true, true, true, true, true, true, true, true, true, true, true, true, true, true, true, true, true, true, true, true, true, false, false, false, false, false, false]
def ba3_22 : Array Bool := #[true, true, true, true, true, true, true, true, true, true, true, true, true, true, true, true, true, true, true, true, true, true, false, false, false, false, false]
def ba3_23 : Array Bool := #[true, true, true, true, true, true, true, true, true, true, true, true, true, true, true, true, true, true, true, true, true, true, true, false, false, false, false]
def ba3_24 : Array Bool := #[true, true, true, true, true, true, true, true, true, true, true, true, true, true, true, true, true, true, true, true, true, true, true, true, false, false, false]
def ba3_25 : Array Bool := #[true, true, true, true, true, true, true, true, true, true, true, true, true, true, true, true, true, true, true, true, true, true, true, true, true, false, false]
def ba3_26 : Array Bool := #[true, true, true, true, true, true, true, true, true, true, true, true, true, true, true, true, true, true, true, true, true, true, true, true, true, true, false]
def ba3_27 : Array Bool := #[true, true, true, true, true, true, true, true, true, true, true, true, true, true, true, true, true, true, true, true, true, true, true, true, true, true, true]
def ba3_28 : Array Bool := #[true, true, true, true, true, true, true, true, true, true, true, true, true, false, false, false, false, false, false, false, false, false, false, false, false, false, false]
def ba3_29 : Array Bool := #[true, true, true, true, true, true, true, true, true, true, true, true, true, true, false, false, false, false, false, false, false, false, false, false, false, false, false]
def ba3_30 : Array Bool := #[true, true, true, true, true, true, true, true, true, true, true, true, true, true, true, false, false, false, false, false, false, false, false, false, false, false, false]
def ba3_31 : Array Bool := #[true, true, true, true, true, true, true, true, true, true, true, true, true, true, true, true, false, false, false, false, false, false, false, false, false, false, false]
def ba3_32 : Array Bool := #[true, true, true, true, true, true, true, true, true, true, true, true, true, true, true, true, true, false, false, false, false, false, false, false, false, false, false]
def ba3_33 : Array Bool := #[true, true, true, true, true, true, true, true, true, true, true, true, true, true, true, true, true, true, false, false, false, false, false, false, false, false, false]
def ba3_34 : Array Bool := #[true, true, true, true, true, true, true, true, true, true, true, true, true, true, true, true, true, true, true, false, false, false, false, false, false, false, false]
def ba3_35 : Array Bool := #[true, true, true, true, true, true, true, true, true, true, true, true, true, true, true, true, true, true, true, true, false, false, false, false, false, false, false]

/-! ### spec_DbOk: function 21 -/
def spec_DbOk.l0 : Nat → Int → List (S31) → Option (Bool)
 | 0, _, _ => none
 | k + 1, x3, x131000 => if x3 < (x131000.length : Int) then (if 0 ≤ x3 then ((spec_LsaOk.f k ((rd_T31 x131000 x3).f0) ((rd_T31 x131000 x3).f1) ((rd_T31 x131000 x3).f2) ((rd_T31 x131000 x3).f3) ((rd_T31 x131000 x3).f4)).bind fun t132 => (if t132 = true then (if x3 > 0 then (if 0 ≤ (wrap64 (x3 - 1)) then (if (wrap64 (x3 - 1)) < (x131000.length : Int) then (if ((rd_T31 x131000 (wrap64 (x3 - 1))).f0) ≥ ((rd_T31 x131000 x3).f0) then (some false) else (spec_DbOk.l0 k (wrap64 (x3 + 1)) x131000)) else (none)) else (none)) else (spec_DbOk.l0 k (wrap64 (x3 + 1)) x131000)) else (some false))) else (none)) else (some true)
def spec_DbOk.f (k : Nat) (l0_0 : List (S31)) : Option (Bool) := if (l0_0.length : Int) > 10 then (some false) else (spec_DbOk.l0 k 0 l0_0)
theorem spec_DbOk.mono_l : ∀ k, (∀ y0 y1, LeO (spec_DbOk.l0 k y0 y1) (spec_DbOk.l0 (k + 1) y0 y1))
 | 0 => fun _ _ r h => by simp [spec_DbOk.l0] at h
 | k + 1 => by
  have ih0 := spec_DbOk.mono_l k
  ·intro y0 y1
   unfold spec_DbOk.l0
   repeat' first
   | (with_reducible exact ih0 _ _)
   | (with_reducible exact spec_LsaOk.mono _ _ _ _ _ _)
   | (with_reducible exact LeO.refl _)
   | (with_reducible exact LeO.none _)
   | (with_reducible refine LeO.ite ?_ ?_)
   | (with_reducible refine LeO.bind ?_ (fun _ => ?_))
   | exact ih0 _ _
   | exact spec_LsaOk.mono _ _ _ _ _ _
   | exact LeO.none _
   | refine LeO.ite ?_ ?_
   | refine LeO.bind ?_ (fun _ => ?_)
theorem spec_DbOk.mono : ∀ a0 k, LeO (spec_DbOk.f k a0) (spec_DbOk.f (k + 1) a0) := by
 intro a0 k
 have ih0 := spec_DbOk.mono_l k
 unfold spec_DbOk.f
 repeat' first
   | (with_reducible exact ih0 _ _)
   | (with_reducible exact spec_LsaOk.mono _ _ _ _ _ _)
   | (with_reducible exact LeO.refl _)
   | (with_reducible exact LeO.none _)
   | (with_reducible refine LeO.ite ?_ ?_)
   | (with_reducible refine LeO.bind ?_ (fun _ => ?_))
   | exact ih0 _ _
   | exact spec_LsaOk.mono _ _ _ _ _ _
   | exact LeO.none _
   | refine LeO.ite ?_ ?_
   | refine LeO.bind ?_ (fun _ => ?_)
def spec_DbOk.T6 : Bool × List (List Nat × List Nat) := (true, [([], []), ([0], [0]), ([], []), ([1, 2], [1, 2]), ([3], [3]), ([4], [4]), ([5], [5]), ([6, 5], [6]), ([7], [7]), ([8, 7], [7, 8]), ([9, 7, 7], [7, 9]), ([10], [10]), ([11, 10], [10, 11]), ([10], [10]), ([13, 10], [10, 13]), ([12, 14, 10], [10, 12, 14]), ([15, 10], [10, 15]), ([16, 10], [10, 16]), ([10], [10]), ([18, 10], [10, 18]), ([10], [10]), ([19, 20, 10], [10, 19, 20]), ([21, 10], [10, 21]), ([22, 10], [10, 22]), ([17, 23, 10], [10, 17, 23]), ([10, 24, 7], [7, 10, 24]), ([7, 25], [7, 25])])
def spec_DbOk.B6 : List Nat := [0, 1, 0, 7, 15, 31, 63, 127, 255, 511, 1023, 2047, 4095, 2047, 10239, 32767, 65535, 131071, 2047, 264191, 2047, 1837055, 3934207, 8128511, 16777215, 33554431, 67108863]
theorem spec_DbOk.tab6 : rtab .any (opsOf Try.f21 6) = spec_DbOk.T6 := by kernel_rfl
theorem spec_DbOk.bits6 : waitsOk spec_DbOk.T6.2 spec_DbOk.B6 = true := by kernel_rfl
set_option maxHeartbeats 8000000 in
set_option maxRecDepth 100000 in
theorem spec_DbOk.calls (k : Nat) (A0_0 : Option Addr) (c0_0 : Nat) (l0_0 : List (S31)) (r : Bool) (w : World) (hr0_0 : Kd.C k31 w A0_0 l0_0.length l0_0) (hc0_0 : l0_0.length ≤ c0_0) (h : spec_DbOk.f k l0_0 = some r) :
  Calls Try.prog 21 #[.agg #[.slice A0_0 l0_0.length c0_0]] w fun e w' => e = .returned (.bool r) ∧ Below w.heap.size w w' := by
 have hu43 := Try.underlying43
 have hu31 := Try.underlying31
 have HR0_0 := Aside0.mk hr0_0
 have HC0_0 := Aside0.mk hc0_0
 clear hr0_0 hc0_0
 have HB := Aside0.mk (Below.refl w.heap.size w)
 have H : (if (l0_0.length : Int) > 10 then (some false) else (spec_DbOk.l0 k 0 l0_0)) = some r := h
 clear h
 by_cases c2 : (l0_0.length : Int) > 10
 ·rw [if_pos c2] at H
  have c2b0 : decide (10 < (l0_0.length : Int)) = true := decide_eq_true c2
  have c2b1 : decide (10 < l0_0.length) = true := decide_eq_true (by omega)
  clear c2
  obtain rfl := Option.some.inj H
  go_enter Try.func21, Try.ntmps21
  go_wp2_with (first | ((with_reducible refine gate_dst (N := 1) rfl ?_); refine box_event ?hg (N := 1) ?hd (cs := #[.slice A0_0 l0_0.length c0_0]) (t := 43) ?hr ?_; (case hd => rfl); (case hg => rfl); (case hr => first | (go_simp; done) | (go_simp; rfl)); intro gb130 hg w3 hbox hb; have n0_ := Aside0.mk (below_step (by repeat (first | (with_reducible first | exact HB.out | apply below_alloc | apply pw_below_drewN | apply below_drew1) | exact HB.out)) hb); have n1_ := Aside0.mk (hbox); have n2_ := Aside0.mk ((by rw [hg]; exact (below_size (by repeat (first | (with_reducible first | exact HB.out | apply below_alloc | apply pw_below_drewN | apply below_drew1) | exact HB.out))) : w.heap.size ≤ gb130)); have n3_ := Aside0.mk ((by rw [hg]; exact (below_size (by repeat (first | (with_reducible first | exact HB.out | apply below_alloc | apply pw_below_drewN | apply below_drew1) | exact HB.out))) : w.heap.size ≤ gb130)); clear HB; have HB := n0_; have BK130 := n1_; have GW130 := n2_; have GE130 := n3_; clear n0_ n1_ n2_ n3_; clear hb hbox hg; have hcz4_0 : w3.cell? ⟨gb130, 0, none⟩ = some (.slice A0_0 l0_0.length c0_0) := (blk_cell BK130.out 0).trans rfl; have hfz4_0 := blk_frozen BK130.out 0))
  go_ret
  exact ⟨by first | rfl | (simp [errW_none, errW_some] <;> rfl) | (simp [*, errW_none, errW_some] <;> rfl), by repeat (first | (with_reducible first | exact HB.out | apply below_alloc | apply pw_below_drewN | apply below_drew1 | refine below_set ?_ GE130.out) | exact HB.out)⟩
 ·rw [if_neg c2] at H
  have c2b0 : decide (10 < (l0_0.length : Int)) = false := decide_eq_false c2
  have c2b1 : decide (10 < l0_0.length) = false := decide_eq_false (by omega)
  clear c2
  have H' := Aside0.mk H
  clear H
  go_enter Try.func21, Try.ntmps21
  go_wp2_with (first | ((with_reducible refine gate_dst (N := 1) rfl ?_); refine box_event ?hg (N := 1) ?hd (cs := #[.slice A0_0 l0_0.length c0_0]) (t := 43) ?hr ?_; (case hd => rfl); (case hg => rfl); (case hr => first | (go_simp; done) | (go_simp; rfl)); intro gb130 hg w5 hbox hb; have n0_ := Aside0.mk (below_step (by repeat (first | (with_reducible first | exact HB.out | apply below_alloc | apply pw_below_drewN | apply below_drew1) | exact HB.out)) hb); have n1_ := Aside0.mk (hbox); have n2_ := Aside0.mk ((by rw [hg]; exact (below_size (by repeat (first | (with_reducible first | exact HB.out | apply below_alloc | apply pw_below_drewN | apply below_drew1) | exact HB.out))) : w.heap.size ≤ gb130)); have n3_ := Aside0.mk ((by rw [hg]; exact (below_size (by repeat (first | (with_reducible first | exact HB.out | apply below_alloc | apply pw_below_drewN | apply below_drew1) | exact HB.out))) : w.heap.size ≤ gb130)); clear HB; have HB := n0_; have BK130 := n1_; have GW130 := n2_; have GE130 := n3_; clear n0_ n1_ n2_ n3_; clear hb hbox hg; have hcz6_0 : w5.cell? ⟨gb130, 0, none⟩ = some (.slice A0_0 l0_0.length c0_0) := (blk_cell BK130.out 0).trans rfl; have hfz6_0 := blk_frozen BK130.out 0))
  go_loopg [3] k (fun kq v3 w' => ∃ (x3_1 : Int), v3 = .int .i64 x3_1 ∧ Aside0 (spec_DbOk.l0 kq x3_1 l0_0 = some r) ∧ Aside0 (kq ≤ k) ∧ Aside0 (w'.heap[gb130]? = some (.cells #[(.slice A0_0 l0_0.length c0_0)] 43 (0, 0))) ∧ Aside0 (Below w.heap.size w w'))
  case atStart => exact ⟨(0), (by first | rfl | (simp; done) | (simp [*]; done)), H', ⟨Nat.le_refl _⟩, ⟨by (with_reducible repeat (first | refine blk_drewN ?_ _ | refine blk_drew ?_ | refine blk_alloc ?_ _)); exact BK130.out⟩, ⟨by repeat (first | (with_reducible first | exact HB.out | apply below_alloc | apply pw_below_drewN | apply below_drew1 | refine below_set ?_ GE130.out) | exact HB.out)⟩⟩
  case round =>
   clear H'
   try clear c2
   try clear c2b0
   try clear c2b1
   try clear p2
   try clear hcz4_0
   try clear hcz6_0
   try clear hfz4_0
   try clear hfz6_0
   obtain ⟨x3_1, rfl, HA, HK1, BK130, HB⟩ := hrel
   cases gk with
   | zero => exact absurd HA.out (by simp [spec_DbOk.l0])
   | succ k1 =>
    have H := HA.out
    clear HA
    simp only [spec_DbOk.l0] at H
    by_cases c7 : x3_1 < (l0_0.length : Int)
    ·rw [if_pos c7] at H
     have c7b0 : decide (x3_1 < (l0_0.length : Int)) = true := decide_eq_true c7
     clear c7
     by_cases c8 : 0 ≤ x3_1
     ·rw [if_pos c8] at H
      have c8b0 : decide (0 ≤ x3_1) = true := decide_eq_true c8
      clear c8
      replace H := Option.bind_eq_some_iff.mp H
      obtain ⟨t132, A90, H⟩ := H
      have A9 := Aside0.mk A90
      clear A90
      by_cases c10 : t132 = true
      ·subst c10
       rw [if_pos rfl] at H
       by_cases c11 : x3_1 > 0
       ·rw [if_pos c11] at H
        have c11b0 : decide (0 < x3_1) = true := decide_eq_true c11
        clear c11
        obtain ⟨ji12, hji12⟩ : ∃ j_ : Int, (wrap64 (x3_1 - 1)) = j_ := ⟨_, rfl⟩
        first | rw [hji12] at H | simp only [hji12] at H
        (try rw [hji12] at A9)
        have hji12w : (IntKind.i64.wrap (x3_1 - 1)) = ji12 := (i64_w _).trans hji12
        by_cases c13 : 0 ≤ (ji12)
        ·rw [if_pos c13] at H
         have c13b0 : decide (0 ≤ (ji12)) = true := decide_eq_true c13
         clear c13
         by_cases c14 : (ji12) < (l0_0.length : Int)
         ·rw [if_pos c14] at H
          have c14b0 : decide ((ji12) < (l0_0.length : Int)) = true := decide_eq_true c14
          clear c14
          by_cases c15 : ((rd_T31 l0_0 (ji12)).f0) ≥ ((rd_T31 l0_0 x3_1).f0)
          ·rw [if_pos c15] at H
           have c15b0 : decide (((rd_T31 l0_0 x3_1).f0) ≤ ((rd_T31 l0_0 (ji12)).f0)) = true := decide_eq_true c15
           clear c15
           obtain rfl := Option.some.inj H
           have hcz16_0 : wr.cell? ⟨gb130, 0, none⟩ = some (.slice A0_0 l0_0.length c0_0) := (blk_cell BK130.out 0).trans rfl
           have hfz16_0 := blk_frozen BK130.out 0
           try go_wp2
           have n0_ := Aside0.mk (blk_drew BK130.out)
           have n1_ := Aside0.mk (below_drew1 HB.out)
           clear BK130
           clear HB
           have BK130 := n0_
           have HB := n1_
           clear n0_ n1_
           have p131 : 0 ≤ (x3_1 : Int) := of_decide_eq_true (by first | (with_reducible assumption) | assumption)
           have q131 : x3_1 < (l0_0.length : Int) := of_decide_eq_true (by first | (with_reducible assumption) | assumption)
           obtain ⟨ad131, A131_3, c131_3, A131_4, c131_4, e131, hx131_0, hx131_1, hx131_2, hx131_3, hx131_4, hl131_3, hi131_3, hl131_4, hi131_4⟩ := at_T31 HR0_0.out x3_1 p131 q131
           have hw131_4 := hx131_4
           have hw131_3 := hx131_3
           have hw131_2 := hx131_2
           have hw131_1 := hx131_1
           have hw131_0 := hx131_0
           cases e131
           replace hx131_0 := (HB.out.cell (World.block_lt_of_cell? w _ hx131_0)).trans hx131_0
           replace hx131_1 := (HB.out.cell (World.block_lt_of_cell? w _ hx131_1)).trans hx131_1
           replace hx131_2 := (HB.out.cell (World.block_lt_of_cell? w _ hx131_2)).trans hx131_2
           replace hx131_3 := (HB.out.cell (World.block_lt_of_cell? w _ hx131_3)).trans hx131_3
           replace hx131_4 := (HB.out.cell (World.block_lt_of_cell? w _ hx131_4)).trans hx131_4
           have HR131_3 := Aside0.mk hi131_3
           have HC131_3 := Aside0.mk hl131_3
           clear hi131_3 hl131_3
           have HR131_4 := Aside0.mk hi131_4
           have HC131_4 := Aside0.mk hl131_4
           clear hi131_4 hl131_4
           replace p131 := eq_true p131
           replace q131 := eq_true q131
           have p133 : 0 ≤ ((ji12) : Int) := of_decide_eq_true (by first | (with_reducible assumption) | assumption)
           have q133 : (ji12) < (l0_0.length : Int) := of_decide_eq_true (by first | (with_reducible assumption) | assumption)
           obtain ⟨ad133, A133_3, c133_3, A133_4, c133_4, e133, hx133_0, hx133_1, hx133_2, hx133_3, hx133_4, hl133_3, hi133_3, hl133_4, hi133_4⟩ := at_T31 HR0_0.out (ji12) p133 q133
           have hw133_4 := hx133_4
           have hw133_3 := hx133_3
           have hw133_2 := hx133_2
           have hw133_1 := hx133_1
           have hw133_0 := hx133_0
           obtain rfl : ad131 = ad133 := (by injection e133)
           replace hx133_0 := (HB.out.cell (World.block_lt_of_cell? w _ hx133_0)).trans hx133_0
           replace hx133_1 := (HB.out.cell (World.block_lt_of_cell? w _ hx133_1)).trans hx133_1
           replace hx133_2 := (HB.out.cell (World.block_lt_of_cell? w _ hx133_2)).trans hx133_2
           replace hx133_3 := (HB.out.cell (World.block_lt_of_cell? w _ hx133_3)).trans hx133_3
           replace hx133_4 := (HB.out.cell (World.block_lt_of_cell? w _ hx133_4)).trans hx133_4
           have HR133_3 := Aside0.mk hi133_3
           have HC133_3 := Aside0.mk hl133_3
           clear hi133_3 hl133_3
           have HR133_4 := Aside0.mk hi133_4
           have HC133_4 := Aside0.mk hl133_4
           clear hi133_4 hl133_4
           replace p133 := eq_true p133
           replace q133 := eq_true q133
           have p134 : 0 ≤ (x3_1 : Int) := of_decide_eq_true (by first | (with_reducible assumption) | assumption)
           have q134 : x3_1 < (l0_0.length : Int) := of_decide_eq_true (by first | (with_reducible assumption) | assumption)
           obtain ⟨ad134, A134_3, c134_3, A134_4, c134_4, e134, hx134_0, hx134_1, hx134_2, hx134_3, hx134_4, hl134_3, hi134_3, hl134_4, hi134_4⟩ := at_T31 HR0_0.out x3_1 p134 q134
           have hw134_4 := hx134_4
           have hw134_3 := hx134_3
           have hw134_2 := hx134_2
           have hw134_1 := hx134_1
           have hw134_0 := hx134_0
           obtain rfl : ad131 = ad134 := (by injection e134)
           replace hx134_0 := (HB.out.cell (World.block_lt_of_cell? w _ hx134_0)).trans hx134_0
           replace hx134_1 := (HB.out.cell (World.block_lt_of_cell? w _ hx134_1)).trans hx134_1
           replace hx134_2 := (HB.out.cell (World.block_lt_of_cell? w _ hx134_2)).trans hx134_2
           replace hx134_3 := (HB.out.cell (World.block_lt_of_cell? w _ hx134_3)).trans hx134_3
           replace hx134_4 := (HB.out.cell (World.block_lt_of_cell? w _ hx134_4)).trans hx134_4
           have HR134_3 := Aside0.mk hi134_3
           have HC134_3 := Aside0.mk hl134_3
           clear hi134_3 hl134_3
           have HR134_4 := Aside0.mk hi134_4
           have HC134_4 := Aside0.mk hl134_4
           clear hi134_4 hl134_4
           replace p134 := eq_true p134
           replace q134 := eq_true q134
           refine start_ (n := 27) (S := fun w' => w'.cell? ⟨gb130, 0, none⟩ = some (.slice (some ad131) l0_0.length c0_0) ∧ w'.cell? (ad131.add ((x3_1).toNat * 5)) = some (.int .i64 ((rd_T31 l0_0 x3_1).f0)) ∧ w'.cell? ⟨(ad131.add ((x3_1).toNat * 5)).block, (ad131.add ((x3_1).toNat * 5)).off + 1, none⟩ = some (.int .i64 ((rd_T31 l0_0 x3_1).f1)) ∧ w'.cell? ⟨(ad131.add ((x3_1).toNat * 5)).block, (ad131.add ((x3_1).toNat * 5)).off + 2, none⟩ = some (.int .i64 ((rd_T31 l0_0 x3_1).f2)) ∧ w'.cell? ⟨(ad131.add ((x3_1).toNat * 5)).block, (ad131.add ((x3_1).toNat * 5)).off + 3, none⟩ = some (.slice A131_3 ((rd_T31 l0_0 x3_1).f3).length c131_3) ∧ w'.cell? ⟨(ad131.add ((x3_1).toNat * 5)).block, (ad131.add ((x3_1).toNat * 5)).off + 4, none⟩ = some (.slice A131_4 ((rd_T31 l0_0 x3_1).f4).length c131_4) ∧ w'.cell? (ad131.add (((ji12)).toNat * 5)) = some (.int .i64 ((rd_T31 l0_0 (ji12)).f0)) ∧ w'.cell? ⟨(ad131.add (((ji12)).toNat * 5)).block, (ad131.add (((ji12)).toNat * 5)).off + 1, none⟩ = some (.int .i64 ((rd_T31 l0_0 (ji12)).f1)) ∧ w'.cell? ⟨(ad131.add (((ji12)).toNat * 5)).block, (ad131.add (((ji12)).toNat * 5)).off + 2, none⟩ = some (.int .i64 ((rd_T31 l0_0 (ji12)).f2)) ∧ w'.cell? ⟨(ad131.add (((ji12)).toNat * 5)).block, (ad131.add (((ji12)).toNat * 5)).off + 3, none⟩ = some (.slice A133_3 ((rd_T31 l0_0 (ji12)).f3).length c133_3) ∧ w'.cell? ⟨(ad131.add (((ji12)).toNat * 5)).block, (ad131.add (((ji12)).toNat * 5)).off + 4, none⟩ = some (.slice A133_4 ((rd_T31 l0_0 (ji12)).f4).length c133_4) ∧ w'.cell? (ad131.add ((x3_1).toNat * 5)) = some (.int .i64 ((rd_T31 l0_0 x3_1).f0)) ∧ w'.cell? ⟨(ad131.add ((x3_1).toNat * 5)).block, (ad131.add ((x3_1).toNat * 5)).off + 1, none⟩ = some (.int .i64 ((rd_T31 l0_0 x3_1).f1)) ∧ w'.cell? ⟨(ad131.add ((x3_1).toNat * 5)).block, (ad131.add ((x3_1).toNat * 5)).off + 2, none⟩ = some (.int .i64 ((rd_T31 l0_0 x3_1).f2)) ∧ w'.cell? ⟨(ad131.add ((x3_1).toNat * 5)).block, (ad131.add ((x3_1).toNat * 5)).off + 3, none⟩ = some (.slice A134_3 ((rd_T31 l0_0 x3_1).f3).length c134_3) ∧ w'.cell? ⟨(ad131.add ((x3_1).toNat * 5)).block, (ad131.add ((x3_1).toNat * 5)).off + 4, none⟩ = some (.slice A134_4 ((rd_T31 l0_0 x3_1).f4).length c134_4)) (ds := []) ba3_0 (by kernel_rfl) rfl rfl ⟨(blk_cell BK130.out 0).trans rfl, ((HB.out.cell (World.block_lt_of_cell? w _ hw131_0)).trans hw131_0), ((HB.out.cell (World.block_lt_of_cell? w _ hw131_1)).trans hw131_1), ((HB.out.cell (World.block_lt_of_cell? w _ hw131_2)).trans hw131_2), ((HB.out.cell (World.block_lt_of_cell? w _ hw131_3)).trans hw131_3), ((HB.out.cell (World.block_lt_of_cell? w _ hw131_4)).trans hw131_4), ((HB.out.cell (World.block_lt_of_cell? w _ hw133_0)).trans hw133_0), ((HB.out.cell (World.block_lt_of_cell? w _ hw133_1)).trans hw133_1), ((HB.out.cell (World.block_lt_of_cell? w _ hw133_2)).trans hw133_2), ((HB.out.cell (World.block_lt_of_cell? w _ hw133_3)).trans hw133_3), ((HB.out.cell (World.block_lt_of_cell? w _ hw133_4)).trans hw133_4), ((HB.out.cell (World.block_lt_of_cell? w _ hw134_0)).trans hw134_0), ((HB.out.cell (World.block_lt_of_cell? w _ hw134_1)).trans hw134_1), ((HB.out.cell (World.block_lt_of_cell? w _ hw134_2)).trans hw134_2), ((HB.out.cell (World.block_lt_of_cell? w _ hw134_3)).trans hw134_3), ((HB.out.cell (World.block_lt_of_cell? w _ hw134_4)).trans hw134_4)⟩ (fun hHeld => ?_); refine with_tabW spec_DbOk.tab6 spec_DbOk.bits6 (fun HT_ HW_ => ?_)
           generalize wr.drew = w17 at BK130 HB HR131_3 HR131_4 HR133_3 HR133_4 HR134_3 HR134_4 hx131_0 hx131_1 hx131_2 hx131_3 hx131_4 hx133_0 hx133_1 hx133_2 hx133_3 hx133_4 hx134_0 hx134_1 hx134_2 hx134_3 hx134_4 hHeld ⊢
           refine pz_ 0 15 ba3_1 HT_ ?_
           refine pz_ 2 17 ba3_2 HT_ ?_
           refine pt_ 1 16 ba3_3 HT_ HW_ hHeld ?_
           refine pz_ 3 18 ba3_4 HT_ ?_
           refine pt_ 4 19 ba3_5 HT_ HW_ hHeld ?_
           refine one_ (i := 5) (N := some 20) ba3_6 rfl rfl (one_of HT_.out (by kernel_rfl)) (by decide) (fun K hK => ?_)
           refine goes_ Try.func14 (by kernel_rfl) rfl #[.agg #[.int .i64 ((rd_T31 l0_0 x3_1).f0), .int .i64 ((rd_T31 l0_0 x3_1).f1), .int .i64 ((rd_T31 l0_0 x3_1).f2), .slice A131_3 ((rd_T31 l0_0 x3_1).f3).length c131_3, .slice A131_4 ((rd_T31 l0_0 x3_1).f4).length c131_4]] (by rfl) rfl rfl (by (try simp only [List.map_toArray, List.map_cons, List.map_nil]); first | done | rfl | (simp only [List.length_drop, List.length_take]; rfl)) ?_
           with_reducible refine (spec_LsaOk.calls k1 ((rd_T31 l0_0 x3_1).f0) ((rd_T31 l0_0 x3_1).f1) ((rd_T31 l0_0 x3_1).f2) _ _ ((rd_T31 l0_0 x3_1).f3) _ _ ((rd_T31 l0_0 x3_1).f4) true _ ?side1 ?side2 ?side3 ?side4 A9.out).mono ?_
           (case side1 => repeat (first | exact (Kd.C_below HR131_3.out HB.out) | (with_reducible refine Kd.C_alloc ?_ _) | (with_reducible refine Kd.C_drewN ?_ _) | (with_reducible refine Kd.C_drew ?_)))
           (case side2 => exact HC131_3.out)
           (case side3 => repeat (first | exact (Kd.C_below HR131_4.out HB.out) | (with_reducible refine Kd.C_alloc ?_ _) | (with_reducible refine Kd.C_drewN ?_ _) | (with_reducible refine Kd.C_drew ?_)))
           (case side4 => exact HC131_4.out)
           rintro e w18 ⟨rfl, hb⟩
           refine ⟨_, rfl, ?_⟩
           have n0_ := Aside0.mk (blk_below (g := gb130) (o := .cells #[.slice (some ad131) l0_0.length c0_0] 43 (0, 0)) (by (with_reducible repeat (first | refine blk_drewN ?_ _ | refine blk_drew ?_ | refine blk_alloc ?_ _)); exact BK130.out) hb)
           have n1_ := Aside0.mk (below_step (by repeat (first | (with_reducible first | exact HB.out | apply below_alloc | apply pw_below_drewN | apply below_drew1 | refine below_set ?_ GE130.out) | exact HB.out)) hb)
           clear BK130
           clear HB
           have BK130 := n0_
           have HB := n1_
           clear n0_ n1_
           (try clear hb)
           (try clear hb2)
           (try clear hk)
           (try clear hi)
           refine hK.out _ _ ⟨(blk_cell BK130.out 0).trans rfl, ((HB.out.cell (World.block_lt_of_cell? w _ hw131_0)).trans hw131_0), ((HB.out.cell (World.block_lt_of_cell? w _ hw131_1)).trans hw131_1), ((HB.out.cell (World.block_lt_of_cell? w _ hw131_2)).trans hw131_2), ((HB.out.cell (World.block_lt_of_cell? w _ hw131_3)).trans hw131_3), ((HB.out.cell (World.block_lt_of_cell? w _ hw131_4)).trans hw131_4), ((HB.out.cell (World.block_lt_of_cell? w _ hw133_0)).trans hw133_0), ((HB.out.cell (World.block_lt_of_cell? w _ hw133_1)).trans hw133_1), ((HB.out.cell (World.block_lt_of_cell? w _ hw133_2)).trans hw133_2), ((HB.out.cell (World.block_lt_of_cell? w _ hw133_3)).trans hw133_3), ((HB.out.cell (World.block_lt_of_cell? w _ hw133_4)).trans hw133_4), ((HB.out.cell (World.block_lt_of_cell? w _ hw134_0)).trans hw134_0), ((HB.out.cell (World.block_lt_of_cell? w _ hw134_1)).trans hw134_1), ((HB.out.cell (World.block_lt_of_cell? w _ hw134_2)).trans hw134_2), ((HB.out.cell (World.block_lt_of_cell? w _ hw134_3)).trans hw134_3), ((HB.out.cell (World.block_lt_of_cell? w _ hw134_4)).trans hw134_4)⟩ (fun hHeld => ?_)
           clear hK K
           refine norm_ (a' := ?_) ?_ ?_
           rotate_left; · show Act.put _ (some 20) _ = _; simp only [Act.put, List.setIfInBounds_toArray, List.set_cons_zero, List.set_cons_succ, i64_w, i32_w]; rfl
           refine pz_ 6 21 ba3_7 HT_ ?_
           refine pz_ 7 22 ba3_8 HT_ ?_
           refine pz_ 8 23 ba3_9 HT_ ?_
           refine pz_ 9 24 ba3_10 HT_ ?_
           refine pz_ 10 25 ba3_11 HT_ ?_
           refine pz_ 11 26 ba3_12 HT_ ?_
           refine pz_ 13 28 ba3_13 HT_ ?_
           refine pz_ 14 29 ba3_14 HT_ ?_
           refine pz_ 18 33 ba3_15 HT_ ?_
           refine pz_ 20 35 ba3_16 HT_ ?_
           refine pt_ 12 27 ba3_17 HT_ HW_ hHeld ?_
           refine pz_ 15 30 ba3_18 HT_ ?_
           refine pz_ 16 31 ba3_19 HT_ ?_
           refine pt_ 17 32 ba3_20 HT_ HW_ hHeld ?_
           refine pt_ 19 34 ba3_21 HT_ HW_ hHeld ?_
           refine pz_ 21 36 ba3_22 HT_ ?_
           refine pz_ 22 37 ba3_23 HT_ ?_
           refine pt_ 23 38 ba3_24 HT_ HW_ hHeld ?_
           refine pz_ 24 39 ba3_25 HT_ ?_
           refine pz_ 25 40 ba3_26 HT_ ?_
           refine pz_ 26 41 ba3_27 HT_ ?_
           refine done_ (done_of HT_.out (by kernel_rfl)) ?_
           try go_wp2
           go_ret
           exact ⟨by first | rfl | (simp [errW_none, errW_some] <;> rfl) | (simp only [← hji12]; first | rfl | (simp [errW_none, errW_some] <;> rfl)) | (simp [*, errW_none, errW_some] <;> rfl), by repeat (first | (with_reducible first | exact HB.out | apply below_alloc | apply pw_below_drewN | apply below_drew1 | refine below_set ?_ GE130.out) | exact HB.out)⟩
          ·rw [if_neg c15] at H
           have c15b0 : decide (((rd_T31 l0_0 x3_1).f0) ≤ ((rd_T31 l0_0 (ji12)).f0)) = false := decide_eq_false c15
           clear c15
           have H' := Aside0.mk H
           clear H
           have hcz19_0 : wr.cell? ⟨gb130, 0, none⟩ = some (.slice A0_0 l0_0.length c0_0) := (blk_cell BK130.out 0).trans rfl
           have hfz19_0 := blk_frozen BK130.out 0
           try go_wp2
           have n0_ := Aside0.mk (blk_drew BK130.out)
           have n1_ := Aside0.mk (below_drew1 HB.out)
           clear BK130
           clear HB
           have BK130 := n0_
           have HB := n1_
           clear n0_ n1_
           have p131 : 0 ≤ (x3_1 : Int) := of_decide_eq_true (by first | (with_reducible assumption) | assumption)
           have q131 : x3_1 < (l0_0.length : Int) := of_decide_eq_true (by first | (with_reducible assumption) | assumption)
           obtain ⟨ad131, A131_3, c131_3, A131_4, c131_4, e131, hx131_0, hx131_1, hx131_2, hx131_3, hx131_4, hl131_3, hi131_3, hl131_4, hi131_4⟩ := at_T31 HR0_0.out x3_1 p131 q131
           have hw131_4 := hx131_4
           have hw131_3 := hx131_3
           have hw131_2 := hx131_2
           have hw131_1 := hx131_1
           have hw131_0 := hx131_0
           cases e131
           replace hx131_0 := (HB.out.cell (World.block_lt_of_cell? w _ hx131_0)).trans hx131_0
           replace hx131_1 := (HB.out.cell (World.block_lt_of_cell? w _ hx131_1)).trans hx131_1
           replace hx131_2 := (HB.out.cell (World.block_lt_of_cell? w _ hx131_2)).trans hx131_2
           replace hx131_3 := (HB.out.cell (World.block_lt_of_cell? w _ hx131_3)).trans hx131_3
           replace hx131_4 := (HB.out.cell (World.block_lt_of_cell? w _ hx131_4)).trans hx131_4
           have HR131_3 := Aside0.mk hi131_3
           have HC131_3 := Aside0.mk hl131_3
           clear hi131_3 hl131_3
           have HR131_4 := Aside0.mk hi131_4
           have HC131_4 := Aside0.mk hl131_4
           clear hi131_4 hl131_4
           replace p131 := eq_true p131
           replace q131 := eq_true q131
           have p133 : 0 ≤ ((ji12) : Int) := of_decide_eq_true (by first | (with_reducible assumption) | assumption)
           have q133 : (ji12) < (l0_0.length : Int) := of_decide_eq_true (by first | (with_reducible assumption) | assumption)
           obtain ⟨ad133, A133_3, c133_3, A133_4, c133_4, e133, hx133_0, hx133_1, hx133_2, hx133_3, hx133_4, hl133_3, hi133_3, hl133_4, hi133_4⟩ := at_T31 HR0_0.out (ji12) p133 q133
           have hw133_4 := hx133_4
           have hw133_3 := hx133_3
           have hw133_2 := hx133_2
           have hw133_1 := hx133_1
           have hw133_0 := hx133_0
           obtain rfl : ad131 = ad133 := (by injection e133)
           replace hx133_0 := (HB.out.cell (World.block_lt_of_cell? w _ hx133_0)).trans hx133_0
           replace hx133_1 := (HB.out.cell (World.block_lt_of_cell? w _ hx133_1)).trans hx133_1
           replace hx133_2 := (HB.out.cell (World.block_lt_of_cell? w _ hx133_2)).trans hx133_2
           replace hx133_3 := (HB.out.cell (World.block_lt_of_cell? w _ hx133_3)).trans hx133_3
           replace hx133_4 := (HB.out.cell (World.block_lt_of_cell? w _ hx133_4)).trans hx133_4
           have HR133_3 := Aside0.mk hi133_3
           have HC133_3 := Aside0.mk hl133_3
           clear hi133_3 hl133_3
           have HR133_4 := Aside0.mk hi133_4
           have HC133_4 := Aside0.mk hl133_4
           clear hi133_4 hl133_4
           replace p133 := eq_true p133
           replace q133 := eq_true q133
           have p134 : 0 ≤ (x3_1 : Int) := of_decide_eq_true (by first | (with_reducible assumption) | assumption)
           have q134 : x3_1 < (l0_0.length : Int) := of_decide_eq_true (by first | (with_reducible assumption) | assumption)
           obtain ⟨ad134, A134_3, c134_3, A134_4, c134_4, e134, hx134_0, hx134_1, hx134_2, hx134_3, hx134_4, hl134_3, hi134_3, hl134_4, hi134_4⟩ := at_T31 HR0_0.out x3_1 p134 q134
           have hw134_4 := hx134_4
           have hw134_3 := hx134_3
           have hw134_2 := hx134_2
           have hw134_1 := hx134_1
           have hw134_0 := hx134_0
           obtain rfl : ad131 = ad134 := (by injection e134)
           replace hx134_0 := (HB.out.cell (World.block_lt_of_cell? w _ hx134_0)).trans hx134_0
           replace hx134_1 := (HB.out.cell (World.block_lt_of_cell? w _ hx134_1)).trans hx134_1
           replace hx134_2 := (HB.out.cell (World.block_lt_of_cell? w _ hx134_2)).trans hx134_2
           replace hx134_3 := (HB.out.cell (World.block_lt_of_cell? w _ hx134_3)).trans hx134_3
           replace hx134_4 := (HB.out.cell (World.block_lt_of_cell? w _ hx134_4)).trans hx134_4
           have HR134_3 := Aside0.mk hi134_3
           have HC134_3 := Aside0.mk hl134_3
           clear hi134_3 hl134_3
           have HR134_4 := Aside0.mk hi134_4
           have HC134_4 := Aside0.mk hl134_4
           clear hi134_4 hl134_4
           replace p134 := eq_true p134
           replace q134 := eq_true q134
           refine start_ (n := 27) (S := fun w' => w'.cell? ⟨gb130, 0, none⟩ = some (.slice (some ad131) l0_0.length c0_0) ∧ w'.cell? (ad131.add ((x3_1).toNat * 5)) = some (.int .i64 ((rd_T31 l0_0 x3_1).f0)) ∧ w'.cell? ⟨(ad131.add ((x3_1).toNat * 5)).block, (ad131.add ((x3_1).toNat * 5)).off + 1, none⟩ = some (.int .i64 ((rd_T31 l0_0 x3_1).f1)) ∧ w'.cell? ⟨(ad131.add ((x3_1).toNat * 5)).block, (ad131.add ((x3_1).toNat * 5)).off + 2, none⟩ = some (.int .i64 ((rd_T31 l0_0 x3_1).f2)) ∧ w'.cell? ⟨(ad131.add ((x3_1).toNat * 5)).block, (ad131.add ((x3_1).toNat * 5)).off + 3, none⟩ = some (.slice A131_3 ((rd_T31 l0_0 x3_1).f3).length c131_3) ∧ w'.cell? ⟨(ad131.add ((x3_1).toNat * 5)).block, (ad131.add ((x3_1).toNat * 5)).off + 4, none⟩ = some (.slice A131_4 ((rd_T31 l0_0 x3_1).f4).length c131_4) ∧ w'.cell? (ad131.add (((ji12)).toNat * 5)) = some (.int .i64 ((rd_T31 l0_0 (ji12)).f0)) ∧ w'.cell? ⟨(ad131.add (((ji12)).toNat * 5)).block, (ad131.add (((ji12)).toNat * 5)).off + 1, none⟩ = some (.int .i64 ((rd_T31 l0_0 (ji12)).f1)) ∧ w'.cell? ⟨(ad131.add (((ji12)).toNat * 5)).block, (ad131.add (((ji12)).toNat * 5)).off + 2, none⟩ = some (.int .i64 ((rd_T31 l0_0 (ji12)).f2)) ∧ w'.cell? ⟨(ad131.add (((ji12)).toNat * 5)).block, (ad131.add (((ji12)).toNat * 5)).off + 3, none⟩ = some (.slice A133_3 ((rd_T31 l0_0 (ji12)).f3).length c133_3) ∧ w'.cell? ⟨(ad131.add (((ji12)).toNat * 5)).block, (ad131.add (((ji12)).toNat * 5)).off + 4, none⟩ = some (.slice A133_4 ((rd_T31 l0_0 (ji12)).f4).length c133_4) ∧ w'.cell? (ad131.add ((x3_1).toNat * 5)) = some (.int .i64 ((rd_T31 l0_0 x3_1).f0)) ∧ w'.cell? ⟨(ad131.add ((x3_1).toNat * 5)).block, (ad131.add ((x3_1).toNat * 5)).off + 1, none⟩ = some (.int .i64 ((rd_T31 l0_0 x3_1).f1)) ∧ w'.cell? ⟨(ad131.add ((x3_1).toNat * 5)).block, (ad131.add ((x3_1).toNat * 5)).off + 2, none⟩ = some (.int .i64 ((rd_T31 l0_0 x3_1).f2)) ∧ w'.cell? ⟨(ad131.add ((x3_1).toNat * 5)).block, (ad131.add ((x3_1).toNat * 5)).off + 3, none⟩ = some (.slice A134_3 ((rd_T31 l0_0 x3_1).f3).length c134_3) ∧ w'.cell? ⟨(ad131.add ((x3_1).toNat * 5)).block, (ad131.add ((x3_1).toNat * 5)).off + 4, none⟩ = some (.slice A134_4 ((rd_T31 l0_0 x3_1).f4).length c134_4)) (ds := []) ba3_0 (by kernel_rfl) rfl rfl ⟨(blk_cell BK130.out 0).trans rfl, ((HB.out.cell (World.block_lt_of_cell? w _ hw131_0)).trans hw131_0), ((HB.out.cell (World.block_lt_of_cell? w _ hw131_1)).trans hw131_1), ((HB.out.cell (World.block_lt_of_cell? w _ hw131_2)).trans hw131_2), ((HB.out.cell (World.block_lt_of_cell? w _ hw131_3)).trans hw131_3), ((HB.out.cell (World.block_lt_of_cell? w _ hw131_4)).trans hw131_4), ((HB.out.cell (World.block_lt_of_cell? w _ hw133_0)).trans hw133_0), ((HB.out.cell (World.block_lt_of_cell? w _ hw133_1)).trans hw133_1), ((HB.out.cell (World.block_lt_of_cell? w _ hw133_2)).trans hw133_2), ((HB.out.cell (World.block_lt_of_cell? w _ hw133_3)).trans hw133_3), ((HB.out.cell (World.block_lt_of_cell? w _ hw133_4)).trans hw133_4), ((HB.out.cell (World.block_lt_of_cell? w _ hw134_0)).trans hw134_0), ((HB.out.cell (World.block_lt_of_cell? w _ hw134_1)).trans hw134_1), ((HB.out.cell (World.block_lt_of_cell? w _ hw134_2)).trans hw134_2), ((HB.out.cell (World.block_lt_of_cell? w _ hw134_3)).trans hw134_3), ((HB.out.cell (World.block_lt_of_cell? w _ hw134_4)).trans hw134_4)⟩ (fun hHeld => ?_); refine with_tabW spec_DbOk.tab6 spec_DbOk.bits6 (fun HT_ HW_ => ?_)
           generalize wr.drew = w20 at BK130 HB HR131_3 HR131_4 HR133_3 HR133_4 HR134_3 HR134_4 hx131_0 hx131_1 hx131_2 hx131_3 hx131_4 hx133_0 hx133_1 hx133_2 hx133_3 hx133_4 hx134_0 hx134_1 hx134_2 hx134_3 hx134_4 hHeld ⊢
           refine pz_ 0 15 ba3_1 HT_ ?_
           refine pz_ 2 17 ba3_2 HT_ ?_
           refine pt_ 1 16 ba3_3 HT_ HW_ hHeld ?_
           refine pz_ 3 18 ba3_4 HT_ ?_
           refine pt_ 4 19 ba3_5 HT_ HW_ hHeld ?_
           refine one_ (i := 5) (N := some 20) ba3_6 rfl rfl (one_of HT_.out (by kernel_rfl)) (by decide) (fun K hK => ?_)
           refine goes_ Try.func14 (by kernel_rfl) rfl #[.agg #[.int .i64 ((rd_T31 l0_0 x3_1).f0), .int .i64 ((rd_T31 l0_0 x3_1).f1), .int .i64 ((rd_T31 l0_0 x3_1).f2), .slice A131_3 ((rd_T31 l0_0 x3_1).f3).length c131_3, .slice A131_4 ((rd_T31 l0_0 x3_1).f4).length c131_4]] (by rfl) rfl rfl (by (try simp only [List.map_toArray, List.map_cons, List.map_nil]); first | done | rfl | (simp only [List.length_drop, List.length_take]; rfl)) ?_
           with_reducible refine (spec_LsaOk.calls k1 ((rd_T31 l0_0 x3_1).f0) ((rd_T31 l0_0 x3_1).f1) ((rd_T31 l0_0 x3_1).f2) _ _ ((rd_T31 l0_0 x3_1).f3) _ _ ((rd_T31 l0_0 x3_1).f4) true _ ?side1 ?side2 ?side3 ?side4 A9.out).mono ?_
           (case side1 => repeat (first | exact (Kd.C_below HR131_3.out HB.out) | (with_reducible refine Kd.C_alloc ?_ _) | (with_reducible refine Kd.C_drewN ?_ _) | (with_reducible refine Kd.C_drew ?_)))
           (case side2 => exact HC131_3.out)
           (case side3 => repeat (first | exact (Kd.C_below HR131_4.out HB.out) | (with_reducible refine Kd.C_alloc ?_ _) | (with_reducible refine Kd.C_drewN ?_ _) | (with_reducible refine Kd.C_drew ?_)))
           (case side4 => exact HC131_4.out)
           rintro e w21 ⟨rfl, hb⟩
           refine ⟨_, rfl, ?_⟩
           have n0_ := Aside0.mk (blk_below (g := gb130) (o := .cells #[.slice (some ad131) l0_0.length c0_0] 43 (0, 0)) (by (with_reducible repeat (first | refine blk_drewN ?_ _ | refine blk_drew ?_ | refine blk_alloc ?_ _)); exact BK130.out) hb)
           have n1_ := Aside0.mk (below_step (by repeat (first | (with_reducible first | exact HB.out | apply below_alloc | apply pw_below_drewN | apply below_drew1 | refine below_set ?_ GE130.out) | exact HB.out)) hb)
           clear BK130
           clear HB
           have BK130 := n0_
           have HB := n1_
           clear n0_ n1_
           (try clear hb)
           (try clear hb2)
           (try clear hk)
           (try clear hi)
           refine hK.out _ _ ⟨(blk_cell BK130.out 0).trans rfl, ((HB.out.cell (World.block_lt_of_cell? w _ hw131_0)).trans hw131_0), ((HB.out.cell (World.block_lt_of_cell? w _ hw131_1)).trans hw131_1), ((HB.out.cell (World.block_lt_of_cell? w _ hw131_2)).trans hw131_2), ((HB.out.cell (World.block_lt_of_cell? w _ hw131_3)).trans hw131_3), ((HB.out.cell (World.block_lt_of_cell? w _ hw131_4)).trans hw131_4), ((HB.out.cell (World.block_lt_of_cell? w _ hw133_0)).trans hw133_0), ((HB.out.cell (World.block_lt_of_cell? w _ hw133_1)).trans hw133_1), ((HB.out.cell (World.block_lt_of_cell? w _ hw133_2)).trans hw133_2), ((HB.out.cell (World.block_lt_of_cell? w _ hw133_3)).trans hw133_3), ((HB.out.cell (World.block_lt_of_cell? w _ hw133_4)).trans hw133_4), ((HB.out.cell (World.block_lt_of_cell? w _ hw134_0)).trans hw134_0), ((HB.out.cell (World.block_lt_of_cell? w _ hw134_1)).trans hw134_1), ((HB.out.cell (World.block_lt_of_cell? w _ hw134_2)).trans hw134_2), ((HB.out.cell (World.block_lt_of_cell? w _ hw134_3)).trans hw134_3), ((HB.out.cell (World.block_lt_of_cell? w _ hw134_4)).trans hw134_4)⟩ (fun hHeld => ?_)
           clear hK K
           refine norm_ (a' := ?_) ?_ ?_
           rotate_left; · show Act.put _ (some 20) _ = _; simp only [Act.put, List.setIfInBounds_toArray, List.set_cons_zero, List.set_cons_succ, i64_w, i32_w]; rfl
           refine pz_ 6 21 ba3_7 HT_ ?_
           refine pz_ 7 22 ba3_8 HT_ ?_
           refine pz_ 8 23 ba3_9 HT_ ?_
           refine pz_ 9 24 ba3_10 HT_ ?_
           refine pz_ 10 25 ba3_11 HT_ ?_
           refine pz_ 11 26 ba3_12 HT_ ?_
           refine pz_ 13 28 ba3_13 HT_ ?_
           refine pz_ 14 29 ba3_14 HT_ ?_
           refine pz_ 18 33 ba3_15 HT_ ?_
           refine pz_ 20 35 ba3_16 HT_ ?_
           refine pt_ 12 27 ba3_17 HT_ HW_ hHeld ?_
           refine pz_ 15 30 ba3_18 HT_ ?_
           refine pz_ 16 31 ba3_19 HT_ ?_
           refine pt_ 17 32 ba3_20 HT_ HW_ hHeld ?_
           refine pt_ 19 34 ba3_21 HT_ HW_ hHeld ?_
           refine pz_ 21 36 ba3_22 HT_ ?_
           refine pz_ 22 37 ba3_23 HT_ ?_
           refine pt_ 23 38 ba3_24 HT_ HW_ hHeld ?_
           refine pz_ 24 39 ba3_25 HT_ ?_
           refine pz_ 25 40 ba3_26 HT_ ?_
           refine pz_ 26 41 ba3_27 HT_ ?_
           refine done_ (done_of HT_.out (by kernel_rfl)) ?_
           try go_wp2
           go_roundg k1
           case measure => have := HK1.out; omega
           case rel => exact ⟨(wrap64 (x3_1 + 1)), (by first | rfl | (simp; done) | (simp [*]; done)), H', ⟨by have := HK1.out; omega⟩, ⟨by (with_reducible repeat (first | refine blk_drewN ?_ _ | refine blk_drew ?_ | refine blk_alloc ?_ _)); exact BK130.out⟩, ⟨by repeat (first | (with_reducible first | exact HB.out | apply below_alloc | apply pw_below_drewN | apply below_drew1 | refine below_set ?_ GE130.out) | exact HB.out)⟩⟩
         ·rw [if_neg c14] at H
          exact absurd H (by simp)
        ·rw [if_neg c13] at H
         exact absurd H (by simp)
       ·rw [if_neg c11] at H
        have c11b0 : decide (0 < x3_1) = false := decide_eq_false c11
        clear c11
        have H' := Aside0.mk H
        clear H
        have hcz22_0 : wr.cell? ⟨gb130, 0, none⟩ = some (.slice A0_0 l0_0.length c0_0) := (blk_cell BK130.out 0).trans rfl
        have hfz22_0 := blk_frozen BK130.out 0
        try go_wp2
        have n0_ := Aside0.mk (blk_drew BK130.out)
        have n1_ := Aside0.mk (below_drew1 HB.out)
        clear BK130
        clear HB
        have BK130 := n0_
        have HB := n1_
        clear n0_ n1_
        have p131 : 0 ≤ (x3_1 : Int) := of_decide_eq_true (by first | (with_reducible assumption) | assumption)
        have q131 : x3_1 < (l0_0.length : Int) := of_decide_eq_true (by first | (with_reducible assumption) | assumption)
        obtain ⟨ad131, A131_3, c131_3, A131_4, c131_4, e131, hx131_0, hx131_1, hx131_2, hx131_3, hx131_4, hl131_3, hi131_3, hl131_4, hi131_4⟩ := at_T31 HR0_0.out x3_1 p131 q131
        have hw131_4 := hx131_4
        have hw131_3 := hx131_3
        have hw131_2 := hx131_2
        have hw131_1 := hx131_1
        have hw131_0 := hx131_0
        cases e131
        replace hx131_0 := (HB.out.cell (World.block_lt_of_cell? w _ hx131_0)).trans hx131_0
        replace hx131_1 := (HB.out.cell (World.block_lt_of_cell? w _ hx131_1)).trans hx131_1
        replace hx131_2 := (HB.out.cell (World.block_lt_of_cell? w _ hx131_2)).trans hx131_2
        replace hx131_3 := (HB.out.cell (World.block_lt_of_cell? w _ hx131_3)).trans hx131_3
        replace hx131_4 := (HB.out.cell (World.block_lt_of_cell? w _ hx131_4)).trans hx131_4
        have HR131_3 := Aside0.mk hi131_3
        have HC131_3 := Aside0.mk hl131_3
        clear hi131_3 hl131_3
        have HR131_4 := Aside0.mk hi131_4
        have HC131_4 := Aside0.mk hl131_4
        clear hi131_4 hl131_4
        replace p131 := eq_true p131
        replace q131 := eq_true q131
        refine start_ (n := 27) (S := fun w' => w'.cell? ⟨gb130, 0, none⟩ = some (.slice (some ad131) l0_0.length c0_0) ∧ w'.cell? (ad131.add ((x3_1).toNat * 5)) = some (.int .i64 ((rd_T31 l0_0 x3_1).f0)) ∧ w'.cell? ⟨(ad131.add ((x3_1).toNat * 5)).block, (ad131.add ((x3_1).toNat * 5)).off + 1, none⟩ = some (.int .i64 ((rd_T31 l0_0 x3_1).f1)) ∧ w'.cell? ⟨(ad131.add ((x3_1).toNat * 5)).block, (ad131.add ((x3_1).toNat * 5)).off + 2, none⟩ = some (.int .i64 ((rd_T31 l0_0 x3_1).f2)) ∧ w'.cell? ⟨(ad131.add ((x3_1).toNat * 5)).block, (ad131.add ((x3_1).toNat * 5)).off + 3, none⟩ = some (.slice A131_3 ((rd_T31 l0_0 x3_1).f3).length c131_3) ∧ w'.cell? ⟨(ad131.add ((x3_1).toNat * 5)).block, (ad131.add ((x3_1).toNat * 5)).off + 4, none⟩ = some (.slice A131_4 ((rd_T31 l0_0 x3_1).f4).length c131_4)) (ds := []) ba3_0 (by kernel_rfl) rfl rfl ⟨(blk_cell BK130.out 0).trans rfl, ((HB.out.cell (World.block_lt_of_cell? w _ hw131_0)).trans hw131_0), ((HB.out.cell (World.block_lt_of_cell? w _ hw131_1)).trans hw131_1), ((HB.out.cell (World.block_lt_of_cell? w _ hw131_2)).trans hw131_2), ((HB.out.cell (World.block_lt_of_cell? w _ hw131_3)).trans hw131_3), ((HB.out.cell (World.block_lt_of_cell? w _ hw131_4)).trans hw131_4)⟩ (fun hHeld => ?_); refine with_tabW spec_DbOk.tab6 spec_DbOk.bits6 (fun HT_ HW_ => ?_)
        generalize wr.drew = w23 at BK130 HB HR131_3 HR131_4 hx131_0 hx131_1 hx131_2 hx131_3 hx131_4 hHeld ⊢
        refine pz_ 0 15 ba3_1 HT_ ?_
        refine pz_ 2 17 ba3_2 HT_ ?_
        refine pt_ 1 16 ba3_3 HT_ HW_ hHeld ?_
        refine pz_ 3 18 ba3_4 HT_ ?_
        refine pt_ 4 19 ba3_5 HT_ HW_ hHeld ?_
        refine one_ (i := 5) (N := some 20) ba3_6 rfl rfl (one_of HT_.out (by kernel_rfl)) (by decide) (fun K hK => ?_)
        refine goes_ Try.func14 (by kernel_rfl) rfl #[.agg #[.int .i64 ((rd_T31 l0_0 x3_1).f0), .int .i64 ((rd_T31 l0_0 x3_1).f1), .int .i64 ((rd_T31 l0_0 x3_1).f2), .slice A131_3 ((rd_T31 l0_0 x3_1).f3).length c131_3, .slice A131_4 ((rd_T31 l0_0 x3_1).f4).length c131_4]] (by rfl) rfl rfl (by (try simp only [List.map_toArray, List.map_cons, List.map_nil]); first | done | rfl | (simp only [List.length_drop, List.length_take]; rfl)) ?_
        with_reducible refine (spec_LsaOk.calls k1 ((rd_T31 l0_0 x3_1).f0) ((rd_T31 l0_0 x3_1).f1) ((rd_T31 l0_0 x3_1).f2) _ _ ((rd_T31 l0_0 x3_1).f3) _ _ ((rd_T31 l0_0 x3_1).f4) true _ ?side1 ?side2 ?side3 ?side4 A9.out).mono ?_
        (case side1 => repeat (first | exact (Kd.C_below HR131_3.out HB.out) | (with_reducible refine Kd.C_alloc ?_ _) | (with_reducible refine Kd.C_drewN ?_ _) | (with_reducible refine Kd.C_drew ?_)))
        (case side2 => exact HC131_3.out)
        (case side3 => repeat (first | exact (Kd.C_below HR131_4.out HB.out) | (with_reducible refine Kd.C_alloc ?_ _) | (with_reducible refine Kd.C_drewN ?_ _) | (with_reducible refine Kd.C_drew ?_)))
        (case side4 => exact HC131_4.out)
        rintro e w24 ⟨rfl, hb⟩
        refine ⟨_, rfl, ?_⟩
        have n0_ := Aside0.mk (blk_below (g := gb130) (o := .cells #[.slice (some ad131) l0_0.length c0_0] 43 (0, 0)) (by (with_reducible repeat (first | refine blk_drewN ?_ _ | refine blk_drew ?_ | refine blk_alloc ?_ _)); exact BK130.out) hb)
        have n1_ := Aside0.mk (below_step (by repeat (first | (with_reducible first | exact HB.out | apply below_alloc | apply pw_below_drewN | apply below_drew1 | refine below_set ?_ GE130.out) | exact HB.out)) hb)
        clear BK130
        clear HB
        have BK130 := n0_
        have HB := n1_
        clear n0_ n1_
        (try clear hb)
        (try clear hb2)
        (try clear hk)
        (try clear hi)
        refine hK.out _ _ ⟨(blk_cell BK130.out 0).trans rfl, ((HB.out.cell (World.block_lt_of_cell? w _ hw131_0)).trans hw131_0), ((HB.out.cell (World.block_lt_of_cell? w _ hw131_1)).trans hw131_1), ((HB.out.cell (World.block_lt_of_cell? w _ hw131_2)).trans hw131_2), ((HB.out.cell (World.block_lt_of_cell? w _ hw131_3)).trans hw131_3), ((HB.out.cell (World.block_lt_of_cell? w _ hw131_4)).trans hw131_4)⟩ (fun hHeld => ?_)
        clear hK K
        refine norm_ (a' := ?_) ?_ ?_
        rotate_left; · show Act.put _ (some 20) _ = _; simp only [Act.put, List.setIfInBounds_toArray, List.set_cons_zero, List.set_cons_succ, i64_w, i32_w]; rfl
        refine pz_ 6 21 ba3_7 HT_ ?_
        refine pz_ 7 22 ba3_8 HT_ ?_
        refine pz_ 8 23 ba3_9 HT_ ?_
        refine pz_ 9 24 ba3_10 HT_ ?_
        refine pz_ 10 25 ba3_11 HT_ ?_
        refine pu_ 11 26 ba3_12 HT_ ?_
        refine pu_ 12 27 ba3_28 HT_ ?_
        refine pu_ 13 28 ba3_29 HT_ ?_
        refine pu_ 14 29 ba3_30 HT_ ?_
        refine pu_ 15 30 ba3_31 HT_ ?_
        refine pu_ 16 31 ba3_32 HT_ ?_
        refine pu_ 17 32 ba3_33 HT_ ?_
        refine pu_ 18 33 ba3_34 HT_ ?_
        refine pu_ 19 34 ba3_35 HT_ ?_
        refine pu_ 20 35 ba3_21 HT_ ?_
        refine pu_ 21 36 ba3_22 HT_ ?_
        refine pu_ 22 37 ba3_23 HT_ ?_
        refine pu_ 23 38 ba3_24 HT_ ?_
        refine pu_ 24 39 ba3_25 HT_ ?_
        refine pz_ 25 40 ba3_26 HT_ ?_
        refine pz_ 26 41 ba3_27 HT_ ?_
        refine done_ (done_of HT_.out (by kernel_rfl)) ?_
        try go_wp2
        go_roundg k1
        case measure => have := HK1.out; omega
        case rel => exact ⟨(wrap64 (x3_1 + 1)), (by first | rfl | (simp; done) | (simp [*]; done)), H', ⟨by have := HK1.out; omega⟩, ⟨by (with_reducible repeat (first | refine blk_drewN ?_ _ | refine blk_drew ?_ | refine blk_alloc ?_ _)); exact BK130.out⟩, ⟨by repeat (first | (with_reducible first | exact HB.out | apply below_alloc | apply pw_below_drewN | apply below_drew1 | refine below_set ?_ GE130.out) | exact HB.out)⟩⟩
      ·replace c10 := Bool.eq_false_iff.mpr c10
       subst c10
       rw [if_neg (show ¬ (false = true) by decide)] at H
       obtain rfl := Option.some.inj H
       have hcz25_0 : wr.cell? ⟨gb130, 0, none⟩ = some (.slice A0_0 l0_0.length c0_0) := (blk_cell BK130.out 0).trans rfl
       have hfz25_0 := blk_frozen BK130.out 0
       try go_wp2
       have n0_ := Aside0.mk (blk_drew BK130.out)
       have n1_ := Aside0.mk (below_drew1 HB.out)
       clear BK130
       clear HB
       have BK130 := n0_
       have HB := n1_
       clear n0_ n1_
       have p131 : 0 ≤ (x3_1 : Int) := of_decide_eq_true (by first | (with_reducible assumption) | assumption)
       have q131 : x3_1 < (l0_0.length : Int) := of_decide_eq_true (by first | (with_reducible assumption) | assumption)
       obtain ⟨ad131, A131_3, c131_3, A131_4, c131_4, e131, hx131_0, hx131_1, hx131_2, hx131_3, hx131_4, hl131_3, hi131_3, hl131_4, hi131_4⟩ := at_T31 HR0_0.out x3_1 p131 q131
       have hw131_4 := hx131_4
       have hw131_3 := hx131_3
       have hw131_2 := hx131_2
       have hw131_1 := hx131_1
       have hw131_0 := hx131_0
       cases e131
       replace hx131_0 := (HB.out.cell (World.block_lt_of_cell? w _ hx131_0)).trans hx131_0
       replace hx131_1 := (HB.out.cell (World.block_lt_of_cell? w _ hx131_1)).trans hx131_1
       replace hx131_2 := (HB.out.cell (World.block_lt_of_cell? w _ hx131_2)).trans hx131_2
       replace hx131_3 := (HB.out.cell (World.block_lt_of_cell? w _ hx131_3)).trans hx131_3
       replace hx131_4 := (HB.out.cell (World.block_lt_of_cell? w _ hx131_4)).trans hx131_4
       have HR131_3 := Aside0.mk hi131_3
       have HC131_3 := Aside0.mk hl131_3
       clear hi131_3 hl131_3
       have HR131_4 := Aside0.mk hi131_4
       have HC131_4 := Aside0.mk hl131_4
       clear hi131_4 hl131_4
       replace p131 := eq_true p131
       replace q131 := eq_true q131
       refine start_ (n := 27) (S := fun w' => w'.cell? ⟨gb130, 0, none⟩ = some (.slice (some ad131) l0_0.length c0_0) ∧ w'.cell? (ad131.add ((x3_1).toNat * 5)) = some (.int .i64 ((rd_T31 l0_0 x3_1).f0)) ∧ w'.cell? ⟨(ad131.add ((x3_1).toNat * 5)).block, (ad131.add ((x3_1).toNat * 5)).off + 1, none⟩ = some (.int .i64 ((rd_T31 l0_0 x3_1).f1)) ∧ w'.cell? ⟨(ad131.add ((x3_1).toNat * 5)).block, (ad131.add ((x3_1).toNat * 5)).off + 2, none⟩ = some (.int .i64 ((rd_T31 l0_0 x3_1).f2)) ∧ w'.cell? ⟨(ad131.add ((x3_1).toNat * 5)).block, (ad131.add ((x3_1).toNat * 5)).off + 3, none⟩ = some (.slice A131_3 ((rd_T31 l0_0 x3_1).f3).length c131_3) ∧ w'.cell? ⟨(ad131.add ((x3_1).toNat * 5)).block, (ad131.add ((x3_1).toNat * 5)).off + 4, none⟩ = some (.slice A131_4 ((rd_T31 l0_0 x3_1).f4).length c131_4)) (ds := []) ba3_0 (by kernel_rfl) rfl rfl ⟨(blk_cell BK130.out 0).trans rfl, ((HB.out.cell (World.block_lt_of_cell? w _ hw131_0)).trans hw131_0), ((HB.out.cell (World.block_lt_of_cell? w _ hw131_1)).trans hw131_1), ((HB.out.cell (World.block_lt_of_cell? w _ hw131_2)).trans hw131_2), ((HB.out.cell (World.block_lt_of_cell? w _ hw131_3)).trans hw131_3), ((HB.out.cell (World.block_lt_of_cell? w _ hw131_4)).trans hw131_4)⟩ (fun hHeld => ?_); refine with_tabW spec_DbOk.tab6 spec_DbOk.bits6 (fun HT_ HW_ => ?_)
       generalize wr.drew = w26 at BK130 HB HR131_3 HR131_4 hx131_0 hx131_1 hx131_2 hx131_3 hx131_4 hHeld ⊢
       refine pz_ 0 15 ba3_1 HT_ ?_
       refine pz_ 2 17 ba3_2 HT_ ?_
       refine pt_ 1 16 ba3_3 HT_ HW_ hHeld ?_
       refine pz_ 3 18 ba3_4 HT_ ?_
       refine pt_ 4 19 ba3_5 HT_ HW_ hHeld ?_
       refine one_ (i := 5) (N := some 20) ba3_6 rfl rfl (one_of HT_.out (by kernel_rfl)) (by decide) (fun K hK => ?_)
       refine goes_ Try.func14 (by kernel_rfl) rfl #[.agg #[.int .i64 ((rd_T31 l0_0 x3_1).f0), .int .i64 ((rd_T31 l0_0 x3_1).f1), .int .i64 ((rd_T31 l0_0 x3_1).f2), .slice A131_3 ((rd_T31 l0_0 x3_1).f3).length c131_3, .slice A131_4 ((rd_T31 l0_0 x3_1).f4).length c131_4]] (by rfl) rfl rfl (by (try simp only [List.map_toArray, List.map_cons, List.map_nil]); first | done | rfl | (simp only [List.length_drop, List.length_take]; rfl)) ?_
       with_reducible refine (spec_LsaOk.calls k1 ((rd_T31 l0_0 x3_1).f0) ((rd_T31 l0_0 x3_1).f1) ((rd_T31 l0_0 x3_1).f2) _ _ ((rd_T31 l0_0 x3_1).f3) _ _ ((rd_T31 l0_0 x3_1).f4) false _ ?side1 ?side2 ?side3 ?side4 A9.out).mono ?_
       (case side1 => repeat (first | exact (Kd.C_below HR131_3.out HB.out) | (with_reducible refine Kd.C_alloc ?_ _) | (with_reducible refine Kd.C_drewN ?_ _) | (with_reducible refine Kd.C_drew ?_)))
       (case side2 => exact HC131_3.out)
       (case side3 => repeat (first | exact (Kd.C_below HR131_4.out HB.out) | (with_reducible refine Kd.C_alloc ?_ _) | (with_reducible refine Kd.C_drewN ?_ _) | (with_reducible refine Kd.C_drew ?_)))
       (case side4 => exact HC131_4.out)
       rintro e w27 ⟨rfl, hb⟩
       refine ⟨_, rfl, ?_⟩
       have n0_ := Aside0.mk (blk_below (g := gb130) (o := .cells #[.slice (some ad131) l0_0.length c0_0] 43 (0, 0)) (by (with_reducible repeat (first | refine blk_drewN ?_ _ | refine blk_drew ?_ | refine blk_alloc ?_ _)); exact BK130.out) hb)
       have n1_ := Aside0.mk (below_step (by repeat (first | (with_reducible first | exact HB.out | apply below_alloc | apply pw_below_drewN | apply below_drew1 | refine below_set ?_ GE130.out) | exact HB.out)) hb)
       clear BK130
       clear HB
       have BK130 := n0_
       have HB := n1_
       clear n0_ n1_
       (try clear hb)
       (try clear hb2)
       (try clear hk)
       (try clear hi)
       refine hK.out _ _ ⟨(blk_cell BK130.out 0).trans rfl, ((HB.out.cell (World.block_lt_of_cell? w _ hw131_0)).trans hw131_0), ((HB.out.cell (World.block_lt_of_cell? w _ hw131_1)).trans hw131_1), ((HB.out.cell (World.block_lt_of_cell? w _ hw131_2)).trans hw131_2), ((HB.out.cell (World.block_lt_of_cell? w _ hw131_3)).trans hw131_3), ((HB.out.cell (World.block_lt_of_cell? w _ hw131_4)).trans hw131_4)⟩ (fun hHeld => ?_)
       clear hK K
       refine norm_ (a' := ?_) ?_ ?_
       rotate_left; · show Act.put _ (some 20) _ = _; simp only [Act.put, List.setIfInBounds_toArray, List.set_cons_zero, List.set_cons_succ, i64_w, i32_w]; rfl
       refine pz_ 6 21 ba3_7 HT_ ?_
       refine pz_ 7 22 ba3_8 HT_ ?_
       refine pu_ 8 23 ba3_9 HT_ ?_
       refine pu_ 9 24 ba3_10 HT_ ?_
       refine pu_ 10 25 ba3_11 HT_ ?_
       refine pu_ 11 26 ba3_12 HT_ ?_
       refine pu_ 12 27 ba3_28 HT_ ?_
       refine pu_ 13 28 ba3_29 HT_ ?_
       refine pu_ 14 29 ba3_30 HT_ ?_
       refine pu_ 15 30 ba3_31 HT_ ?_
       refine pu_ 16 31 ba3_32 HT_ ?_
       refine pu_ 17 32 ba3_33 HT_ ?_
       refine pu_ 18 33 ba3_34 HT_ ?_
       refine pu_ 19 34 ba3_35 HT_ ?_
       refine pu_ 20 35 ba3_21 HT_ ?_
       refine pu_ 21 36 ba3_22 HT_ ?_
       refine pu_ 22 37 ba3_23 HT_ ?_
       refine pu_ 23 38 ba3_24 HT_ ?_
       refine pu_ 24 39 ba3_25 HT_ ?_
       refine pu_ 25 40 ba3_26 HT_ ?_
       refine pz_ 26 41 ba3_27 HT_ ?_
       refine done_ (done_of HT_.out (by kernel_rfl)) ?_
       try go_wp2
       go_ret
       exact ⟨by first | rfl | (simp [errW_none, errW_some] <;> rfl) | (simp [*, errW_none, errW_some] <;> rfl), by repeat (first | (with_reducible first | exact HB.out | apply below_alloc | apply pw_below_drewN | apply below_drew1 | refine below_set ?_ GE130.out) | exact HB.out)⟩
     ·rw [if_neg c8] at H
      exact absurd H (by simp)
    ·rw [if_neg c7] at H
     have c7b0 : decide (x3_1 < (l0_0.length : Int)) = false := decide_eq_false c7
     clear c7
     obtain rfl := Option.some.inj H
     have hcz28_0 : wr.cell? ⟨gb130, 0, none⟩ = some (.slice A0_0 l0_0.length c0_0) := (blk_cell BK130.out 0).trans rfl
     have hfz28_0 := blk_frozen BK130.out 0
     go_wp2
     go_ret
     exact ⟨by first | rfl | (simp [errW_none, errW_some] <;> rfl) | (simp [*, errW_none, errW_some] <;> rfl), by repeat (first | (with_reducible first | exact HB.out | apply below_alloc | apply pw_below_drewN | apply below_drew1 | refine below_set ?_ GE130.out) | exact HB.out)⟩

end Go.Proofs.Ytiikcfaodkiakaa.QFnExactDbOk
