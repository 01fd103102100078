/- Contracts of functions that the law reaches: what each call returns and what it leaves in memory. Made by this session over the print of the kit. -/
import Derived.Test.YtiikcfaodkiakaaQFnExactDbSumx0
import Derived.Test.YtiikcfaodkiakaaQFnExactDbSumx4
namespace Go.Proofs.Ytiikcfaodkiakaa.QFnExactDbSum
open Go.RowKit Go.Proofs.YtiikcfaodkiakaaV.PrintWords Go.Proofs.YtiikcfaodkiakaaV.PrintLast Go.Proofs.YtiikcfaodkiakaaV.PrintMore
attribute [local go_sem] max2_int min2_int max_two min_two max_three min_three max_four min_four   -- for this text's walks alone
set_option linter.unusedVariables false
set_option linter.unusedSimpArgs false
def ba5_0 : Array Bool := #[false, false, false, false, false, false, false, false, false, false, false, false, false, false, false, false, false, false, false, false, false, false, false, false, false, false, false]
def ba5_1 : Array Bool := #[true, false, false, false, false, false, false, false, false, false, false, false, false, false, false, false, false, false, false, false, false, false, false, false, false, false, false]
def ba5_2 : Array Bool := #[true, false, true, false, false, false, false, false, false, false, false, false, false, false, false, false, false, false, false, false, false, false, false, false, false, false, false]
def ba5_3 : Array Bool := #[true, true, true, false, false, false, false, false, false, false, false, false, false, false, false, false, false, false, false, false, false, false, false, false, false, false, false]
def ba5_4 : Array Bool := #[true, true, true, true, false, false, false, false, false, false, false, false, false, false, false, false, false, false, false, false, false, false, false, false, false, false, false]
def ba5_5 : Array Bool := #[true, true, true, true, true, false, false, false, false, false, false, false, false, false, false, false, false, false, false, false, false, false, false, false, false, false, false]
def ba5_6 : Array Bool := #[true, true, true, true, true, true, false, false, false, false, false, false, false, false, false, false, false, false, false, false, false, false, false, false, false, false, false]
def ba5_7 : Array Bool := #[true, true, true, true, true, true, true, false, false, false, false, false, false, false, false, false, false, false, false, false, false, false, false, false, false, false, false]
def ba5_8 : Array Bool := #[true, true, true, true, true, true, true, true, false, false, false, false, false, false, false, false, false, false, false, false, false, false, false, false, false, false, false]
def ba5_9 : Array Bool := #[true, true, true, true, true, true, true, true, true, false, false, false, false, false, false, false, false, false, false, false, false, false, false, false, false, false, false]
def ba5_10 : Array Bool := #[true, true, true, true, true, true, true, true, true, true, false, false, false, false, false, false, false, false, false, false, false, false, false, false, false, false, false]
def ba5_11 : Array Bool := #[true, true, true, true, true, true, true, true, true, true, true, false, false, false, false, false, false, false, false, false, false, false, false, false, false, false, false]
def ba5_12 : Array Bool := #[true, true, true, true, true, true, true, true, true, true, true, true, false, false, false, false, false, false, false, false, false, false, false, false, false, false, false]
def ba5_13 : Array Bool := #[true, true, true, true, true, true, true, true, true, true, true, true, false, true, false, false, false, false, false, false, false, false, false, false, false, false, false]
def ba5_14 : Array Bool := #[true, true, true, true, true, true, true, true, true, true, true, true, false, true, true, false, false, false, false, false, false, false, false, false, false, false, false]
def ba5_15 : Array Bool := #[true, true, true, true, true, true, true, true, true, true, true, true, false, true, true, false, false, false, true, false, false, false, false, false, false, false, false]
def ba5_16 : Array Bool := #[true, true, true, true, true, true, true, true, true, true, true, true, false, true, true, false, false, false, true, false, true, false, false, false, false, false, false]
def ba5_17 : Array Bool := #[true, true, true, true, true, true, true, true, true, true, true, true, true, true, true, false, false, false, true, false, true, false, false, false, false, false, false]
def ba5_18 : Array Bool := #[true, true, true, true, true, true, true, true, true, true, true, true, true, true, true, true, false, false, true, false, true, false, false, false, false, false, false]
def ba5_19 : Array Bool := #[true, true, true, true, true, true, true, true, true, true, true, true, true, true, true, true, true, false, true, false, true, false, false, false, false, false, false]
def ba5_20 : Array Bool := #[true, true, true, true, true, true, true, true, true, true, true, true, true, true, true, true, true, true, true, false, true, false, false, false, false, false, false]
def ba5_21 : Array Bool := #[true, true, true, true, true, true, true, true, true, true, true, true, true, true, true, true, true, true, true, true, true, false, false, false, false, false, false]
def ba5_22 : Array Bool := #[true, true, true, true, true, true, true, true, true, true, true, true, true, true, true, true, true, true, true, true, true, true, false, false, false, false, false]
def ba5_23 : Array Bool := #[true, true, true, true, true, true, true, true, true, true, true, true, true, true, true, true, true, true, true, true, true, true, true, false, false, false, false]
def ba5_24 : Array Bool := #[true, true, true, true, true, true, true, true, true, true, true, true, true, true, true, true, true, true, true, true, true, true, true, true, false, false, false]
def ba5_25 : Array Bool := #[true, true, true, true, true, true, true, true, true, true, true, true, true, true, true, true, true, true, true, true, true, true, true, true, true, false, false]
def ba5_26 : Array Bool := #[true, true, true, true, true, true, true, true, true, true, true, true, true, true, true, true, true, true, true, true, true, true, true, true, true, true, false]
def ba5_27 : Array Bool := #[true, true, true, true, true, true, true, true, true, true, true, true, true, true, true, true, true, true, true, true, true, true, true, true, true, true, true]
def ba5_28 : Array Bool := #[true, true, true, true, true, true, true, true, true, true, true, true, true, false, false, false, false, false, false, false, false, false, false, false, false, false, false]
def ba5_29 : Array Bool := #[true, true, true, true, true, true, true, true, true, true, true, true, true, true, false, false, false, false, false, false, false, false, false, false, false, false, false]
def ba5_30 : Array Bool := #[true, true, true, true, true, true, true, true, true, true, true, true, true, true, true, false, false, false, false, false, false, false, false, false, false, false, false]
def ba5_31 : Array Bool := #[true, true, true, true, true, true, true, true, true, true, true, true, true, true, true, true, false, false, false, false, false, false, false, false, false, false, false]
def ba5_32 : Array Bool := #[true, true, true, true, true, true, true, true, true, true, true, true, true, true, true, true, true, false, false, false, false, false, false, false, false, false, false]
def ba5_33 : Array Bool := #[true, true, true, true, true, true, true, true, true, true, true, true, true, true, true, true, true, true, false, false, false, false, false, false, false, false, false]
def ba5_34 : Array Bool := #[true, true, true, true, true, true, true, true, true, true, true, true, true, true, true, true, true, true, true, false, false, false, false, false, false, false, false]
def ba5_35 : Array Bool := #[true, true, true, true, true, true, true, true, true, true, true, true, true, true, true, true, true, true, true, true, false, false, false, false, false, false, false]

/-! ### spec_DbOk: function 21 -/
def spec_DbOk.l0 : Nat → Int → List (S31) → Option (Bool)
 | 0, _, _ => none
 | k + 1, x3, x209000 => if x3 < (x209000.length : Int) then (if 0 ≤ x3 then ((spec_LsaOk.f k ((rd_T31 x209000 x3).f0) ((rd_T31 x209000 x3).f1) ((rd_T31 x209000 x3).f2) ((rd_T31 x209000 x3).f3) ((rd_T31 x209000 x3).f4)).bind fun t210 => (if t210 = true then (if x3 > 0 then (if 0 ≤ (wrap64 (x3 - 1)) then (if (wrap64 (x3 - 1)) < (x209000.length : Int) then (if ((rd_T31 x209000 (wrap64 (x3 - 1))).f0) ≥ ((rd_T31 x209000 x3).f0) then (some false) else (spec_DbOk.l0 k (wrap64 (x3 + 1)) x209000)) else (none)) else (none)) else (spec_DbOk.l0 k (wrap64 (x3 + 1)) x209000)) else (some false))) else (none)) else (some true)
def spec_DbOk.f (k : Nat) (l0_0 : List (S31)) : Option (Bool) := if (l0_0.length : Int) > 10 then (some false) else (spec_DbOk.l0 k 0 l0_0)
theorem spec_DbOk.mono_l : ∀ k, (∀ y0 y1, LeO (spec_DbOk.l0 k y0 y1) (spec_DbOk.l0 (k + 1) y0 y1))
 | 0 => fun _ _ r h => by simp [spec_DbOk.l0] at h
 | k + 1 => by
  have ih0 := spec_DbOk.mono_l k
  ·intro y0 y1
   unfold spec_DbOk.l0
   repeat' first
   | (with_reducible exact ih0 _ _)
   | (with_reducible exact spec_LsaOk.mono _ _ _ _ _ _)
   | (with_reducible exact LeO.refl _)
   | (with_reducible exact LeO.none _)
   | (with_reducible refine LeO.ite ?_ ?_)
   | (with_reducible refine LeO.bind ?_ (fun _ => ?_))
   | exact ih0 _ _
   | exact spec_LsaOk.mono _ _ _ _ _ _
   | exact LeO.none _
   | refine LeO.ite ?_ ?_
   | refine LeO.bind ?_ (fun _ => ?_)
theorem spec_DbOk.mono : ∀ a0 k, LeO (spec_DbOk.f k a0) (spec_DbOk.f (k + 1) a0) := by
 intro a0 k
 have ih0 := spec_DbOk.mono_l k
 unfold spec_DbOk.f
 repeat' first
   | (with_reducible exact ih0 _ _)
   | (with_reducible exact spec_LsaOk.mono _ _ _ _ _ _)
   | (with_reducible exact LeO.refl _)
   | (with_reducible exact LeO.none _)
   | (with_reducible refine LeO.ite ?_ ?_)
   | (with_reducible refine LeO.bind ?_ (fun _ => ?_))
   | exact ih0 _ _
   | exact spec_LsaOk.mono _ _ _ _ _ _
   | exact LeO.none _
   | refine LeO.ite ?_ ?_
   | refine LeO.bind ?_ (fun _ => ?_)
def spec_DbOk.T6 : Bool × List (List Nat × List Nat) := (true, [([], []), ([0], [0]), ([], []), ([1, 2], [1, 2]), ([3], [3]), ([4], [4]), ([5], [5]), ([6, 5], [6]), ([7], [7]), ([8, 7], [7, 8]), ([9, 7, 7], [7, 9]), ([10], [10]), ([11, 10], [10, 11]), ([10], [10]), ([13, 10], [10, 13]), ([12, 14, 10], [10, 12, 14]), ([15, 10], [10, 15]), ([16, 10], [10, 16]), ([10], [10]), ([18, 10], [10, 18]), ([10], [10]), ([19, 20, 10], [10, 19, 20]), ([21, 10], [10, 21]), ([22, 10], [10, 22]), ([17, 23, 10], [10, 17, 23]), ([10, 24, 7], [7, 10, 24]), ([7, 25], [7, 25])])
def spec_DbOk.B6 : List Nat := [0, 1, 0, 7, 15, 31, 63, 127, 255, 511, 1023, 2047, 4095, 2047, 10239, 32767, 65535, 131071, 2047, 264191, 2047, 1837055, 3934207, 8128511, 16777215, 33554431, 67108863]
theorem spec_DbOk.tab6 : rtab .any (opsOf Try.f21 6) = spec_DbOk.T6 := by kernel_rfl
theorem spec_DbOk.bits6 : waitsOk spec_DbOk.T6.2 spec_DbOk.B6 = true := by kernel_rfl
set_option maxHeartbeats 8000000 in
set_option maxRecDepth 100000 in
theorem spec_DbOk.calls (k : Nat) (A0_0 : Option Addr) (c0_0 : Nat) (l0_0 : List (S31)) (r : Bool) (w : World) (hr0_0 : Kd.C k31 w A0_0 l0_0.length l0_0) (hc0_0 : l0_0.length ≤ c0_0) (h : spec_DbOk.f k l0_0 = some r) :
  Calls Try.prog 21 #[.agg #[.slice A0_0 l0_0.length c0_0]] w fun e w' => e = .returned (.bool r) ∧ Below w.heap.size w w' := by
 have hu43 := Try.underlying43
 have hu31 := Try.underlying31
 have HR0_0 := Aside0.mk hr0_0
 have HC0_0 := Aside0.mk hc0_0
 clear hr0_0 hc0_0
 have HB := Aside0.mk (Below.refl w.heap.size w)
 have H : (if (l0_0.length : Int) > 10 then (some false) else (spec_DbOk.l0 k 0 l0_0)) = some r := h
 clear h
 by_cases c2 : (l0_0.length : Int) > 10
 ·rw [if_pos c2] at H
  have c2b0 : decide (10 < (l0_0.length : Int)) = true := decide_eq_true c2
  have c2b1 : decide (10 < l0_0.length) = true := decide_eq_true (by omega)
  clear c2
  obtain rfl := Option.some.inj H
  go_enter Try.func21, Try.ntmps21
  go_wp2_with (first | ((with_reducible refine gate_dst (N := 1) rfl ?_); refine box_event ?hg (N := 1) ?hd (cs := #[.slice A0_0 l0_0.length c0_0]) (t := 43) ?hr ?_; (case hd => rfl); (case hg => rfl); (case hr => first | (go_simp; done) | (go_simp; rfl)); intro gb208 hg w3 hbox hb; have n0_ := Aside0.mk (bt_ HB hb); have n1_ := Aside0.mk (hbox); have n2_ := Aside0.mk ((by rw [hg]; exact (bz_ HB) : w.heap.size ≤ gb208)); have n3_ := Aside0.mk ((by rw [hg]; exact (bz_ HB) : w.heap.size ≤ gb208)); clear HB; have HB := n0_; have BK208 := n1_; have GW208 := n2_; have GE208 := n3_; clear n0_ n1_ n2_ n3_; clear hb hbox hg; have hcz4_0 : w3.cell? ⟨gb208, 0, none⟩ = some (.slice A0_0 l0_0.length c0_0) := (blk_cell BK208.out 0).trans rfl; have hfz4_0 := blk_frozen BK208.out 0))
  go_ret
  exact ⟨by first | rfl | (simp [errW_none, errW_some] <;> rfl) | (simp [*, errW_none, errW_some] <;> rfl), by repeat (first | (with_reducible first | exact HB.out | apply below_alloc | apply pw_below_drewN | apply below_drew1 | refine below_set ?_ GE208.out) | exact HB.out)⟩
 ·rw [if_neg c2] at H
  have c2b0 : decide (10 < (l0_0.length : Int)) = false := decide_eq_false c2
  have c2b1 : decide (10 < l0_0.length) = false := decide_eq_false (by omega)
  clear c2
  have H' := Aside0.mk H
  clear H
  go_enter Try.func21, Try.ntmps21
  go_wp2_with (first | ((with_reducible refine gate_dst (N := 1) rfl ?_); refine box_event ?hg (N := 1) ?hd (cs := #[.slice A0_0 l0_0.length c0_0]) (t := 43) ?hr ?_; (case hd => rfl); (case hg => rfl); (case hr => first | (go_simp; done) | (go_simp; rfl)); intro gb208 hg w5 hbox hb; have n0_ := Aside0.mk (bt_ HB hb); have n1_ := Aside0.mk (hbox); have n2_ := Aside0.mk ((by rw [hg]; exact (bz_ HB) : w.heap.size ≤ gb208)); have n3_ := Aside0.mk ((by rw [hg]; exact (bz_ HB) : w.heap.size ≤ gb208)); clear HB; have HB := n0_; have BK208 := n1_; have GW208 := n2_; have GE208 := n3_; clear n0_ n1_ n2_ n3_; clear hb hbox hg; have hcz6_0 : w5.cell? ⟨gb208, 0, none⟩ = some (.slice A0_0 l0_0.length c0_0) := (blk_cell BK208.out 0).trans rfl; have hfz6_0 := blk_frozen BK208.out 0))
  go_loopg [3] k (fun kq v3 w' => ∃ (x3_1 : Int), v3 = .int .i64 x3_1 ∧ Aside0 (spec_DbOk.l0 kq x3_1 l0_0 = some r) ∧ Aside0 (kq ≤ k) ∧ Aside0 (w'.heap[gb208]? = some (.cells #[(.slice A0_0 l0_0.length c0_0)] 43 (0, 0))) ∧ Aside0 (Below w.heap.size w w'))
  case atStart => exact ⟨(0), (by first | rfl | (simp; done) | (simp [*]; done)), H', ⟨Nat.le_refl _⟩, ⟨by (with_reducible repeat (first | refine blk_drewN ?_ _ | refine blk_drew ?_ | refine blk_alloc ?_ _)); exact BK208.out⟩, ⟨by repeat (first | (with_reducible first | exact HB.out | apply below_alloc | apply pw_below_drewN | apply below_drew1 | refine below_set ?_ GE208.out) | exact HB.out)⟩⟩
  case round =>
   clear H'
   try clear c2
   try clear c2b0
   try clear c2b1
   try clear p2
   try clear hcz4_0
   try clear hcz6_0
   try clear hfz4_0
   try clear hfz6_0
   obtain ⟨x3_1, rfl, HA, HK1, BK208, HB⟩ := hrel
   cases gk with
   | zero => exact absurd HA.out (by simp [spec_DbOk.l0])
   | succ k1 =>
    have H := HA.out
    clear HA
    simp only [spec_DbOk.l0] at H
    by_cases c7 : x3_1 < (l0_0.length : Int)
    ·rw [if_pos c7] at H
     have c7b0 : decide (x3_1 < (l0_0.length : Int)) = true := decide_eq_true c7
     clear c7
     by_cases c8 : 0 ≤ x3_1
     ·rw [if_pos c8] at H
      have c8b0 : decide (0 ≤ x3_1) = true := decide_eq_true c8
      clear c8
      replace H := Option.bind_eq_some_iff.mp H
      obtain ⟨t210, A90, H⟩ := H
      have A9 := Aside0.mk A90
      clear A90
      by_cases c10 : t210 = true
      ·subst c10
       rw [if_pos rfl] at H
       by_cases c11 : x3_1 > 0
       ·rw [if_pos c11] at H
        have c11b0 : decide (0 < x3_1) = true := decide_eq_true c11
        clear c11
        obtain ⟨ji12, hji12⟩ : ∃ j_ : Int, (wrap64 (x3_1 - 1)) = j_ := ⟨_, rfl⟩
        first | rw [hji12] at H | simp only [hji12] at H
        (try rw [hji12] at A9)
        have hji12w : (IntKind.i64.wrap (x3_1 - 1)) = ji12 := (i64_w _).trans hji12
        by_cases c13 : 0 ≤ (ji12)
        ·rw [if_pos c13] at H
         have c13b0 : decide (0 ≤ (ji12)) = true := decide_eq_true c13
         clear c13
         by_cases c14 : (ji12) < (l0_0.length : Int)
         ·rw [if_pos c14] at H
          have c14b0 : decide ((ji12) < (l0_0.length : Int)) = true := decide_eq_true c14
          clear c14
          by_cases c15 : ((rd_T31 l0_0 (ji12)).f0) ≥ ((rd_T31 l0_0 x3_1).f0)
          ·rw [if_pos c15] at H
           have c15b0 : decide (((rd_T31 l0_0 x3_1).f0) ≤ ((rd_T31 l0_0 (ji12)).f0)) = true := decide_eq_true c15
           clear c15
           obtain rfl := Option.some.inj H
           have hcz16_0 : wr.cell? ⟨gb208, 0, none⟩ = some (.slice A0_0 l0_0.length c0_0) := (blk_cell BK208.out 0).trans rfl
           have hfz16_0 := blk_frozen BK208.out 0
           try go_wp2
           have n0_ := Aside0.mk (blk_drew BK208.out)
           have n1_ := Aside0.mk (below_drew1 HB.out)
           clear BK208
           clear HB
           have BK208 := n0_
           have HB := n1_
           clear n0_ n1_
           have p209 : 0 ≤ (x3_1 : Int) := of_decide_eq_true (by first | (with_reducible assumption) | assumption)
           have q209 : x3_1 < (l0_0.length : Int) := of_decide_eq_true (by first | (with_reducible assumption) | assumption)
           obtain ⟨ad209, A209_3, c209_3, A209_4, c209_4, e209, hx209_0, hx209_1, hx209_2, hx209_3, hx209_4, hl209_3, hi209_3, hl209_4, hi209_4⟩ := at_T31 HR0_0.out x3_1 p209 q209
           have hw209_4 := hx209_4
           have hw209_3 := hx209_3
           have hw209_2 := hx209_2
           have hw209_1 := hx209_1
           have hw209_0 := hx209_0
           cases e209
           replace hx209_0 := (HB.out.cell (World.block_lt_of_cell? w _ hx209_0)).trans hx209_0
           replace hx209_1 := (HB.out.cell (World.block_lt_of_cell? w _ hx209_1)).trans hx209_1
           replace hx209_2 := (HB.out.cell (World.block_lt_of_cell? w _ hx209_2)).trans hx209_2
           replace hx209_3 := (HB.out.cell (World.block_lt_of_cell? w _ hx209_3)).trans hx209_3
           replace hx209_4 := (HB.out.cell (World.block_lt_of_cell? w _ hx209_4)).trans hx209_4
           have HR209_3 := Aside0.mk hi209_3
           have HC209_3 := Aside0.mk hl209_3
           clear hi209_3 hl209_3
           have HR209_4 := Aside0.mk hi209_4
           have HC209_4 := Aside0.mk hl209_4
           clear hi209_4 hl209_4
           replace p209 := eq_true p209
           replace q209 := eq_true q209
           have p211 : 0 ≤ ((ji12) : Int) := of_decide_eq_true (by first | (with_reducible assumption) | assumption)
           have q211 : (ji12) < (l0_0.length : Int) := of_decide_eq_true (by first | (with_reducible assumption) | assumption)
           obtain ⟨ad211, A211_3, c211_3, A211_4, c211_4, e211, hx211_0, hx211_1, hx211_2, hx211_3, hx211_4, hl211_3, hi211_3, hl211_4, hi211_4⟩ := at_T31 HR0_0.out (ji12) p211 q211
           have hw211_4 := hx211_4
           have hw211_3 := hx211_3
           have hw211_2 := hx211_2
           have hw211_1 := hx211_1
           have hw211_0 := hx211_0
           obtain rfl : ad209 = ad211 := (by injection e211)
           replace hx211_0 := (HB.out.cell (World.block_lt_of_cell? w _ hx211_0)).trans hx211_0
           replace hx211_1 := (HB.out.cell (World.block_lt_of_cell? w _ hx211_1)).trans hx211_1
           replace hx211_2 := (HB.out.cell (World.block_lt_of_cell? w _ hx211_2)).trans hx211_2
           replace hx211_3 := (HB.out.cell (World.block_lt_of_cell? w _ hx211_3)).trans hx211_3
           replace hx211_4 := (HB.out.cell (World.block_lt_of_cell? w _ hx211_4)).trans hx211_4
           have HR211_3 := Aside0.mk hi211_3
           have HC211_3 := Aside0.mk hl211_3
           clear hi211_3 hl211_3
           have HR211_4 := Aside0.mk hi211_4
           have HC211_4 := Aside0.mk hl211_4
           clear hi211_4 hl211_4
           replace p211 := eq_true p211
           replace q211 := eq_true q211
           have p212 : 0 ≤ (x3_1 : Int) := of_decide_eq_true (by first | (with_reducible assumption) | assumption)
           have q212 : x3_1 < (l0_0.length : Int) := of_decide_eq_true (by first | (with_reducible assumption) | assumption)
           obtain ⟨ad212, A212_3, c212_3, A212_4, c212_4, e212, hx212_0, hx212_1, hx212_2, hx212_3, hx212_4, hl212_3, hi212_3, hl212_4, hi212_4⟩ := at_T31 HR0_0.out x3_1 p212 q212
           have hw212_4 := hx212_4
           have hw212_3 := hx212_3
           have hw212_2 := hx212_2
           have hw212_1 := hx212_1
           have hw212_0 := hx212_0
           obtain rfl : ad209 = ad212 := (by injection e212)
           replace hx212_0 := (HB.out.cell (World.block_lt_of_cell? w _ hx212_0)).trans hx212_0
           replace hx212_1 := (HB.out.cell (World.block_lt_of_cell? w _ hx212_1)).trans hx212_1
           replace hx212_2 := (HB.out.cell (World.block_lt_of_cell? w _ hx212_2)).trans hx212_2
           replace hx212_3 := (HB.out.cell (World.block_lt_of_cell? w _ hx212_3)).trans hx212_3
           replace hx212_4 := (HB.out.cell (World.block_lt_of_cell? w _ hx212_4)).trans hx212_4
           have HR212_3 := Aside0.mk hi212_3
           have HC212_3 := Aside0.mk hl212_3
           clear hi212_3 hl212_3
           have HR212_4 := Aside0.mk hi212_4
           have HC212_4 := Aside0.mk hl212_4
           clear hi212_4 hl212_4
           replace p212 := eq_true p212
           replace q212 := eq_true q212
           refine start_ (n := 27) (S := fun w' => w'.cell? ⟨gb208, 0, none⟩ = some (.slice (some ad209) l0_0.length c0_0) ∧ w'.cell? (ad209.add ((x3_1).toNat * 5)) = some (.int .i64 ((rd_T31 l0_0 x3_1).f0)) ∧ w'.cell? ⟨(ad209.add ((x3_1).toNat * 5)).block, (ad209.add ((x3_1).toNat * 5)).off + 1, none⟩ = some (.int .i64 ((rd_T31 l0_0 x3_1).f1)) ∧ w'.cell? ⟨(ad209.add ((x3_1).toNat * 5)).block, (ad209.add ((x3_1).toNat * 5)).off + 2, none⟩ = some (.int .i64 ((rd_T31 l0_0 x3_1).f2)) ∧ w'.cell? ⟨(ad209.add ((x3_1).toNat * 5)).block, (ad209.add ((x3_1).toNat * 5)).off + 3, none⟩ = some (.slice A209_3 ((rd_T31 l0_0 x3_1).f3).length c209_3) ∧ w'.cell? ⟨(ad209.add ((x3_1).toNat * 5)).block, (ad209.add ((x3_1).toNat * 5)).off + 4, none⟩ = some (.slice A209_4 ((rd_T31 l0_0 x3_1).f4).length c209_4) ∧ w'.cell? (ad209.add (((ji12)).toNat * 5)) = some (.int .i64 ((rd_T31 l0_0 (ji12)).f0)) ∧ w'.cell? ⟨(ad209.add (((ji12)).toNat * 5)).block, (ad209.add (((ji12)).toNat * 5)).off + 1, none⟩ = some (.int .i64 ((rd_T31 l0_0 (ji12)).f1)) ∧ w'.cell? ⟨(ad209.add (((ji12)).toNat * 5)).block, (ad209.add (((ji12)).toNat * 5)).off + 2, none⟩ = some (.int .i64 ((rd_T31 l0_0 (ji12)).f2)) ∧ w'.cell? ⟨(ad209.add (((ji12)).toNat * 5)).block, (ad209.add (((ji12)).toNat * 5)).off + 3, none⟩ = some (.slice A211_3 ((rd_T31 l0_0 (ji12)).f3).length c211_3) ∧ w'.cell? ⟨(ad209.add (((ji12)).toNat * 5)).block, (ad209.add (((ji12)).toNat * 5)).off + 4, none⟩ = some (.slice A211_4 ((rd_T31 l0_0 (ji12)).f4).length c211_4) ∧ w'.cell? (ad209.add ((x3_1).toNat * 5)) = some (.int .i64 ((rd_T31 l0_0 x3_1).f0)) ∧ w'.cell? ⟨(ad209.add ((x3_1).toNat * 5)).block, (ad209.add ((x3_1).toNat * 5)).off + 1, none⟩ = some (.int .i64 ((rd_T31 l0_0 x3_1).f1)) ∧ w'.cell? ⟨(ad209.add ((x3_1).toNat * 5)).block, (ad209.add ((x3_1).toNat * 5)).off + 2, none⟩ = some (.int .i64 ((rd_T31 l0_0 x3_1).f2)) ∧ w'.cell? ⟨(ad209.add ((x3_1).toNat * 5)).block, (ad209.add ((x3_1).toNat * 5)).off + 3, none⟩ = some (.slice A212_3 ((rd_T31 l0_0 x3_1).f3).length c212_3) ∧ w'.cell? ⟨(ad209.add ((x3_1).toNat * 5)).block, (ad209.add ((x3_1).toNat * 5)).off + 4, none⟩ = some (.slice A212_4 ((rd_T31 l0_0 x3_1).f4).length c212_4)) (ds := []) ba5_0 (by kernel_rfl) rfl rfl ⟨(blk_cell BK208.out 0).trans rfl, (hc_ HB hw209_0), (hc_ HB hw209_1), (hc_ HB hw209_2), (hc_ HB hw209_3), (hc_ HB hw209_4), (hc_ HB hw211_0), (hc_ HB hw211_1), (hc_ HB hw211_2), (hc_ HB hw211_3), (hc_ HB hw211_4), (hc_ HB hw212_0), (hc_ HB hw212_1), (hc_ HB hw212_2), (hc_ HB hw212_3), (hc_ HB hw212_4)⟩ (fun hHeld => ?_); refine with_tabW spec_DbOk.tab6 spec_DbOk.bits6 (fun HT_ HW_ => ?_)
           generalize wr.drew = w17 at BK208 HB HR209_3 HR209_4 HR211_3 HR211_4 HR212_3 HR212_4 hx209_0 hx209_1 hx209_2 hx209_3 hx209_4 hx211_0 hx211_1 hx211_2 hx211_3 hx211_4 hx212_0 hx212_1 hx212_2 hx212_3 hx212_4 hHeld ⊢
           refine pz_ 0 15 ba5_1 HT_ ?_
           refine pz_ 2 17 ba5_2 HT_ ?_
           refine pt_ 1 16 ba5_3 HT_ HW_ hHeld ?_
           refine pz_ 3 18 ba5_4 HT_ ?_
           refine pt_ 4 19 ba5_5 HT_ HW_ hHeld ?_
           refine one_ (i := 5) (N := some 20) ba5_6 rfl rfl (one_of HT_.out (by kernel_rfl)) (by decide) (fun K hK => ?_)
           refine gz_ Try.func14 #[.agg #[.int .i64 ((rd_T31 l0_0 x3_1).f0), .int .i64 ((rd_T31 l0_0 x3_1).f1), .int .i64 ((rd_T31 l0_0 x3_1).f2), .slice A209_3 ((rd_T31 l0_0 x3_1).f3).length c209_3, .slice A209_4 ((rd_T31 l0_0 x3_1).f4).length c209_4]] ?_
           with_reducible refine (spec_LsaOk.calls k1 ((rd_T31 l0_0 x3_1).f0) ((rd_T31 l0_0 x3_1).f1) ((rd_T31 l0_0 x3_1).f2) _ _ ((rd_T31 l0_0 x3_1).f3) _ _ ((rd_T31 l0_0 x3_1).f4) true _ ?side1 ?side2 ?side3 ?side4 A9.out).mono ?_
           (case side1 => repeat (first | exact (Kd.C_below HR209_3.out HB.out) | (with_reducible refine Kd.C_alloc ?_ _) | (with_reducible refine Kd.C_drewN ?_ _) | (with_reducible refine Kd.C_drew ?_)))
           (case side2 => exact HC209_3.out)
           (case side3 => repeat (first | exact (Kd.C_below HR209_4.out HB.out) | (with_reducible refine Kd.C_alloc ?_ _) | (with_reducible refine Kd.C_drewN ?_ _) | (with_reducible refine Kd.C_drew ?_)))
           (case side4 => exact HC209_4.out)
           rintro e w18 ⟨rfl, hb⟩
           refine ⟨_, rfl, ?_⟩
           have n0_ := Aside0.mk (bb_ BK208 hb)
           have n1_ := Aside0.mk (below_step (by repeat (first | (with_reducible first | exact HB.out | apply below_alloc | apply pw_below_drewN | apply below_drew1 | refine below_set ?_ GE208.out) | exact HB.out)) hb)
           clear BK208
           clear HB
           have BK208 := n0_
           have HB := n1_
           clear n0_ n1_
           (try clear hb)
           (try clear hb2)
           (try clear hk)
           (try clear hi)
           refine hK.out _ _ ⟨(blk_cell BK208.out 0).trans rfl, (hc_ HB hw209_0), (hc_ HB hw209_1), (hc_ HB hw209_2), (hc_ HB hw209_3), (hc_ HB hw209_4), (hc_ HB hw211_0), (hc_ HB hw211_1), (hc_ HB hw211_2), (hc_ HB hw211_3), (hc_ HB hw211_4), (hc_ HB hw212_0), (hc_ HB hw212_1), (hc_ HB hw212_2), (hc_ HB hw212_3), (hc_ HB hw212_4)⟩ (fun hHeld => ?_)
           clear hK K
           refine nz_ 20 ?_
           refine pz_ 6 21 ba5_7 HT_ ?_
           refine pz_ 7 22 ba5_8 HT_ ?_
           refine pz_ 8 23 ba5_9 HT_ ?_
           refine pz_ 9 24 ba5_10 HT_ ?_
           refine pz_ 10 25 ba5_11 HT_ ?_
           refine pz_ 11 26 ba5_12 HT_ ?_
           refine pz_ 13 28 ba5_13 HT_ ?_
           refine pz_ 14 29 ba5_14 HT_ ?_
           refine pz_ 18 33 ba5_15 HT_ ?_
           refine pz_ 20 35 ba5_16 HT_ ?_
           refine pt_ 12 27 ba5_17 HT_ HW_ hHeld ?_
           refine pz_ 15 30 ba5_18 HT_ ?_
           refine pz_ 16 31 ba5_19 HT_ ?_
           refine pt_ 17 32 ba5_20 HT_ HW_ hHeld ?_
           refine pt_ 19 34 ba5_21 HT_ HW_ hHeld ?_
           refine pz_ 21 36 ba5_22 HT_ ?_
           refine pz_ 22 37 ba5_23 HT_ ?_
           refine pt_ 23 38 ba5_24 HT_ HW_ hHeld ?_
           refine pz_ 24 39 ba5_25 HT_ ?_
           refine pz_ 25 40 ba5_26 HT_ ?_
           refine pz_ 26 41 ba5_27 HT_ ?_
           refine done_ (done_of HT_.out (by kernel_rfl)) ?_
           try go_wp2
           go_ret
           exact ⟨by first | rfl | (simp [errW_none, errW_some] <;> rfl) | (simp only [← hji12]; first | rfl | (simp [errW_none, errW_some] <;> rfl)) | (simp [*, errW_none, errW_some] <;> rfl), by repeat (first | (with_reducible first | exact HB.out | apply below_alloc | apply pw_below_drewN | apply below_drew1 | refine below_set ?_ GE208.out) | exact HB.out)⟩
          ·rw [if_neg c15] at H
           have c15b0 : decide (((rd_T31 l0_0 x3_1).f0) ≤ ((rd_T31 l0_0 (ji12)).f0)) = false := decide_eq_false c15
           clear c15
           have H' := Aside0.mk H
           clear H
           have hcz19_0 : wr.cell? ⟨gb208, 0, none⟩ = some (.slice A0_0 l0_0.length c0_0) := (blk_cell BK208.out 0).trans rfl
           have hfz19_0 := blk_frozen BK208.out 0
           try go_wp2
           have n0_ := Aside0.mk (blk_drew BK208.out)
           have n1_ := Aside0.mk (below_drew1 HB.out)
           clear BK208
           clear HB
           have BK208 := n0_
           have HB := n1_
           clear n0_ n1_
           have p209 : 0 ≤ (x3_1 : Int) := of_decide_eq_true (by first | (with_reducible assumption) | assumption)
           have q209 : x3_1 < (l0_0.length : Int) := of_decide_eq_true (by first | (with_reducible assumption) | assumption)
           obtain ⟨ad209, A209_3, c209_3, A209_4, c209_4, e209, hx209_0, hx209_1, hx209_2, hx209_3, hx209_4, hl209_3, hi209_3, hl209_4, hi209_4⟩ := at_T31 HR0_0.out x3_1 p209 q209
           have hw209_4 := hx209_4
           have hw209_3 := hx209_3
           have hw209_2 := hx209_2
           have hw209_1 := hx209_1
           have hw209_0 := hx209_0
           cases e209
           replace hx209_0 := (HB.out.cell (World.block_lt_of_cell? w _ hx209_0)).trans hx209_0
           replace hx209_1 := (HB.out.cell (World.block_lt_of_cell? w _ hx209_1)).trans hx209_1
           replace hx209_2 := (HB.out.cell (World.block_lt_of_cell? w _ hx209_2)).trans hx209_2
           replace hx209_3 := (HB.out.cell (World.block_lt_of_cell? w _ hx209_3)).trans hx209_3
           replace hx209_4 := (HB.out.cell (World.block_lt_of_cell? w _ hx209_4)).trans hx209_4
           have HR209_3 := Aside0.mk hi209_3
           have HC209_3 := Aside0.mk hl209_3
           clear hi209_3 hl209_3
           have HR209_4 := Aside0.mk hi209_4
           have HC209_4 := Aside0.mk hl209_4
           clear hi209_4 hl209_4
           replace p209 := eq_true p209
           replace q209 := eq_true q209
           have p211 : 0 ≤ ((ji12) : Int) := of_decide_eq_true (by first | (with_reducible assumption) | assumption)
           have q211 : (ji12) < (l0_0.length : Int) := of_decide_eq_true (by first | (with_reducible assumption) | assumption)
           obtain ⟨ad211, A211_3, c211_3, A211_4, c211_4, e211, hx211_0, hx211_1, hx211_2, hx211_3, hx211_4, hl211_3, hi211_3, hl211_4, hi211_4⟩ := at_T31 HR0_0.out (ji12) p211 q211
           have hw211_4 := hx211_4
           have hw211_3 := hx211_3
           have hw211_2 := hx211_2
           have hw211_1 := hx211_1
           have hw211_0 := hx211_0
           obtain rfl : ad209 = ad211 := (by injection e211)
           replace hx211_0 := (HB.out.cell (World.block_lt_of_cell? w _ hx211_0)).trans hx211_0
           replace hx211_1 := (HB.out.cell (World.block_lt_of_cell? w _ hx211_1)).trans hx211_1
           replace hx211_2 := (HB.out.cell (World.block_lt_of_cell? w _ hx211_2)).trans hx211_2
           replace hx211_3 := (HB.out.cell (World.block_lt_of_cell? w _ hx211_3)).trans hx211_3
           replace hx211_4 := (HB.out.cell (World.block_lt_of_cell? w _ hx211_4)).trans hx211_4
           have HR211_3 := Aside0.mk hi211_3
           have HC211_3 := Aside0.mk hl211_3
           clear hi211_3 hl211_3
           have HR211_4 := Aside0.mk hi211_4
           have HC211_4 := Aside0.mk hl211_4
           clear hi211_4 hl211_4
           replace p211 := eq_true p211
           replace q211 := eq_true q211
           have p212 : 0 ≤ (x3_1 : Int) := of_decide_eq_true (by first | (with_reducible assumption) | assumption)
           have q212 : x3_1 < (l0_0.length : Int) := of_decide_eq_true (by first | (with_reducible assumption) | assumption)
           obtain ⟨ad212, A212_3, c212_3, A212_4, c212_4, e212, hx212_0, hx212_1, hx212_2, hx212_3, hx212_4, hl212_3, hi212_3, hl212_4, hi212_4⟩ := at_T31 HR0_0.out x3_1 p212 q212
           have hw212_4 := hx212_4
           have hw212_3 := hx212_3
           have hw212_2 := hx212_2
           have hw212_1 := hx212_1
           have hw212_0 := hx212_0
           obtain rfl : ad209 = ad212 := (by injection e212)
           replace hx212_0 := (HB.out.cell (World.block_lt_of_cell? w _ hx212_0)).trans hx212_0
           replace hx212_1 := (HB.out.cell (World.block_lt_of_cell? w _ hx212_1)).trans hx212_1
           replace hx212_2 := (HB.out.cell (World.block_lt_of_cell? w _ hx212_2)).trans hx212_2
           replace hx212_3 := (HB.out.cell (World.block_lt_of_cell? w _ hx212_3)).trans hx212_3
           replace hx212_4 := (HB.out.cell (World.block_lt_of_cell? w _ hx212_4)).trans hx212_4
           have HR212_3 := Aside0.mk hi212_3
           have HC212_3 := Aside0.mk hl212_3
           clear hi212_3 hl212_3
           have HR212_4 := Aside0.mk hi212_4
           have HC212_4 := Aside0.mk hl212_4
           clear hi212_4 hl212_4
           replace p212 := eq_true p212
           replace q212 := eq_true q212
           refine start_ (n := 27) (S := fun w' => w'.cell? ⟨gb208, 0, none⟩ = some (.slice (some ad209) l0_0.length c0_0) ∧ w'.cell? (ad209.add ((x3_1).toNat * 5)) = some (.int .i64 ((rd_T31 l0_0 x3_1).f0)) ∧ w'.cell? ⟨(ad209.add ((x3_1).toNat * 5)).block, (ad209.add ((x3_1).toNat * 5)).off + 1, none⟩ = some (.int .i64 ((rd_T31 l0_0 x3_1).f1)) ∧ w'.cell? ⟨(ad209.add ((x3_1).toNat * 5)).block, (ad209.add ((x3_1).toNat * 5)).off + 2, none⟩ = some (.int .i64 ((rd_T31 l0_0 x3_1).f2)) ∧ w'.cell? ⟨(ad209.add ((x3_1).toNat * 5)).block, (ad209.add ((x3_1).toNat * 5)).off + 3, none⟩ = some (.slice A209_3 ((rd_T31 l0_0 x3_1).f3).length c209_3) ∧ w'.cell? ⟨(ad209.add ((x3_1).toNat * 5)).block, (ad209.add ((x3_1).toNat * 5)).off + 4, none⟩ = some (.slice A209_4 ((rd_T31 l0_0 x3_1).f4).length c209_4) ∧ w'.cell? (ad209.add (((ji12)).toNat * 5)) = some (.int .i64 ((rd_T31 l0_0 (ji12)).f0)) ∧ w'.cell? ⟨(ad209.add (((ji12)).toNat * 5)).block, (ad209.add (((ji12)).toNat * 5)).off + 1, none⟩ = some (.int .i64 ((rd_T31 l0_0 (ji12)).f1)) ∧ w'.cell? ⟨(ad209.add (((ji12)).toNat * 5)).block, (ad209.add (((ji12)).toNat * 5)).off + 2, none⟩ = some (.int .i64 ((rd_T31 l0_0 (ji12)).f2)) ∧ w'.cell? ⟨(ad209.add (((ji12)).toNat * 5)).block, (ad209.add (((ji12)).toNat * 5)).off + 3, none⟩ = some (.slice A211_3 ((rd_T31 l0_0 (ji12)).f3).length c211_3) ∧ w'.cell? ⟨(ad209.add (((ji12)).toNat * 5)).block, (ad209.add (((ji12)).toNat * 5)).off + 4, none⟩ = some (.slice A211_4 ((rd_T31 l0_0 (ji12)).f4).length c211_4) ∧ w'.cell? (ad209.add ((x3_1).toNat * 5)) = some (.int .i64 ((rd_T31 l0_0 x3_1).f0)) ∧ w'.cell? ⟨(ad209.add ((x3_1).toNat * 5)).block, (ad209.add ((x3_1).toNat * 5)).off + 1, none⟩ = some (.int .i64 ((rd_T31 l0_0 x3_1).f1)) ∧ w'.cell? ⟨(ad209.add ((x3_1).toNat * 5)).block, (ad209.add ((x3_1).toNat * 5)).off + 2, none⟩ = some (.int .i64 ((rd_T31 l0_0 x3_1).f2)) ∧ w'.cell? ⟨(ad209.add ((x3_1).toNat * 5)).block, (ad209.add ((x3_1).toNat * 5)).off + 3, none⟩ = some (.slice A212_3 ((rd_T31 l0_0 x3_1).f3).length c212_3) ∧ w'.cell? ⟨(ad209.add ((x3_1).toNat * 5)).block, (ad209.add ((x3_1).toNat * 5)).off + 4, none⟩ = some (.slice A212_4 ((rd_T31 l0_0 x3_1).f4).length c212_4)) (ds := []) ba5_0 (by kernel_rfl) rfl rfl ⟨(blk_cell BK208.out 0).trans rfl, (hc_ HB hw209_0), (hc_ HB hw209_1), (hc_ HB hw209_2), (hc_ HB hw209_3), (hc_ HB hw209_4), (hc_ HB hw211_0), (hc_ HB hw211_1), (hc_ HB hw211_2), (hc_ HB hw211_3), (hc_ HB hw211_4), (hc_ HB hw212_0), (hc_ HB hw212_1), (hc_ HB hw212_2), (hc_ HB hw212_3), (hc_ HB hw212_4)⟩ (fun hHeld => ?_); refine with_tabW spec_DbOk.tab6 spec_DbOk.bits6 (fun HT_ HW_ => ?_)
           generalize wr.drew = w20 at BK208 HB HR209_3 HR209_4 HR211_3 HR211_4 HR212_3 HR212_4 hx209_0 hx209_1 hx209_2 hx209_3 hx209_4 hx211_0 hx211_1 hx211_2 hx211_3 hx211_4 hx212_0 hx212_1 hx212_2 hx212_3 hx212_4 hHeld ⊢
           refine pz_ 0 15 ba5_1 HT_ ?_
           refine pz_ 2 17 ba5_2 HT_ ?_
           refine pt_ 1 16 ba5_3 HT_ HW_ hHeld ?_
           refine pz_ 3 18 ba5_4 HT_ ?_
           refine pt_ 4 19 ba5_5 HT_ HW_ hHeld ?_
           refine one_ (i := 5) (N := some 20) ba5_6 rfl rfl (one_of HT_.out (by kernel_rfl)) (by decide) (fun K hK => ?_)
           refine gz_ Try.func14 #[.agg #[.int .i64 ((rd_T31 l0_0 x3_1).f0), .int .i64 ((rd_T31 l0_0 x3_1).f1), .int .i64 ((rd_T31 l0_0 x3_1).f2), .slice A209_3 ((rd_T31 l0_0 x3_1).f3).length c209_3, .slice A209_4 ((rd_T31 l0_0 x3_1).f4).length c209_4]] ?_
           with_reducible refine (spec_LsaOk.calls k1 ((rd_T31 l0_0 x3_1).f0) ((rd_T31 l0_0 x3_1).f1) ((rd_T31 l0_0 x3_1).f2) _ _ ((rd_T31 l0_0 x3_1).f3) _ _ ((rd_T31 l0_0 x3_1).f4) true _ ?side1 ?side2 ?side3 ?side4 A9.out).mono ?_
           (case side1 => repeat (first | exact (Kd.C_below HR209_3.out HB.out) | (with_reducible refine Kd.C_alloc ?_ _) | (with_reducible refine Kd.C_drewN ?_ _) | (with_reducible refine Kd.C_drew ?_)))
           (case side2 => exact HC209_3.out)
           (case side3 => repeat (first | exact (Kd.C_below HR209_4.out HB.out) | (with_reducible refine Kd.C_alloc ?_ _) | (with_reducible refine Kd.C_drewN ?_ _) | (with_reducible refine Kd.C_drew ?_)))
           (case side4 => exact HC209_4.out)
           rintro e w21 ⟨rfl, hb⟩
           refine ⟨_, rfl, ?_⟩
           have n0_ := Aside0.mk (bb_ BK208 hb)
           have n1_ := Aside0.mk (below_step (by repeat (first | (with_reducible first | exact HB.out | apply below_alloc | apply pw_below_drewN | apply below_drew1 | refine below_set ?_ GE208.out) | exact HB.out)) hb)
           clear BK208
           clear HB
           have BK208 := n0_
           have HB := n1_
           clear n0_ n1_
           (try clear hb)
           (try clear hb2)
           (try clear hk)
           (try clear hi)
           refine hK.out _ _ ⟨(blk_cell BK208.out 0).trans rfl, (hc_ HB hw209_0), (hc_ HB hw209_1), (hc_ HB hw209_2), (hc_ HB hw209_3), (hc_ HB hw209_4), (hc_ HB hw211_0), (hc_ HB hw211_1), (hc_ HB hw211_2), (hc_ HB hw211_3), (hc_ HB hw211_4), (hc_ HB hw212_0), (hc_ HB hw212_1), (hc_ HB hw212_2), (hc_ HB hw212_3), (hc_ HB hw212_4)⟩ (fun hHeld => ?_)
           clear hK K
           refine nz_ 20 ?_
           refine pz_ 6 21 ba5_7 HT_ ?_
           refine pz_ 7 22 ba5_8 HT_ ?_
           refine pz_ 8 23 ba5_9 HT_ ?_
           refine pz_ 9 24 ba5_10 HT_ ?_
           refine pz_ 10 25 ba5_11 HT_ ?_
           refine pz_ 11 26 ba5_12 HT_ ?_
           refine pz_ 13 28 ba5_13 HT_ ?_
           refine pz_ 14 29 ba5_14 HT_ ?_
           refine pz_ 18 33 ba5_15 HT_ ?_
           refine pz_ 20 35 ba5_16 HT_ ?_
           refine pt_ 12 27 ba5_17 HT_ HW_ hHeld ?_
           refine pz_ 15 30 ba5_18 HT_ ?_
           refine pz_ 16 31 ba5_19 HT_ ?_
           refine pt_ 17 32 ba5_20 HT_ HW_ hHeld ?_
           refine pt_ 19 34 ba5_21 HT_ HW_ hHeld ?_
           refine pz_ 21 36 ba5_22 HT_ ?_
           refine pz_ 22 37 ba5_23 HT_ ?_
           refine pt_ 23 38 ba5_24 HT_ HW_ hHeld ?_
           refine pz_ 24 39 ba5_25 HT_ ?_
           refine pz_ 25 40 ba5_26 HT_ ?_
           refine pz_ 26 41 ba5_27 HT_ ?_
           refine done_ (done_of HT_.out (by kernel_rfl)) ?_
           try go_wp2
           go_roundg k1
           case measure => have := HK1.out; omega
           case rel => exact ⟨(wrap64 (x3_1 + 1)), (by first | rfl | (simp; done) | (simp [*]; done)), H', ⟨by have := HK1.out; omega⟩, ⟨by (with_reducible repeat (first | refine blk_drewN ?_ _ | refine blk_drew ?_ | refine blk_alloc ?_ _)); exact BK208.out⟩, ⟨by repeat (first | (with_reducible first | exact HB.out | apply below_alloc | apply pw_below_drewN | apply below_drew1 | refine below_set ?_ GE208.out) | exact HB.out)⟩⟩
         ·rw [if_neg c14] at H
          exact absurd H (by simp)
        ·rw [if_neg c13] at H
         exact absurd H (by simp)
       ·rw [if_neg c11] at H
        have c11b0 : decide (0 < x3_1) = false := decide_eq_false c11
        clear c11
        have H' := Aside0.mk H
        clear H
        have hcz22_0 : wr.cell? ⟨gb208, 0, none⟩ = some (.slice A0_0 l0_0.length c0_0) := (blk_cell BK208.out 0).trans rfl
        have hfz22_0 := blk_frozen BK208.out 0
        try go_wp2
        have n0_ := Aside0.mk (blk_drew BK208.out)
        have n1_ := Aside0.mk (below_drew1 HB.out)
        clear BK208
        clear HB
        have BK208 := n0_
        have HB := n1_
        clear n0_ n1_
        have p209 : 0 ≤ (x3_1 : Int) := of_decide_eq_true (by first | (with_reducible assumption) | assumption)
        have q209 : x3_1 < (l0_0.length : Int) := of_decide_eq_true (by first | (with_reducible assumption) | assumption)
        obtain ⟨ad209, A209_3, c209_3, A209_4, c209_4, e209, hx209_0, hx209_1, hx209_2, hx209_3, hx209_4, hl209_3, hi209_3, hl209_4, hi209_4⟩ := at_T31 HR0_0.out x3_1 p209 q209
        have hw209_4 := hx209_4
        have hw209_3 := hx209_3
        have hw209_2 := hx209_2
        have hw209_1 := hx209_1
        have hw209_0 := hx209_0
        cases e209
        replace hx209_0 := (HB.out.cell (World.block_lt_of_cell? w _ hx209_0)).trans hx209_0
        replace hx209_1 := (HB.out.cell (World.block_lt_of_cell? w _ hx209_1)).trans hx209_1
        replace hx209_2 := (HB.out.cell (World.block_lt_of_cell? w _ hx209_2)).trans hx209_2
        replace hx209_3 := (HB.out.cell (World.block_lt_of_cell? w _ hx209_3)).trans hx209_3
        replace hx209_4 := (HB.out.cell (World.block_lt_of_cell? w _ hx209_4)).trans hx209_4
        have HR209_3 := Aside0.mk hi209_3
        have HC209_3 := Aside0.mk hl209_3
        clear hi209_3 hl209_3
        have HR209_4 := Aside0.mk hi209_4
        have HC209_4 := Aside0.mk hl209_4
        clear hi209_4 hl209_4
        replace p209 := eq_true p209
        replace q209 := eq_true q209
        refine start_ (n := 27) (S := fun w' => w'.cell? ⟨gb208, 0, none⟩ = some (.slice (some ad209) l0_0.length c0_0) ∧ w'.cell? (ad209.add ((x3_1).toNat * 5)) = some (.int .i64 ((rd_T31 l0_0 x3_1).f0)) ∧ w'.cell? ⟨(ad209.add ((x3_1).toNat * 5)).block, (ad209.add ((x3_1).toNat * 5)).off + 1, none⟩ = some (.int .i64 ((rd_T31 l0_0 x3_1).f1)) ∧ w'.cell? ⟨(ad209.add ((x3_1).toNat * 5)).block, (ad209.add ((x3_1).toNat * 5)).off + 2, none⟩ = some (.int .i64 ((rd_T31 l0_0 x3_1).f2)) ∧ w'.cell? ⟨(ad209.add ((x3_1).toNat * 5)).block, (ad209.add ((x3_1).toNat * 5)).off + 3, none⟩ = some (.slice A209_3 ((rd_T31 l0_0 x3_1).f3).length c209_3) ∧ w'.cell? ⟨(ad209.add ((x3_1).toNat * 5)).block, (ad209.add ((x3_1).toNat * 5)).off + 4, none⟩ = some (.slice A209_4 ((rd_T31 l0_0 x3_1).f4).length c209_4)) (ds := []) ba5_0 (by kernel_rfl) rfl rfl ⟨(blk_cell BK208.out 0).trans rfl, (hc_ HB hw209_0), (hc_ HB hw209_1), (hc_ HB hw209_2), (hc_ HB hw209_3), (hc_ HB hw209_4)⟩ (fun hHeld => ?_); refine with_tabW spec_DbOk.tab6 spec_DbOk.bits6 (fun HT_ HW_ => ?_)
        generalize wr.drew = w23 at BK208 HB HR209_3 HR209_4 hx209_0 hx209_1 hx209_2 hx209_3 hx209_4 hHeld ⊢
        refine pz_ 0 15 ba5_1 HT_ ?_
        refine pz_ 2 17 ba5_2 HT_ ?_
        refine pt_ 1 16 ba5_3 HT_ HW_ hHeld ?_
        refine pz_ 3 18 ba5_4 HT_ ?_
        refine pt_ 4 19 ba5_5 HT_ HW_ hHeld ?_
        refine one_ (i := 5) (N := some 20) ba5_6 rfl rfl (one_of HT_.out (by kernel_rfl)) (by decide) (fun K hK => ?_)
        refine gz_ Try.func14 #[.agg #[.int .i64 ((rd_T31 l0_0 x3_1).f0), .int .i64 ((rd_T31 l0_0 x3_1).f1), .int .i64 ((rd_T31 l0_0 x3_1).f2), .slice A209_3 ((rd_T31 l0_0 x3_1).f3).length c209_3, .slice A209_4 ((rd_T31 l0_0 x3_1).f4).length c209_4]] ?_
        with_reducible refine (spec_LsaOk.calls k1 ((rd_T31 l0_0 x3_1).f0) ((rd_T31 l0_0 x3_1).f1) ((rd_T31 l0_0 x3_1).f2) _ _ ((rd_T31 l0_0 x3_1).f3) _ _ ((rd_T31 l0_0 x3_1).f4) true _ ?side1 ?side2 ?side3 ?side4 A9.out).mono ?_
        (case side1 => repeat (first | exact (Kd.C_below HR209_3.out HB.out) | (with_reducible refine Kd.C_alloc ?_ _) | (with_reducible refine Kd.C_drewN ?_ _) | (with_reducible refine Kd.C_drew ?_)))
        (case side2 => exact HC209_3.out)
        (case side3 => repeat (first | exact (Kd.C_below HR209_4.out HB.out) | (with_reducible refine Kd.C_alloc ?_ _) | (with_reducible refine Kd.C_drewN ?_ _) | (with_reducible refine Kd.C_drew ?_)))
        (case side4 => exact HC209_4.out)
        rintro e w24 ⟨rfl, hb⟩
        refine ⟨_, rfl, ?_⟩
        have n0_ := Aside0.mk (bb_ BK208 hb)
        have n1_ := Aside0.mk (below_step (by repeat (first | (with_reducible first | exact HB.out | apply below_alloc | apply pw_below_drewN | apply below_drew1 | refine below_set ?_ GE208.out) | exact HB.out)) hb)
        clear BK208
        clear HB
        have BK208 := n0_
        have HB := n1_
        clear n0_ n1_
        (try clear hb)
        (try clear hb2)
        (try clear hk)
        (try clear hi)
        refine hK.out _ _ ⟨(blk_cell BK208.out 0).trans rfl, (hc_ HB hw209_0), (hc_ HB hw209_1), (hc_ HB hw209_2), (hc_ HB hw209_3), (hc_ HB hw209_4)⟩ (fun hHeld => ?_)
        clear hK K
        refine nz_ 20 ?_
        refine pz_ 6 21 ba5_7 HT_ ?_
        refine pz_ 7 22 ba5_8 HT_ ?_
        refine pz_ 8 23 ba5_9 HT_ ?_
        refine pz_ 9 24 ba5_10 HT_ ?_
        refine pz_ 10 25 ba5_11 HT_ ?_
        refine pu_ 11 26 ba5_12 HT_ ?_
        refine pu_ 12 27 ba5_28 HT_ ?_
        refine pu_ 13 28 ba5_29 HT_ ?_
        refine pu_ 14 29 ba5_30 HT_ ?_
        refine pu_ 15 30 ba5_31 HT_ ?_
        refine pu_ 16 31 ba5_32 HT_ ?_
        refine pu_ 17 32 ba5_33 HT_ ?_
        refine pu_ 18 33 ba5_34 HT_ ?_
        refine pu_ 19 34 ba5_35 HT_ ?_
        refine pu_ 20 35 ba5_21 HT_ ?_
        refine pu_ 21 36 ba5_22 HT_ ?_
        refine pu_ 22 37 ba5_23 HT_ ?_
        refine pu_ 23 38 ba5_24 HT_ ?_
        refine pu_ 24 39 ba5_25 HT_ ?_
        refine pz_ 25 40 ba5_26 HT_ ?_
        refine pz_ 26 41 ba5_27 HT_ ?_
        refine done_ (done_of HT_.out (by kernel_rfl)) ?_
        try go_wp2
        go_roundg k1
        case measure => have := HK1.out; omega
        case rel => exact ⟨(wrap64 (x3_1 + 1)), (by first | rfl | (simp; done) | (simp [*]; done)), H', ⟨by have := HK1.out; omega⟩, ⟨by (with_reducible repeat (first | refine blk_drewN ?_ _ | refine blk_drew ?_ | refine blk_alloc ?_ _)); exact BK208.out⟩, ⟨by repeat (first | (with_reducible first | exact HB.out | apply below_alloc | apply pw_below_drewN | apply below_drew1 | refine below_set ?_ GE208.out) | exact HB.out)⟩⟩
      ·replace c10 := Bool.eq_false_iff.mpr c10
       subst c10
       rw [if_neg (show ¬ (false = true) by decide)] at H
       obtain rfl := Option.some.inj H
       have hcz25_0 : wr.cell? ⟨gb208, 0, none⟩ = some (.slice A0_0 l0_0.length c0_0) := (blk_cell BK208.out 0).trans rfl
       have hfz25_0 := blk_frozen BK208.out 0
       try go_wp2
       have n0_ := Aside0.mk (blk_drew BK208.out)
       have n1_ := Aside0.mk (below_drew1 HB.out)
       clear BK208
       clear HB
       have BK208 := n0_
       have HB := n1_
       clear n0_ n1_
       have p209 : 0 ≤ (x3_1 : Int) := of_decide_eq_true (by first | (with_reducible assumption) | assumption)
       have q209 : x3_1 < (l0_0.length : Int) := of_decide_eq_true (by first | (with_reducible assumption) | assumption)
       obtain ⟨ad209, A209_3, c209_3, A209_4, c209_4, e209, hx209_0, hx209_1, hx209_2, hx209_3, hx209_4, hl209_3, hi209_3, hl209_4, hi209_4⟩ := at_T31 HR0_0.out x3_1 p209 q209
       have hw209_4 := hx209_4
       have hw209_3 := hx209_3
       have hw209_2 := hx209_2
       have hw209_1 := hx209_1
       have hw209_0 := hx209_0
       cases e209
       replace hx209_0 := (HB.out.cell (World.block_lt_of_cell? w _ hx209_0)).trans hx209_0
       replace hx209_1 := (HB.out.cell (World.block_lt_of_cell? w _ hx209_1)).trans hx209_1
       replace hx209_2 := (HB.out.cell (World.block_lt_of_cell? w _ hx209_2)).trans hx209_2
       replace hx209_3 := (HB.out.cell (World.block_lt_of_cell? w _ hx209_3)).trans hx209_3
       replace hx209_4 := (HB.out.cell (World.block_lt_of_cell? w _ hx209_4)).trans hx209_4
       have HR209_3 := Aside0.mk hi209_3
       have HC209_3 := Aside0.mk hl209_3
       clear hi209_3 hl209_3
       have HR209_4 := Aside0.mk hi209_4
       have HC209_4 := Aside0.mk hl209_4
       clear hi209_4 hl209_4
       replace p209 := eq_true p209
       replace q209 := eq_true q209
       refine start_ (n := 27) (S := fun w' => w'.cell? ⟨gb208, 0, none⟩ = some (.slice (some ad209) l0_0.length c0_0) ∧ w'.cell? (ad209.add ((x3_1).toNat * 5)) = some (.int .i64 ((rd_T31 l0_0 x3_1).f0)) ∧ w'.cell? ⟨(ad209.add ((x3_1).toNat * 5)).block, (ad209.add ((x3_1).toNat * 5)).off + 1, none⟩ = some (.int .i64 ((rd_T31 l0_0 x3_1).f1)) ∧ w'.cell? ⟨(ad209.add ((x3_1).toNat * 5)).block, (ad209.add ((x3_1).toNat * 5)).off + 2, none⟩ = some (.int .i64 ((rd_T31 l0_0 x3_1).f2)) ∧ w'.cell? ⟨(ad209.add ((x3_1).toNat * 5)).block, (ad209.add ((x3_1).toNat * 5)).off + 3, none⟩ = some (.slice A209_3 ((rd_T31 l0_0 x3_1).f3).length c209_3) ∧ w'.cell? ⟨(ad209.add ((x3_1).toNat * 5)).block, (ad209.add ((x3_1).toNat * 5)).off + 4, none⟩ = some (.slice A209_4 ((rd_T31 l0_0 x3_1).f4).length c209_4)) (ds := []) ba5_0 (by kernel_rfl) rfl rfl ⟨(blk_cell BK208.out 0).trans rfl, (hc_ HB hw209_0), (hc_ HB hw209_1), (hc_ HB hw209_2), (hc_ HB hw209_3), (hc_ HB hw209_4)⟩ (fun hHeld => ?_); refine with_tabW spec_DbOk.tab6 spec_DbOk.bits6 (fun HT_ HW_ => ?_)
       generalize wr.drew = w26 at BK208 HB HR209_3 HR209_4 hx209_0 hx209_1 hx209_2 hx209_3 hx209_4 hHeld ⊢
       refine pz_ 0 15 ba5_1 HT_ ?_
       refine pz_ 2 17 ba5_2 HT_ ?_
       refine pt_ 1 16 ba5_3 HT_ HW_ hHeld ?_
       refine pz_ 3 18 ba5_4 HT_ ?_
       refine pt_ 4 19 ba5_5 HT_ HW_ hHeld ?_
       refine one_ (i := 5) (N := some 20) ba5_6 rfl rfl (one_of HT_.out (by kernel_rfl)) (by decide) (fun K hK => ?_)
       refine gz_ Try.func14 #[.agg #[.int .i64 ((rd_T31 l0_0 x3_1).f0), .int .i64 ((rd_T31 l0_0 x3_1).f1), .int .i64 ((rd_T31 l0_0 x3_1).f2), .slice A209_3 ((rd_T31 l0_0 x3_1).f3).length c209_3, .slice A209_4 ((rd_T31 l0_0 x3_1).f4).length c209_4]] ?_
       with_reducible refine (spec_LsaOk.calls k1 ((rd_T31 l0_0 x3_1).f0) ((rd_T31 l0_0 x3_1).f1) ((rd_T31 l0_0 x3_1).f2) _ _ ((rd_T31 l0_0 x3_1).f3) _ _ ((rd_T31 l0_0 x3_1).f4) false _ ?side1 ?side2 ?side3 ?side4 A9.out).mono ?_
       (case side1 => repeat (first | exact (Kd.C_below HR209_3.out HB.out) | (with_reducible refine Kd.C_alloc ?_ _) | (with_reducible refine Kd.C_drewN ?_ _) | (with_reducible refine Kd.C_drew ?_)))
       (case side2 => exact HC209_3.out)
       (case side3 => repeat (first | exact (Kd.C_below HR209_4.out HB.out) | (with_reducible refine Kd.C_alloc ?_ _) | (with_reducible refine Kd.C_drewN ?_ _) | (with_reducible refine Kd.C_drew ?_)))
       (case side4 => exact HC209_4.out)
       rintro e w27 ⟨rfl, hb⟩
       refine ⟨_, rfl, ?_⟩
       have n0_ := Aside0.mk (bb_ BK208 hb)
       have n1_ := Aside0.mk (below_step (by repeat (first | (with_reducible first | exact HB.out | apply below_alloc | apply pw_below_drewN | apply below_drew1 | refine below_set ?_ GE208.out) | exact HB.out)) hb)
       clear BK208
       clear HB
       have BK208 := n0_
       have HB := n1_
       clear n0_ n1_
       (try clear hb)
       (try clear hb2)
       (try clear hk)
       (try clear hi)
       refine hK.out _ _ ⟨(blk_cell BK208.out 0).trans rfl, (hc_ HB hw209_0), (hc_ HB hw209_1), (hc_ HB hw209_2), (hc_ HB hw209_3), (hc_ HB hw209_4)⟩ (fun hHeld => ?_)
       clear hK K
       refine nz_ 20 ?_
       refine pz_ 6 21 ba5_7 HT_ ?_
       refine pz_ 7 22 ba5_8 HT_ ?_
       refine pu_ 8 23 ba5_9 HT_ ?_
       refine pu_ 9 24 ba5_10 HT_ ?_
       refine pu_ 10 25 ba5_11 HT_ ?_
       refine pu_ 11 26 ba5_12 HT_ ?_
       refine pu_ 12 27 ba5_28 HT_ ?_
       refine pu_ 13 28 ba5_29 HT_ ?_
       refine pu_ 14 29 ba5_30 HT_ ?_
       refine pu_ 15 30 ba5_31 HT_ ?_
       refine pu_ 16 31 ba5_32 HT_ ?_
       refine pu_ 17 32 ba5_33 HT_ ?_
       refine pu_ 18 33 ba5_34 HT_ ?_
       refine pu_ 19 34 ba5_35 HT_ ?_
       refine pu_ 20 35 ba5_21 HT_ ?_
       refine pu_ 21 36 ba5_22 HT_ ?_
       refine pu_ 22 37 ba5_23 HT_ ?_
       refine pu_ 23 38 ba5_24 HT_ ?_
       refine pu_ 24 39 ba5_25 HT_ ?_
       refine pu_ 25 40 ba5_26 HT_ ?_
       refine pz_ 26 41 ba5_27 HT_ ?_
       refine done_ (done_of HT_.out (by kernel_rfl)) ?_
       try go_wp2
       go_ret
       exact ⟨by first | rfl | (simp [errW_none, errW_some] <;> rfl) | (simp [*, errW_none, errW_some] <;> rfl), by repeat (first | (with_reducible first | exact HB.out | apply below_alloc | apply pw_below_drewN | apply below_drew1 | refine below_set ?_ GE208.out) | exact HB.out)⟩
     ·rw [if_neg c8] at H
      exact absurd H (by simp)
    ·rw [if_neg c7] at H
     have c7b0 : decide (x3_1 < (l0_0.length : Int)) = false := decide_eq_false c7
     clear c7
     obtain rfl := Option.some.inj H
     have hcz28_0 : wr.cell? ⟨gb208, 0, none⟩ = some (.slice A0_0 l0_0.length c0_0) := (blk_cell BK208.out 0).trans rfl
     have hfz28_0 := blk_frozen BK208.out 0
     go_wp2
     go_ret
     exact ⟨by first | rfl | (simp [errW_none, errW_some] <;> rfl) | (simp [*, errW_none, errW_some] <;> rfl), by repeat (first | (with_reducible first | exact HB.out | apply below_alloc | apply pw_below_drewN | apply below_drew1 | refine below_set ?_ GE208.out) | exact HB.out)⟩

end Go.Proofs.Ytiikcfaodkiakaa.QFnExactDbSum
