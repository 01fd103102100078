/- Contracts of functions that the law reaches: what each call returns and what it leaves in memory. Made by this session over the print of the kit. -/
import Derived.Test.YtiikcfaodkiakaaQFnExactAgeLsax0
import Derived.Test.YtiikcfaodkiakaaQFnExactAgeLsax7
import Derived.Test.YtiikcfaodkiakaaQFnExactAgeLsax9
namespace Go.Proofs.Ytiikcfaodkiakaa.QFnExactAgeLsa
open Go.RowKit Go.Proofs.YtiikcfaodkiakaaU.PrintWords Go.Proofs.YtiikcfaodkiakaaU.PrintLast Go.Proofs.YtiikcfaodkiakaaU.PrintMore
attribute [local go_sem] max2_int min2_int max_two min_two max_three min_three max_four min_four   -- for this text's walks alone
set_option linter.unusedVariables false
set_option linter.unusedSimpArgs false
def ba10_0 : Array Bool := #[false, false, false, false, false, false, false, false, false, false, false, false, false, false, false, false, false, false, false, false, false, false, false, false, false, false]
def ba10_1 : Array Bool := #[true, false, false, false, false, false, false, false, false, false, false, false, false, false, false, false, false, false, false, false, false, false, false, false, false, false]
def ba10_2 : Array Bool := #[true, true, false, false, false, false, false, false, false, false, false, false, false, false, false, false, false, false, false, false, false, false, false, false, false, false]
def ba10_3 : Array Bool := #[true, true, true, false, false, false, false, false, false, false, false, false, false, false, false, false, false, false, false, false, false, false, false, false, false, false]
def ba10_4 : Array Bool := #[true, true, true, true, false, false, false, false, false, false, false, false, false, false, false, false, false, false, false, false, false, false, false, false, false, false]
def ba10_5 : Array Bool := #[true, true, true, true, true, false, false, false, false, false, false, false, false, false, false, false, false, false, false, false, false, false, false, false, false, false]
def ba10_6 : Array Bool := #[true, true, true, true, true, true, false, false, false, false, false, false, false, false, false, false, false, false, false, false, false, false, false, false, false, false]
def ba10_7 : Array Bool := #[true, true, true, true, true, true, true, false, false, false, false, false, false, false, false, false, false, false, false, false, false, false, false, false, false, false]
def ba10_8 : Array Bool := #[true, true, true, true, true, true, true, true, false, false, false, false, false, false, false, false, false, false, false, false, false, false, false, false, false, false]
def ba10_9 : Array Bool := #[true, true, true, true, true, true, true, true, true, false, false, false, false, false, false, false, false, false, false, false, false, false, false, false, false, false]
def ba10_10 : Array Bool := #[true, true, true, true, true, true, true, true, true, true, false, false, false, false, false, false, false, false, false, false, false, false, false, false, false, false]
def ba10_11 : Array Bool := #[true, true, true, true, true, true, true, true, true, true, true, false, false, false, false, false, false, false, false, false, false, false, false, false, false, false]
def ba10_12 : Array Bool := #[true, true, true, true, true, true, true, true, true, true, true, true, false, false, false, false, false, false, false, false, false, false, false, false, false, false]
def ba10_13 : Array Bool := #[true, true, true, true, true, true, true, true, true, true, true, true, true, false, false, false, false, false, false, false, false, false, false, false, false, false]
def ba10_14 : Array Bool := #[true, true, true, true, true, true, true, true, true, true, true, true, true, true, false, false, false, false, false, false, false, false, false, false, false, false]
def ba10_15 : Array Bool := #[true, true, true, true, true, true, true, true, true, true, true, true, true, true, true, false, false, false, false, false, false, false, false, false, false, false]
def ba10_16 : Array Bool := #[true, true, true, true, true, true, true, true, true, true, true, true, true, true, true, true, false, false, false, false, false, false, false, false, false, false]
def ba10_17 : Array Bool := #[true, true, true, true, true, true, true, true, true, true, true, true, true, true, true, true, true, false, false, false, false, false, false, false, false, false]
def ba10_18 : Array Bool := #[true, true, true, true, true, true, true, true, true, true, true, true, true, true, true, true, true, true, false, false, false, false, false, false, false, false]
def ba10_19 : Array Bool := #[true, true, true, true, true, true, true, true, true, true, true, true, true, true, true, true, true, true, true, false, false, false, false, false, false, false]
def ba10_20 : Array Bool := #[true, true, true, true, true, true, true, true, true, true, true, true, true, true, true, true, true, true, true, false, true, false, false, false, false, false]
def ba10_21 : Array Bool := #[true, true, true, true, true, true, true, true, true, true, true, true, true, true, true, true, true, true, true, true, true, false, false, false, false, false]
def ba10_22 : Array Bool := #[true, true, true, true, true, true, true, true, true, true, true, true, true, true, true, true, true, true, true, true, true, true, false, false, false, false]
def ba10_23 : Array Bool := #[true, true, true, true, true, true, true, true, true, true, true, true, true, true, true, true, true, true, true, true, true, true, true, false, false, false]
def ba10_24 : Array Bool := #[true, true, true, true, true, true, true, true, true, true, true, true, true, true, true, true, true, true, true, true, true, true, true, true, false, false]
def ba10_25 : Array Bool := #[true, true, true, true, true, true, true, true, true, true, true, true, true, true, true, true, true, true, true, true, true, true, true, true, true, false]
def ba10_26 : Array Bool := #[true, true, true, true, true, true, true, true, true, true, true, true, true, true, true, true, true, true, true, true, true, true, true, true, true, true]
def ba10_27 : Array Bool := #[true, true, true, true, true, true, true, true, true, true, true, true, true, true, true, true, true, true, true, true, false, false, false, false, false, false]

/-! ### impl_areStubs: function 57 -/
def impl_areStubs.l0 : Nat → List (S74) → List (S74) → Int → Int → Option (Bool)
 | 0, _, _, _, _ => none
 | k + 1, x0, x5, x6, x7 => if x7 < x6 then (if 0 ≤ x7 then (if x7 < (x5.length : Int) then ((impl_PrefixOk.f ((rd_T74 x5 x7).f0.f0) ((rd_T74 x5 x7).f0.f1)).bind fun t236 => (if t236 = true then ((impl_within.f ((rd_T74 x5 x7).f1) 1 1000).bind fun t237 => (if t237 = true then (if x7 > 0 then (if 0 ≤ (wrap64 (x7 - 1)) then (if (wrap64 (x7 - 1)) < (x0.length : Int) then ((impl_comparePrefixes.f ((rd_T74 x0 (wrap64 (x7 - 1))).f0.f0) ((rd_T74 x0 (wrap64 (x7 - 1))).f0.f1) ((rd_T74 x5 x7).f0.f0) ((rd_T74 x5 x7).f0.f1)).bind fun t239 => (if t239 ≥ 0 then (some false) else (impl_areStubs.l0 k x0 x5 x6 (wrap64 (x7 + 1))))) else (none)) else (none)) else (impl_areStubs.l0 k x0 x5 x6 (wrap64 (x7 + 1)))) else (some false))) else (some false))) else (none)) else (none)) else (some (decide ((x0.length : Int) ≤ 6)))
def impl_areStubs.f (k : Nat) (l0 : List (S74)) : Option (Bool) := impl_areStubs.l0 k l0 l0 (l0.length : Int) 0
theorem impl_areStubs.mono_l : ∀ k, (∀ y0 y1 y2 y3, LeO (impl_areStubs.l0 k y0 y1 y2 y3) (impl_areStubs.l0 (k + 1) y0 y1 y2 y3))
 | 0 => fun _ _ _ _ r h => by simp [impl_areStubs.l0] at h
 | k + 1 => by
  have ih0 := impl_areStubs.mono_l k
  ·intro y0 y1 y2 y3
   unfold impl_areStubs.l0
   repeat' first
   | (with_reducible exact ih0 _ _ _ _)
   | (with_reducible exact LeO.refl _)
   | (with_reducible exact LeO.none _)
   | (with_reducible refine LeO.ite ?_ ?_)
   | (with_reducible refine LeO.bind ?_ (fun _ => ?_))
   | exact ih0 _ _ _ _
   | exact LeO.none _
   | refine LeO.ite ?_ ?_
   | refine LeO.bind ?_ (fun _ => ?_)
theorem impl_areStubs.mono : ∀ a0 k, LeO (impl_areStubs.f k a0) (impl_areStubs.f (k + 1) a0) := by
 intro a0 k
 have ih0 := impl_areStubs.mono_l k
 unfold impl_areStubs.f
 repeat' first
   | (with_reducible exact ih0 _ _ _ _)
   | (with_reducible exact LeO.refl _)
   | (with_reducible exact LeO.none _)
   | (with_reducible refine LeO.ite ?_ ?_)
   | (with_reducible refine LeO.bind ?_ (fun _ => ?_))
   | exact ih0 _ _ _ _
   | exact LeO.none _
   | refine LeO.ite ?_ ?_
   | refine LeO.bind ?_ (fun _ => ?_)
def impl_areStubs.T4 : Bool × List (List Nat × List Nat) := (true, [([], []), ([0], [0]), ([1], [1]), ([2], [2]), ([3, 2], [3]), ([4], [4]), ([5, 4], [4, 5]), ([6, 4, 4], [4, 6]), ([7, 4], [4, 7]), ([4, 8], [4, 8]), ([9, 7], [9]), ([10], [10]), ([11, 10], [10, 11]), ([12, 10, 10], [10, 12]), ([13], [13]), ([13], [13]), ([15, 13], [13, 15]), ([14, 16, 13], [13, 14, 16]), ([17, 13], [13, 17]), ([18, 13], [13, 18]), ([13], [13]), ([20, 13], [13, 20]), ([19, 21, 13, 13], [13, 19, 21]), ([22, 13], [13, 22]), ([13, 23, 10], [10, 13, 23]), ([10, 24], [10, 24])])
def impl_areStubs.B4 : List Nat := [0, 1, 3, 7, 15, 31, 63, 127, 255, 511, 1023, 2047, 4095, 8191, 16383, 16383, 49151, 131071, 262143, 524287, 16383, 1064959, 4194303, 8388607, 16777215, 33554431]
theorem impl_areStubs.tab4 : rtab .any (opsOf Try.f57 4) = impl_areStubs.T4 := by kernel_rfl
theorem impl_areStubs.bits4 : waitsOk impl_areStubs.T4.2 impl_areStubs.B4 = true := by kernel_rfl
set_option maxHeartbeats 8000000 in
set_option maxRecDepth 100000 in
theorem impl_areStubs.calls (k : Nat) (A0 : Option Addr) (c0 : Nat) (l0 : List (S74)) (r : Bool) (w : World) (hr0 : Kd.C k74 w A0 l0.length l0) (hc0 : l0.length ≤ c0) (h : impl_areStubs.f k l0 = some r) :
  Calls Try.prog 57 #[.slice A0 l0.length c0] w fun e w' => e = .returned (.bool r) ∧ Below w.heap.size w w' := by
 have hu74 := Try.underlying74
 have hu72 := Try.underlying72
 have HR0 := Aside0.mk hr0
 have HC0 := Aside0.mk hc0
 clear hr0 hc0
 have HB := Aside0.mk (Below.refl w.heap.size w)
 have H : (impl_areStubs.l0 k l0 l0 (l0.length : Int) 0) = some r := h
 clear h
 have H' := Aside0.mk H
 clear H
 go_enter Try.func57, Try.ntmps57
 go_wp2
 go_loopg [7] k (fun kq v7 w' => ∃ (x7_1 : Int), v7 = .int .i64 x7_1 ∧ Aside0 (impl_areStubs.l0 kq l0 l0 (l0.length : Int) x7_1 = some r) ∧ Aside0 (kq ≤ k) ∧ Aside0 (Below w.heap.size w w'))
 case atStart => exact ⟨(0), (by first | rfl | (simp; done) | (simp [*]; done)), H', ⟨Nat.le_refl _⟩, ⟨by repeat (first | (with_reducible first | exact HB.out | apply below_alloc | apply pw_below_drewN | apply below_drew1) | exact HB.out)⟩⟩
 case round =>
  clear H'
  obtain ⟨x7_1, rfl, HA, HK1, HB⟩ := hrel
  cases gk with
  | zero => exact absurd HA.out (by simp [impl_areStubs.l0])
  | succ k1 =>
   have H := HA.out
   clear HA
   simp only [impl_areStubs.l0] at H
   by_cases c2 : x7_1 < (l0.length : Int)
   ·rw [if_pos c2] at H
    have c2b0 : decide (x7_1 < (l0.length : Int)) = true := decide_eq_true c2
    clear c2
    by_cases c3 : 0 ≤ x7_1
    ·rw [if_pos c3] at H
     have c3b0 : decide (0 ≤ x7_1) = true := decide_eq_true c3
     clear c3
     by_cases c4 : x7_1 < (l0.length : Int)
     ·rw [if_pos c4] at H
      have c4b0 : decide (x7_1 < (l0.length : Int)) = true := decide_eq_true c4
      clear c4
      replace H := Option.bind_eq_some_iff.mp H
      obtain ⟨t236, A50, H⟩ := H
      have A5 := Aside0.mk A50
      clear A50
      by_cases c6 : t236 = true
      ·subst c6
       rw [if_pos rfl] at H
       replace H := Option.bind_eq_some_iff.mp H
       obtain ⟨t237, A70, H⟩ := H
       have A7 := Aside0.mk A70
       clear A70
       by_cases c8 : t237 = true
       ·subst c8
        rw [if_pos rfl] at H
        by_cases c9 : x7_1 > 0
        ·rw [if_pos c9] at H
         have c9b0 : decide (0 < x7_1) = true := decide_eq_true c9
         clear c9
         obtain ⟨ji10, hji10⟩ : ∃ j_ : Int, (wrap64 (x7_1 - 1)) = j_ := ⟨_, rfl⟩
         first | rw [hji10] at H | simp only [hji10] at H
         (try rw [hji10] at A5)
         (try rw [hji10] at A7)
         have hji10w : (IntKind.i64.wrap (x7_1 - 1)) = ji10 := (i64_w _).trans hji10
         by_cases c11 : 0 ≤ (ji10)
         ·rw [if_pos c11] at H
          have c11b0 : decide (0 ≤ (ji10)) = true := decide_eq_true c11
          clear c11
          by_cases c12 : (ji10) < (l0.length : Int)
          ·rw [if_pos c12] at H
           have c12b0 : decide ((ji10) < (l0.length : Int)) = true := decide_eq_true c12
           clear c12
           replace H := Option.bind_eq_some_iff.mp H
           obtain ⟨t239, A130, H⟩ := H
           have A13 := Aside0.mk A130
           clear A130
           by_cases c14 : t239 ≥ 0
           ·rw [if_pos c14] at H
            have c14b0 : decide (0 ≤ t239) = true := decide_eq_true c14
            clear c14
            obtain rfl := Option.some.inj H
            have p234 : 0 ≤ (x7_1 : Int) := of_decide_eq_true (by first | (with_reducible assumption) | assumption)
            have q234 : x7_1 < (l0.length : Int) := of_decide_eq_true (by first | (with_reducible assumption) | assumption)
            obtain ⟨ad234, e234, hx234_0, hx234_1, hx234_2⟩ := at_T74 HR0.out x7_1 p234 q234
            cases e234
            replace hx234_0 := (HB.out.cell (World.block_lt_of_cell? w _ hx234_0)).trans hx234_0
            replace hx234_1 := (HB.out.cell (World.block_lt_of_cell? w _ hx234_1)).trans hx234_1
            replace hx234_2 := (HB.out.cell (World.block_lt_of_cell? w _ hx234_2)).trans hx234_2
            replace p234 := eq_true p234
            replace q234 := eq_true q234
            try go_wp2_with (first | ((with_reducible refine gate_dst (N := 4) rfl ?_); refine box_event ?hg (N := 4) ?hd (cs := #[.int .i64 0, .int .i64 0, .int .i64 0]) (t := 74) ?hr ?_; (case hd => rfl); (case hg => rfl); (case hr => first | (go_simp; done) | (go_simp; rfl)); intro gb235 hg w15 hbox hb; have BK235 := Aside0.mk hbox; have GW235 := ge_ HB hg; have GE235 := ge_ HB hg; replace HB := Aside0.mk (bt_ HB hb); clear hb hbox hg; have hcz16_0 := cz_ BK235 0 (.int .i64 0); have hcz16_1 := cz_ BK235 1 (.int .i64 0); have hcz16_2 := cz_ BK235 2 (.int .i64 0); have hfz16_0 := blk_frozen BK235.out 0; have hfz16_1 := blk_frozen BK235.out 1; have hfz16_2 := blk_frozen BK235.out 2))
            have n0_ : Aside0 ((((w15.setCell ⟨gb235, 0, none⟩ (.int .i64 ((rd_T74 l0 x7_1).f0.f0))).setCell ⟨gb235, 1, none⟩ (.int .i64 ((rd_T74 l0 x7_1).f0.f1))).setCell ⟨gb235, 2, none⟩ (.int .i64 ((rd_T74 l0 x7_1).f1))).heap[gb235]? = some (.cells #[.int .i64 ((rd_T74 l0 x7_1).f0.f0), .int .i64 ((rd_T74 l0 x7_1).f0.f1), .int .i64 ((rd_T74 l0 x7_1).f1)] 74 (0, 0))) := ⟨by (with_reducible repeat (first | refine blk_drewN ?_ _ | refine blk_drew ?_ | refine blk_alloc ?_ _)); refine blk_put (cs := #[.int .i64 ((rd_T74 l0 x7_1).f0.f0), .int .i64 ((rd_T74 l0 x7_1).f0.f1), .int .i64 0]) ?_ 2 _ rfl; (with_reducible repeat (first | refine blk_drewN ?_ _ | refine blk_drew ?_ | refine blk_alloc ?_ _)); refine blk_put (cs := #[.int .i64 ((rd_T74 l0 x7_1).f0.f0), .int .i64 0, .int .i64 0]) ?_ 1 _ rfl; (with_reducible repeat (first | refine blk_drewN ?_ _ | refine blk_drew ?_ | refine blk_alloc ?_ _)); refine blk_put (cs := #[.int .i64 0, .int .i64 0, .int .i64 0]) ?_ 0 _ rfl; (with_reducible repeat (first | refine blk_drewN ?_ _ | refine blk_drew ?_ | refine blk_alloc ?_ _)); exact BK235.out⟩
            have n1_ : Aside0 (Below w.heap.size w (((w15.setCell ⟨gb235, 0, none⟩ (.int .i64 ((rd_T74 l0 x7_1).f0.f0))).setCell ⟨gb235, 1, none⟩ (.int .i64 ((rd_T74 l0 x7_1).f0.f1))).setCell ⟨gb235, 2, none⟩ (.int .i64 ((rd_T74 l0 x7_1).f1)))) := ⟨by repeat (first | (with_reducible first | exact HB.out | apply below_alloc | apply pw_below_drewN | apply below_drew1 | refine below_set ?_ GE235.out) | exact HB.out)⟩
            (try clear BK235)
            (try clear HB)
            generalize (((w15.setCell ⟨gb235, 0, none⟩ (.int .i64 ((rd_T74 l0 x7_1).f0.f0))).setCell ⟨gb235, 1, none⟩ (.int .i64 ((rd_T74 l0 x7_1).f0.f1))).setCell ⟨gb235, 2, none⟩ (.int .i64 ((rd_T74 l0 x7_1).f1))) = w17 at n0_ n1_ ⊢
            have BK235 := n0_
            have HB := n1_
            clear n0_ n1_
            replace BK235 := Aside0.mk (blk_drew BK235.out)
            replace HB := Aside0.mk (below_drew1 HB.out)
            have p238 : 0 ≤ ((ji10) : Int) := of_decide_eq_true (by first | (with_reducible assumption) | assumption)
            have q238 : (ji10) < (l0.length : Int) := of_decide_eq_true (by first | (with_reducible assumption) | assumption)
            obtain ⟨ad238, e238, hx238_0, hx238_1, hx238_2⟩ := at_T74 HR0.out (ji10) p238 q238
            have hw238_2 := hx238_2
            have hw238_1 := hx238_1
            have hw238_0 := hx238_0
            obtain rfl : ad234 = ad238 := (by injection e238)
            replace hx238_0 := (HB.out.cell (World.block_lt_of_cell? w _ hx238_0)).trans hx238_0
            replace hx238_1 := (HB.out.cell (World.block_lt_of_cell? w _ hx238_1)).trans hx238_1
            replace hx238_2 := (HB.out.cell (World.block_lt_of_cell? w _ hx238_2)).trans hx238_2
            replace p238 := eq_true p238
            replace q238 := eq_true q238
            refine start_ (n := 26) (S := fun w' => w'.cell? ⟨gb235, 0, none⟩ = some (.int .i64 ((rd_T74 l0 x7_1).f0.f0)) ∧ w'.cell? ⟨gb235, 1, none⟩ = some (.int .i64 ((rd_T74 l0 x7_1).f0.f1)) ∧ w'.cell? ⟨gb235, 2, none⟩ = some (.int .i64 ((rd_T74 l0 x7_1).f1)) ∧ w'.cell? (ad234.add (((ji10)).toNat * 3)) = some (.int .i64 ((rd_T74 l0 (ji10)).f0.f0)) ∧ w'.cell? ⟨(ad234.add (((ji10)).toNat * 3)).block, (ad234.add (((ji10)).toNat * 3)).off + 1, none⟩ = some (.int .i64 ((rd_T74 l0 (ji10)).f0.f1)) ∧ w'.cell? ⟨(ad234.add (((ji10)).toNat * 3)).block, (ad234.add (((ji10)).toNat * 3)).off + 2, none⟩ = some (.int .i64 ((rd_T74 l0 (ji10)).f1))) (ds := []) ba10_0 (by kernel_rfl) rfl rfl ⟨(blk_cell BK235.out 0).trans rfl, (blk_cell BK235.out 1).trans rfl, (blk_cell BK235.out 2).trans rfl, (hc_ HB hw238_0), (hc_ HB hw238_1), (hc_ HB hw238_2)⟩ (fun hHeld => ?_); refine with_tabW impl_areStubs.tab4 impl_areStubs.bits4 (fun HT_ HW_ => ?_)
            generalize w17.drew = w18 at BK235 HB hx238_0 hx238_1 hx238_2 hHeld ⊢
            refine pz_ 0 12 ba10_1 HT_ ?_
            refine pt_ 1 13 ba10_2 HT_ HW_ hHeld ?_
            refine one_ (i := 2) (N := some 14) ba10_3 rfl rfl (one_of HT_.out (by kernel_rfl)) (by decide) (fun K hK => ?_)
            refine gz_ Try.func84 #[.agg #[.int .i64 ((rd_T74 l0 x7_1).f0.f0), .int .i64 ((rd_T74 l0 x7_1).f0.f1)]] ?_
            with_reducible refine (impl_PrefixOk.calls ((rd_T74 l0 x7_1).f0.f0) ((rd_T74 l0 x7_1).f0.f1) true _ A5.out).mono ?_
            rintro e w19 ⟨rfl, hb⟩
            refine ⟨_, rfl, ?_⟩
            replace BK235 := Aside0.mk (bb_ BK235 hb)
            replace HB := Aside0.mk (bt_ HB hb)
            (try clear hb)
            (try clear hb2)
            (try clear hk)
            (try clear hi)
            refine hK.out _ _ ⟨(blk_cell BK235.out 0).trans rfl, (blk_cell BK235.out 1).trans rfl, (blk_cell BK235.out 2).trans rfl, (hc_ HB hw238_0), (hc_ HB hw238_1), (hc_ HB hw238_2)⟩ (fun hHeld => ?_)
            clear hK K
            refine nz_ 14 ?_
            refine pz_ 3 15 ba10_4 HT_ ?_
            refine pz_ 4 16 ba10_5 HT_ ?_
            refine pz_ 5 17 ba10_6 HT_ ?_
            refine pt_ 6 18 ba10_7 HT_ HW_ hHeld ?_
            refine one_ (i := 7) (N := some 19) ba10_8 rfl rfl (one_of HT_.out (by kernel_rfl)) (by decide) (fun K hK => ?_)
            refine gz_ Try.func55 #[.int .i64 ((rd_T74 l0 x7_1).f1), .int .i64 1, .int .i64 1000] ?_
            with_reducible refine (impl_within.calls ((rd_T74 l0 x7_1).f1) 1 1000 true _ A7.out).mono ?_
            rintro e w' ⟨rfl, ⟨nd, rfl⟩⟩
            refine ⟨_, rfl, ?_⟩
            refine hK.out _ _ ⟨(blk_cell BK235.out 0).trans rfl, (blk_cell BK235.out 1).trans rfl, (blk_cell BK235.out 2).trans rfl, (hc_ HB hw238_0), (hc_ HB hw238_1), (hc_ HB hw238_2)⟩ (fun hHeld => ?_)
            clear hK K
            refine nz_ 19 ?_
            refine pz_ 8 20 ba10_9 HT_ ?_
            refine pz_ 9 21 ba10_10 HT_ ?_
            refine pz_ 10 22 ba10_11 HT_ ?_
            refine pz_ 11 23 ba10_12 HT_ ?_
            refine pz_ 12 24 ba10_13 HT_ ?_
            refine pz_ 13 25 ba10_14 HT_ ?_
            refine pz_ 14 26 ba10_15 HT_ ?_
            refine pz_ 15 27 ba10_16 HT_ ?_
            refine pz_ 16 28 ba10_17 HT_ ?_
            refine pz_ 17 29 ba10_18 HT_ ?_
            refine pz_ 18 30 ba10_19 HT_ ?_
            refine pz_ 20 32 ba10_20 HT_ ?_
            refine pt_ 19 31 ba10_21 HT_ HW_ hHeld ?_
            refine pt_ 21 33 ba10_22 HT_ HW_ hHeld ?_
            refine one_ (i := 22) (N := some 34) ba10_23 rfl rfl (one_of HT_.out (by kernel_rfl)) (by decide) (fun K hK => ?_)
            refine goes_ Try.func85 (by kernel_rfl) rfl #[.agg #[.int .i64 ((rd_T74 l0 (ji10)).f0.f0), .int .i64 ((rd_T74 l0 (ji10)).f0.f1)], .agg #[.int .i64 ((rd_T74 l0 x7_1).f0.f0), .int .i64 ((rd_T74 l0 x7_1).f0.f1)]] (by rfl) rfl rfl (by (try simp only [List.map_toArray, List.map_cons, List.map_nil]); first | done | (simp only [hji10]; rfl) | rfl | (simp only [List.length_drop, List.length_take]; rfl)) ?_
            with_reducible refine (impl_comparePrefixes.calls ((rd_T74 l0 (ji10)).f0.f0) ((rd_T74 l0 (ji10)).f0.f1) ((rd_T74 l0 x7_1).f0.f0) ((rd_T74 l0 x7_1).f0.f1) t239 _ A13.out).mono ?_
            rintro e w20 ⟨rfl, hb⟩
            refine ⟨_, rfl, ?_⟩
            replace BK235 := Aside0.mk (bb_ BK235 hb)
            replace HB := Aside0.mk (bt_ HB hb)
            (try clear hb)
            (try clear hb2)
            (try clear hk)
            (try clear hi)
            refine hK.out _ _ ⟨(blk_cell BK235.out 0).trans rfl, (blk_cell BK235.out 1).trans rfl, (blk_cell BK235.out 2).trans rfl, (hc_ HB hw238_0), (hc_ HB hw238_1), (hc_ HB hw238_2)⟩ (fun hHeld => ?_)
            clear hK K
            refine nz_ 34 ?_
            refine pz_ 23 35 ba10_24 HT_ ?_
            refine pz_ 24 36 ba10_25 HT_ ?_
            refine pz_ 25 37 ba10_26 HT_ ?_
            refine done_ (done_of HT_.out (by kernel_rfl)) ?_
            try go_wp2
            go_ret
            exact ⟨by first | rfl | (simp [errW_none, errW_some] <;> rfl) | (simp only [← hji10]; first | rfl | (simp [errW_none, errW_some] <;> rfl)) | (simp [*, errW_none, errW_some] <;> rfl), by repeat (first | (with_reducible first | exact HB.out | apply below_alloc | apply pw_below_drewN | apply below_drew1 | refine below_set ?_ GE235.out) | exact HB.out)⟩
           ·rw [if_neg c14] at H
            have c14b0 : decide (0 ≤ t239) = false := decide_eq_false c14
            clear c14
            have H' := Aside0.mk H
            clear H
            have p234 : 0 ≤ (x7_1 : Int) := of_decide_eq_true (by first | (with_reducible assumption) | assumption)
            have q234 : x7_1 < (l0.length : Int) := of_decide_eq_true (by first | (with_reducible assumption) | assumption)
            obtain ⟨ad234, e234, hx234_0, hx234_1, hx234_2⟩ := at_T74 HR0.out x7_1 p234 q234
            cases e234
            replace hx234_0 := (HB.out.cell (World.block_lt_of_cell? w _ hx234_0)).trans hx234_0
            replace hx234_1 := (HB.out.cell (World.block_lt_of_cell? w _ hx234_1)).trans hx234_1
            replace hx234_2 := (HB.out.cell (World.block_lt_of_cell? w _ hx234_2)).trans hx234_2
            replace p234 := eq_true p234
            replace q234 := eq_true q234
            try go_wp2_with (first | ((with_reducible refine gate_dst (N := 4) rfl ?_); refine box_event ?hg (N := 4) ?hd (cs := #[.int .i64 0, .int .i64 0, .int .i64 0]) (t := 74) ?hr ?_; (case hd => rfl); (case hg => rfl); (case hr => first | (go_simp; done) | (go_simp; rfl)); intro gb235 hg w21 hbox hb; have BK235 := Aside0.mk hbox; have GW235 := ge_ HB hg; have GE235 := ge_ HB hg; replace HB := Aside0.mk (bt_ HB hb); clear hb hbox hg; have hcz22_0 := cz_ BK235 0 (.int .i64 0); have hcz22_1 := cz_ BK235 1 (.int .i64 0); have hcz22_2 := cz_ BK235 2 (.int .i64 0); have hfz22_0 := blk_frozen BK235.out 0; have hfz22_1 := blk_frozen BK235.out 1; have hfz22_2 := blk_frozen BK235.out 2))
            have n0_ : Aside0 ((((w21.setCell ⟨gb235, 0, none⟩ (.int .i64 ((rd_T74 l0 x7_1).f0.f0))).setCell ⟨gb235, 1, none⟩ (.int .i64 ((rd_T74 l0 x7_1).f0.f1))).setCell ⟨gb235, 2, none⟩ (.int .i64 ((rd_T74 l0 x7_1).f1))).heap[gb235]? = some (.cells #[.int .i64 ((rd_T74 l0 x7_1).f0.f0), .int .i64 ((rd_T74 l0 x7_1).f0.f1), .int .i64 ((rd_T74 l0 x7_1).f1)] 74 (0, 0))) := ⟨by (with_reducible repeat (first | refine blk_drewN ?_ _ | refine blk_drew ?_ | refine blk_alloc ?_ _)); refine blk_put (cs := #[.int .i64 ((rd_T74 l0 x7_1).f0.f0), .int .i64 ((rd_T74 l0 x7_1).f0.f1), .int .i64 0]) ?_ 2 _ rfl; (with_reducible repeat (first | refine blk_drewN ?_ _ | refine blk_drew ?_ | refine blk_alloc ?_ _)); refine blk_put (cs := #[.int .i64 ((rd_T74 l0 x7_1).f0.f0), .int .i64 0, .int .i64 0]) ?_ 1 _ rfl; (with_reducible repeat (first | refine blk_drewN ?_ _ | refine blk_drew ?_ | refine blk_alloc ?_ _)); refine blk_put (cs := #[.int .i64 0, .int .i64 0, .int .i64 0]) ?_ 0 _ rfl; (with_reducible repeat (first | refine blk_drewN ?_ _ | refine blk_drew ?_ | refine blk_alloc ?_ _)); exact BK235.out⟩
            have n1_ : Aside0 (Below w.heap.size w (((w21.setCell ⟨gb235, 0, none⟩ (.int .i64 ((rd_T74 l0 x7_1).f0.f0))).setCell ⟨gb235, 1, none⟩ (.int .i64 ((rd_T74 l0 x7_1).f0.f1))).setCell ⟨gb235, 2, none⟩ (.int .i64 ((rd_T74 l0 x7_1).f1)))) := ⟨by repeat (first | (with_reducible first | exact HB.out | apply below_alloc | apply pw_below_drewN | apply below_drew1 | refine below_set ?_ GE235.out) | exact HB.out)⟩
            (try clear BK235)
            (try clear HB)
            generalize (((w21.setCell ⟨gb235, 0, none⟩ (.int .i64 ((rd_T74 l0 x7_1).f0.f0))).setCell ⟨gb235, 1, none⟩ (.int .i64 ((rd_T74 l0 x7_1).f0.f1))).setCell ⟨gb235, 2, none⟩ (.int .i64 ((rd_T74 l0 x7_1).f1))) = w23 at n0_ n1_ ⊢
            have BK235 := n0_
            have HB := n1_
            clear n0_ n1_
            replace BK235 := Aside0.mk (blk_drew BK235.out)
            replace HB := Aside0.mk (below_drew1 HB.out)
            have p238 : 0 ≤ ((ji10) : Int) := of_decide_eq_true (by first | (with_reducible assumption) | assumption)
            have q238 : (ji10) < (l0.length : Int) := of_decide_eq_true (by first | (with_reducible assumption) | assumption)
            obtain ⟨ad238, e238, hx238_0, hx238_1, hx238_2⟩ := at_T74 HR0.out (ji10) p238 q238
            have hw238_2 := hx238_2
            have hw238_1 := hx238_1
            have hw238_0 := hx238_0
            obtain rfl : ad234 = ad238 := (by injection e238)
            replace hx238_0 := (HB.out.cell (World.block_lt_of_cell? w _ hx238_0)).trans hx238_0
            replace hx238_1 := (HB.out.cell (World.block_lt_of_cell? w _ hx238_1)).trans hx238_1
            replace hx238_2 := (HB.out.cell (World.block_lt_of_cell? w _ hx238_2)).trans hx238_2
            replace p238 := eq_true p238
            replace q238 := eq_true q238
            refine start_ (n := 26) (S := fun w' => w'.cell? ⟨gb235, 0, none⟩ = some (.int .i64 ((rd_T74 l0 x7_1).f0.f0)) ∧ w'.cell? ⟨gb235, 1, none⟩ = some (.int .i64 ((rd_T74 l0 x7_1).f0.f1)) ∧ w'.cell? ⟨gb235, 2, none⟩ = some (.int .i64 ((rd_T74 l0 x7_1).f1)) ∧ w'.cell? (ad234.add (((ji10)).toNat * 3)) = some (.int .i64 ((rd_T74 l0 (ji10)).f0.f0)) ∧ w'.cell? ⟨(ad234.add (((ji10)).toNat * 3)).block, (ad234.add (((ji10)).toNat * 3)).off + 1, none⟩ = some (.int .i64 ((rd_T74 l0 (ji10)).f0.f1)) ∧ w'.cell? ⟨(ad234.add (((ji10)).toNat * 3)).block, (ad234.add (((ji10)).toNat * 3)).off + 2, none⟩ = some (.int .i64 ((rd_T74 l0 (ji10)).f1))) (ds := []) ba10_0 (by kernel_rfl) rfl rfl ⟨(blk_cell BK235.out 0).trans rfl, (blk_cell BK235.out 1).trans rfl, (blk_cell BK235.out 2).trans rfl, (hc_ HB hw238_0), (hc_ HB hw238_1), (hc_ HB hw238_2)⟩ (fun hHeld => ?_); refine with_tabW impl_areStubs.tab4 impl_areStubs.bits4 (fun HT_ HW_ => ?_)
            generalize w23.drew = w24 at BK235 HB hx238_0 hx238_1 hx238_2 hHeld ⊢
            refine pz_ 0 12 ba10_1 HT_ ?_
            refine pt_ 1 13 ba10_2 HT_ HW_ hHeld ?_
            refine one_ (i := 2) (N := some 14) ba10_3 rfl rfl (one_of HT_.out (by kernel_rfl)) (by decide) (fun K hK => ?_)
            refine gz_ Try.func84 #[.agg #[.int .i64 ((rd_T74 l0 x7_1).f0.f0), .int .i64 ((rd_T74 l0 x7_1).f0.f1)]] ?_
            with_reducible refine (impl_PrefixOk.calls ((rd_T74 l0 x7_1).f0.f0) ((rd_T74 l0 x7_1).f0.f1) true _ A5.out).mono ?_
            rintro e w25 ⟨rfl, hb⟩
            refine ⟨_, rfl, ?_⟩
            replace BK235 := Aside0.mk (bb_ BK235 hb)
            replace HB := Aside0.mk (bt_ HB hb)
            (try clear hb)
            (try clear hb2)
            (try clear hk)
            (try clear hi)
            refine hK.out _ _ ⟨(blk_cell BK235.out 0).trans rfl, (blk_cell BK235.out 1).trans rfl, (blk_cell BK235.out 2).trans rfl, (hc_ HB hw238_0), (hc_ HB hw238_1), (hc_ HB hw238_2)⟩ (fun hHeld => ?_)
            clear hK K
            refine nz_ 14 ?_
            refine pz_ 3 15 ba10_4 HT_ ?_
            refine pz_ 4 16 ba10_5 HT_ ?_
            refine pz_ 5 17 ba10_6 HT_ ?_
            refine pt_ 6 18 ba10_7 HT_ HW_ hHeld ?_
            refine one_ (i := 7) (N := some 19) ba10_8 rfl rfl (one_of HT_.out (by kernel_rfl)) (by decide) (fun K hK => ?_)
            refine gz_ Try.func55 #[.int .i64 ((rd_T74 l0 x7_1).f1), .int .i64 1, .int .i64 1000] ?_
            with_reducible refine (impl_within.calls ((rd_T74 l0 x7_1).f1) 1 1000 true _ A7.out).mono ?_
            rintro e w' ⟨rfl, ⟨nd, rfl⟩⟩
            refine ⟨_, rfl, ?_⟩
            refine hK.out _ _ ⟨(blk_cell BK235.out 0).trans rfl, (blk_cell BK235.out 1).trans rfl, (blk_cell BK235.out 2).trans rfl, (hc_ HB hw238_0), (hc_ HB hw238_1), (hc_ HB hw238_2)⟩ (fun hHeld => ?_)
            clear hK K
            refine nz_ 19 ?_
            refine pz_ 8 20 ba10_9 HT_ ?_
            refine pz_ 9 21 ba10_10 HT_ ?_
            refine pz_ 10 22 ba10_11 HT_ ?_
            refine pz_ 11 23 ba10_12 HT_ ?_
            refine pz_ 12 24 ba10_13 HT_ ?_
            refine pz_ 13 25 ba10_14 HT_ ?_
            refine pz_ 14 26 ba10_15 HT_ ?_
            refine pz_ 15 27 ba10_16 HT_ ?_
            refine pz_ 16 28 ba10_17 HT_ ?_
            refine pz_ 17 29 ba10_18 HT_ ?_
            refine pz_ 18 30 ba10_19 HT_ ?_
            refine pz_ 20 32 ba10_20 HT_ ?_
            refine pt_ 19 31 ba10_21 HT_ HW_ hHeld ?_
            refine pt_ 21 33 ba10_22 HT_ HW_ hHeld ?_
            refine one_ (i := 22) (N := some 34) ba10_23 rfl rfl (one_of HT_.out (by kernel_rfl)) (by decide) (fun K hK => ?_)
            refine goes_ Try.func85 (by kernel_rfl) rfl #[.agg #[.int .i64 ((rd_T74 l0 (ji10)).f0.f0), .int .i64 ((rd_T74 l0 (ji10)).f0.f1)], .agg #[.int .i64 ((rd_T74 l0 x7_1).f0.f0), .int .i64 ((rd_T74 l0 x7_1).f0.f1)]] (by rfl) rfl rfl (by (try simp only [List.map_toArray, List.map_cons, List.map_nil]); first | done | (simp only [hji10]; rfl) | rfl | (simp only [List.length_drop, List.length_take]; rfl)) ?_
            with_reducible refine (impl_comparePrefixes.calls ((rd_T74 l0 (ji10)).f0.f0) ((rd_T74 l0 (ji10)).f0.f1) ((rd_T74 l0 x7_1).f0.f0) ((rd_T74 l0 x7_1).f0.f1) t239 _ A13.out).mono ?_
            rintro e w26 ⟨rfl, hb⟩
            refine ⟨_, rfl, ?_⟩
            replace BK235 := Aside0.mk (bb_ BK235 hb)
            replace HB := Aside0.mk (bt_ HB hb)
            (try clear hb)
            (try clear hb2)
            (try clear hk)
            (try clear hi)
            refine hK.out _ _ ⟨(blk_cell BK235.out 0).trans rfl, (blk_cell BK235.out 1).trans rfl, (blk_cell BK235.out 2).trans rfl, (hc_ HB hw238_0), (hc_ HB hw238_1), (hc_ HB hw238_2)⟩ (fun hHeld => ?_)
            clear hK K
            refine nz_ 34 ?_
            refine pz_ 23 35 ba10_24 HT_ ?_
            refine pz_ 24 36 ba10_25 HT_ ?_
            refine pz_ 25 37 ba10_26 HT_ ?_
            refine done_ (done_of HT_.out (by kernel_rfl)) ?_
            try go_wp2
            go_roundg k1
            case measure => have := HK1.out; omega
            case rel => exact ⟨(wrap64 (x7_1 + 1)), (by first | rfl | (simp; done) | (simp [*]; done)), H', ⟨by have := HK1.out; omega⟩, ⟨by repeat (first | (with_reducible first | exact HB.out | apply below_alloc | apply pw_below_drewN | apply below_drew1 | refine below_set ?_ GE235.out) | exact HB.out)⟩⟩
          ·rw [if_neg c12] at H
           exact absurd H (by simp)
         ·rw [if_neg c11] at H
          exact absurd H (by simp)
        ·rw [if_neg c9] at H
         have c9b0 : decide (0 < x7_1) = false := decide_eq_false c9
         clear c9
         have H' := Aside0.mk H
         clear H
         have p234 : 0 ≤ (x7_1 : Int) := of_decide_eq_true (by first | (with_reducible assumption) | assumption)
         have q234 : x7_1 < (l0.length : Int) := of_decide_eq_true (by first | (with_reducible assumption) | assumption)
         obtain ⟨ad234, e234, hx234_0, hx234_1, hx234_2⟩ := at_T74 HR0.out x7_1 p234 q234
         cases e234
         replace hx234_0 := (HB.out.cell (World.block_lt_of_cell? w _ hx234_0)).trans hx234_0
         replace hx234_1 := (HB.out.cell (World.block_lt_of_cell? w _ hx234_1)).trans hx234_1
         replace hx234_2 := (HB.out.cell (World.block_lt_of_cell? w _ hx234_2)).trans hx234_2
         replace p234 := eq_true p234
         replace q234 := eq_true q234
         try go_wp2_with (first | ((with_reducible refine gate_dst (N := 4) rfl ?_); refine box_event ?hg (N := 4) ?hd (cs := #[.int .i64 0, .int .i64 0, .int .i64 0]) (t := 74) ?hr ?_; (case hd => rfl); (case hg => rfl); (case hr => first | (go_simp; done) | (go_simp; rfl)); intro gb235 hg w27 hbox hb; have BK235 := Aside0.mk hbox; have GW235 := ge_ HB hg; have GE235 := ge_ HB hg; replace HB := Aside0.mk (bt_ HB hb); clear hb hbox hg; have hcz28_0 := cz_ BK235 0 (.int .i64 0); have hcz28_1 := cz_ BK235 1 (.int .i64 0); have hcz28_2 := cz_ BK235 2 (.int .i64 0); have hfz28_0 := blk_frozen BK235.out 0; have hfz28_1 := blk_frozen BK235.out 1; have hfz28_2 := blk_frozen BK235.out 2))
         have n0_ : Aside0 ((((w27.setCell ⟨gb235, 0, none⟩ (.int .i64 ((rd_T74 l0 x7_1).f0.f0))).setCell ⟨gb235, 1, none⟩ (.int .i64 ((rd_T74 l0 x7_1).f0.f1))).setCell ⟨gb235, 2, none⟩ (.int .i64 ((rd_T74 l0 x7_1).f1))).heap[gb235]? = some (.cells #[.int .i64 ((rd_T74 l0 x7_1).f0.f0), .int .i64 ((rd_T74 l0 x7_1).f0.f1), .int .i64 ((rd_T74 l0 x7_1).f1)] 74 (0, 0))) := ⟨by (with_reducible repeat (first | refine blk_drewN ?_ _ | refine blk_drew ?_ | refine blk_alloc ?_ _)); refine blk_put (cs := #[.int .i64 ((rd_T74 l0 x7_1).f0.f0), .int .i64 ((rd_T74 l0 x7_1).f0.f1), .int .i64 0]) ?_ 2 _ rfl; (with_reducible repeat (first | refine blk_drewN ?_ _ | refine blk_drew ?_ | refine blk_alloc ?_ _)); refine blk_put (cs := #[.int .i64 ((rd_T74 l0 x7_1).f0.f0), .int .i64 0, .int .i64 0]) ?_ 1 _ rfl; (with_reducible repeat (first | refine blk_drewN ?_ _ | refine blk_drew ?_ | refine blk_alloc ?_ _)); refine blk_put (cs := #[.int .i64 0, .int .i64 0, .int .i64 0]) ?_ 0 _ rfl; (with_reducible repeat (first | refine blk_drewN ?_ _ | refine blk_drew ?_ | refine blk_alloc ?_ _)); exact BK235.out⟩
         have n1_ : Aside0 (Below w.heap.size w (((w27.setCell ⟨gb235, 0, none⟩ (.int .i64 ((rd_T74 l0 x7_1).f0.f0))).setCell ⟨gb235, 1, none⟩ (.int .i64 ((rd_T74 l0 x7_1).f0.f1))).setCell ⟨gb235, 2, none⟩ (.int .i64 ((rd_T74 l0 x7_1).f1)))) := ⟨by repeat (first | (with_reducible first | exact HB.out | apply below_alloc | apply pw_below_drewN | apply below_drew1 | refine below_set ?_ GE235.out) | exact HB.out)⟩
         (try clear BK235)
         (try clear HB)
         generalize (((w27.setCell ⟨gb235, 0, none⟩ (.int .i64 ((rd_T74 l0 x7_1).f0.f0))).setCell ⟨gb235, 1, none⟩ (.int .i64 ((rd_T74 l0 x7_1).f0.f1))).setCell ⟨gb235, 2, none⟩ (.int .i64 ((rd_T74 l0 x7_1).f1))) = w29 at n0_ n1_ ⊢
         have BK235 := n0_
         have HB := n1_
         clear n0_ n1_
         replace BK235 := Aside0.mk (blk_drew BK235.out)
         replace HB := Aside0.mk (below_drew1 HB.out)
         refine start_ (n := 26) (S := fun w' => w'.cell? ⟨gb235, 0, none⟩ = some (.int .i64 ((rd_T74 l0 x7_1).f0.f0)) ∧ w'.cell? ⟨gb235, 1, none⟩ = some (.int .i64 ((rd_T74 l0 x7_1).f0.f1)) ∧ w'.cell? ⟨gb235, 2, none⟩ = some (.int .i64 ((rd_T74 l0 x7_1).f1))) (ds := []) ba10_0 (by kernel_rfl) rfl rfl ⟨(blk_cell BK235.out 0).trans rfl, (blk_cell BK235.out 1).trans rfl, (blk_cell BK235.out 2).trans rfl⟩ (fun hHeld => ?_); refine with_tabW impl_areStubs.tab4 impl_areStubs.bits4 (fun HT_ HW_ => ?_)
         generalize w29.drew = w30 at BK235 HB hHeld ⊢
         refine pz_ 0 12 ba10_1 HT_ ?_
         refine pt_ 1 13 ba10_2 HT_ HW_ hHeld ?_
         refine one_ (i := 2) (N := some 14) ba10_3 rfl rfl (one_of HT_.out (by kernel_rfl)) (by decide) (fun K hK => ?_)
         refine gz_ Try.func84 #[.agg #[.int .i64 ((rd_T74 l0 x7_1).f0.f0), .int .i64 ((rd_T74 l0 x7_1).f0.f1)]] ?_
         with_reducible refine (impl_PrefixOk.calls ((rd_T74 l0 x7_1).f0.f0) ((rd_T74 l0 x7_1).f0.f1) true _ A5.out).mono ?_
         rintro e w31 ⟨rfl, hb⟩
         refine ⟨_, rfl, ?_⟩
         replace BK235 := Aside0.mk (bb_ BK235 hb)
         replace HB := Aside0.mk (bt_ HB hb)
         (try clear hb)
         (try clear hb2)
         (try clear hk)
         (try clear hi)
         refine hK.out _ _ ⟨(blk_cell BK235.out 0).trans rfl, (blk_cell BK235.out 1).trans rfl, (blk_cell BK235.out 2).trans rfl⟩ (fun hHeld => ?_)
         clear hK K
         refine nz_ 14 ?_
         refine pz_ 3 15 ba10_4 HT_ ?_
         refine pz_ 4 16 ba10_5 HT_ ?_
         refine pz_ 5 17 ba10_6 HT_ ?_
         refine pt_ 6 18 ba10_7 HT_ HW_ hHeld ?_
         refine one_ (i := 7) (N := some 19) ba10_8 rfl rfl (one_of HT_.out (by kernel_rfl)) (by decide) (fun K hK => ?_)
         refine gz_ Try.func55 #[.int .i64 ((rd_T74 l0 x7_1).f1), .int .i64 1, .int .i64 1000] ?_
         with_reducible refine (impl_within.calls ((rd_T74 l0 x7_1).f1) 1 1000 true _ A7.out).mono ?_
         rintro e w' ⟨rfl, ⟨nd, rfl⟩⟩
         refine ⟨_, rfl, ?_⟩
         refine hK.out _ _ ⟨(blk_cell BK235.out 0).trans rfl, (blk_cell BK235.out 1).trans rfl, (blk_cell BK235.out 2).trans rfl⟩ (fun hHeld => ?_)
         clear hK K
         refine nz_ 19 ?_
         refine pz_ 8 20 ba10_9 HT_ ?_
         refine pz_ 9 21 ba10_10 HT_ ?_
         refine pz_ 10 22 ba10_11 HT_ ?_
         refine pz_ 11 23 ba10_12 HT_ ?_
         refine pz_ 12 24 ba10_13 HT_ ?_
         refine pz_ 13 25 ba10_14 HT_ ?_
         refine pu_ 14 26 ba10_15 HT_ ?_
         refine pu_ 15 27 ba10_16 HT_ ?_
         refine pu_ 16 28 ba10_17 HT_ ?_
         refine pu_ 17 29 ba10_18 HT_ ?_
         refine pu_ 18 30 ba10_19 HT_ ?_
         refine pu_ 19 31 ba10_27 HT_ ?_
         refine pu_ 20 32 ba10_21 HT_ ?_
         refine pu_ 21 33 ba10_22 HT_ ?_
         refine pu_ 22 34 ba10_23 HT_ ?_
         refine pu_ 23 35 ba10_24 HT_ ?_
         refine pz_ 24 36 ba10_25 HT_ ?_
         refine pz_ 25 37 ba10_26 HT_ ?_
         refine done_ (done_of HT_.out (by kernel_rfl)) ?_
         try go_wp2
         go_roundg k1
         case measure => have := HK1.out; omega
         case rel => exact ⟨(wrap64 (x7_1 + 1)), (by first | rfl | (simp; done) | (simp [*]; done)), H', ⟨by have := HK1.out; omega⟩, ⟨by repeat (first | (with_reducible first | exact HB.out | apply below_alloc | apply pw_below_drewN | apply below_drew1 | refine below_set ?_ GE235.out) | exact HB.out)⟩⟩
       ·replace c8 := Bool.eq_false_iff.mpr c8
        subst c8
        rw [if_neg (show ¬ (false = true) by decide)] at H
        obtain rfl := Option.some.inj H
        have p234 : 0 ≤ (x7_1 : Int) := of_decide_eq_true (by first | (with_reducible assumption) | assumption)
        have q234 : x7_1 < (l0.length : Int) := of_decide_eq_true (by first | (with_reducible assumption) | assumption)
        obtain ⟨ad234, e234, hx234_0, hx234_1, hx234_2⟩ := at_T74 HR0.out x7_1 p234 q234
        cases e234
        replace hx234_0 := (HB.out.cell (World.block_lt_of_cell? w _ hx234_0)).trans hx234_0
        replace hx234_1 := (HB.out.cell (World.block_lt_of_cell? w _ hx234_1)).trans hx234_1
        replace hx234_2 := (HB.out.cell (World.block_lt_of_cell? w _ hx234_2)).trans hx234_2
        replace p234 := eq_true p234
        replace q234 := eq_true q234
        try go_wp2_with (first | ((with_reducible refine gate_dst (N := 4) rfl ?_); refine box_event ?hg (N := 4) ?hd (cs := #[.int .i64 0, .int .i64 0, .int .i64 0]) (t := 74) ?hr ?_; (case hd => rfl); (case hg => rfl); (case hr => first | (go_simp; done) | (go_simp; rfl)); intro gb235 hg w32 hbox hb; have BK235 := Aside0.mk hbox; have GW235 := ge_ HB hg; have GE235 := ge_ HB hg; replace HB := Aside0.mk (bt_ HB hb); clear hb hbox hg; have hcz33_0 := cz_ BK235 0 (.int .i64 0); have hcz33_1 := cz_ BK235 1 (.int .i64 0); have hcz33_2 := cz_ BK235 2 (.int .i64 0); have hfz33_0 := blk_frozen BK235.out 0; have hfz33_1 := blk_frozen BK235.out 1; have hfz33_2 := blk_frozen BK235.out 2))
        have n0_ : Aside0 ((((w32.setCell ⟨gb235, 0, none⟩ (.int .i64 ((rd_T74 l0 x7_1).f0.f0))).setCell ⟨gb235, 1, none⟩ (.int .i64 ((rd_T74 l0 x7_1).f0.f1))).setCell ⟨gb235, 2, none⟩ (.int .i64 ((rd_T74 l0 x7_1).f1))).heap[gb235]? = some (.cells #[.int .i64 ((rd_T74 l0 x7_1).f0.f0), .int .i64 ((rd_T74 l0 x7_1).f0.f1), .int .i64 ((rd_T74 l0 x7_1).f1)] 74 (0, 0))) := ⟨by (with_reducible repeat (first | refine blk_drewN ?_ _ | refine blk_drew ?_ | refine blk_alloc ?_ _)); refine blk_put (cs := #[.int .i64 ((rd_T74 l0 x7_1).f0.f0), .int .i64 ((rd_T74 l0 x7_1).f0.f1), .int .i64 0]) ?_ 2 _ rfl; (with_reducible repeat (first | refine blk_drewN ?_ _ | refine blk_drew ?_ | refine blk_alloc ?_ _)); refine blk_put (cs := #[.int .i64 ((rd_T74 l0 x7_1).f0.f0), .int .i64 0, .int .i64 0]) ?_ 1 _ rfl; (with_reducible repeat (first | refine blk_drewN ?_ _ | refine blk_drew ?_ | refine blk_alloc ?_ _)); refine blk_put (cs := #[.int .i64 0, .int .i64 0, .int .i64 0]) ?_ 0 _ rfl; (with_reducible repeat (first | refine blk_drewN ?_ _ | refine blk_drew ?_ | refine blk_alloc ?_ _)); exact BK235.out⟩
        have n1_ : Aside0 (Below w.heap.size w (((w32.setCell ⟨gb235, 0, none⟩ (.int .i64 ((rd_T74 l0 x7_1).f0.f0))).setCell ⟨gb235, 1, none⟩ (.int .i64 ((rd_T74 l0 x7_1).f0.f1))).setCell ⟨gb235, 2, none⟩ (.int .i64 ((rd_T74 l0 x7_1).f1)))) := ⟨by repeat (first | (with_reducible first | exact HB.out | apply below_alloc | apply pw_below_drewN | apply below_drew1 | refine below_set ?_ GE235.out) | exact HB.out)⟩
        (try clear BK235)
        (try clear HB)
        generalize (((w32.setCell ⟨gb235, 0, none⟩ (.int .i64 ((rd_T74 l0 x7_1).f0.f0))).setCell ⟨gb235, 1, none⟩ (.int .i64 ((rd_T74 l0 x7_1).f0.f1))).setCell ⟨gb235, 2, none⟩ (.int .i64 ((rd_T74 l0 x7_1).f1))) = w34 at n0_ n1_ ⊢
        have BK235 := n0_
        have HB := n1_
        clear n0_ n1_
        replace BK235 := Aside0.mk (blk_drew BK235.out)
        replace HB := Aside0.mk (below_drew1 HB.out)
        refine start_ (n := 26) (S := fun w' => w'.cell? ⟨gb235, 0, none⟩ = some (.int .i64 ((rd_T74 l0 x7_1).f0.f0)) ∧ w'.cell? ⟨gb235, 1, none⟩ = some (.int .i64 ((rd_T74 l0 x7_1).f0.f1)) ∧ w'.cell? ⟨gb235, 2, none⟩ = some (.int .i64 ((rd_T74 l0 x7_1).f1))) (ds := []) ba10_0 (by kernel_rfl) rfl rfl ⟨(blk_cell BK235.out 0).trans rfl, (blk_cell BK235.out 1).trans rfl, (blk_cell BK235.out 2).trans rfl⟩ (fun hHeld => ?_); refine with_tabW impl_areStubs.tab4 impl_areStubs.bits4 (fun HT_ HW_ => ?_)
        generalize w34.drew = w35 at BK235 HB hHeld ⊢
        refine pz_ 0 12 ba10_1 HT_ ?_
        refine pt_ 1 13 ba10_2 HT_ HW_ hHeld ?_
        refine one_ (i := 2) (N := some 14) ba10_3 rfl rfl (one_of HT_.out (by kernel_rfl)) (by decide) (fun K hK => ?_)
        refine gz_ Try.func84 #[.agg #[.int .i64 ((rd_T74 l0 x7_1).f0.f0), .int .i64 ((rd_T74 l0 x7_1).f0.f1)]] ?_
        with_reducible refine (impl_PrefixOk.calls ((rd_T74 l0 x7_1).f0.f0) ((rd_T74 l0 x7_1).f0.f1) true _ A5.out).mono ?_
        rintro e w36 ⟨rfl, hb⟩
        refine ⟨_, rfl, ?_⟩
        replace BK235 := Aside0.mk (bb_ BK235 hb)
        replace HB := Aside0.mk (bt_ HB hb)
        (try clear hb)
        (try clear hb2)
        (try clear hk)
        (try clear hi)
        refine hK.out _ _ ⟨(blk_cell BK235.out 0).trans rfl, (blk_cell BK235.out 1).trans rfl, (blk_cell BK235.out 2).trans rfl⟩ (fun hHeld => ?_)
        clear hK K
        refine nz_ 14 ?_
        refine pz_ 3 15 ba10_4 HT_ ?_
        refine pz_ 4 16 ba10_5 HT_ ?_
        refine pz_ 5 17 ba10_6 HT_ ?_
        refine pt_ 6 18 ba10_7 HT_ HW_ hHeld ?_
        refine one_ (i := 7) (N := some 19) ba10_8 rfl rfl (one_of HT_.out (by kernel_rfl)) (by decide) (fun K hK => ?_)
        refine gz_ Try.func55 #[.int .i64 ((rd_T74 l0 x7_1).f1), .int .i64 1, .int .i64 1000] ?_
        with_reducible refine (impl_within.calls ((rd_T74 l0 x7_1).f1) 1 1000 false _ A7.out).mono ?_
        rintro e w' ⟨rfl, ⟨nd, rfl⟩⟩
        refine ⟨_, rfl, ?_⟩
        refine hK.out _ _ ⟨(blk_cell BK235.out 0).trans rfl, (blk_cell BK235.out 1).trans rfl, (blk_cell BK235.out 2).trans rfl⟩ (fun hHeld => ?_)
        clear hK K
        refine nz_ 19 ?_
        refine pz_ 8 20 ba10_9 HT_ ?_
        refine pz_ 9 21 ba10_10 HT_ ?_
        refine pz_ 10 22 ba10_11 HT_ ?_
        refine pu_ 11 23 ba10_12 HT_ ?_
        refine pu_ 12 24 ba10_13 HT_ ?_
        refine pu_ 13 25 ba10_14 HT_ ?_
        refine pu_ 14 26 ba10_15 HT_ ?_
        refine pu_ 15 27 ba10_16 HT_ ?_
        refine pu_ 16 28 ba10_17 HT_ ?_
        refine pu_ 17 29 ba10_18 HT_ ?_
        refine pu_ 18 30 ba10_19 HT_ ?_
        refine pu_ 19 31 ba10_27 HT_ ?_
        refine pu_ 20 32 ba10_21 HT_ ?_
        refine pu_ 21 33 ba10_22 HT_ ?_
        refine pu_ 22 34 ba10_23 HT_ ?_
        refine pu_ 23 35 ba10_24 HT_ ?_
        refine pu_ 24 36 ba10_25 HT_ ?_
        refine pz_ 25 37 ba10_26 HT_ ?_
        refine done_ (done_of HT_.out (by kernel_rfl)) ?_
        try go_wp2
        go_ret
        exact ⟨by first | rfl | (simp [errW_none, errW_some] <;> rfl) | (simp [*, errW_none, errW_some] <;> rfl), by repeat (first | (with_reducible first | exact HB.out | apply below_alloc | apply pw_below_drewN | apply below_drew1 | refine below_set ?_ GE235.out) | exact HB.out)⟩
      ·replace c6 := Bool.eq_false_iff.mpr c6
       subst c6
       rw [if_neg (show ¬ (false = true) by decide)] at H
       obtain rfl := Option.some.inj H
       have p234 : 0 ≤ (x7_1 : Int) := of_decide_eq_true (by first | (with_reducible assumption) | assumption)
       have q234 : x7_1 < (l0.length : Int) := of_decide_eq_true (by first | (with_reducible assumption) | assumption)
       obtain ⟨ad234, e234, hx234_0, hx234_1, hx234_2⟩ := at_T74 HR0.out x7_1 p234 q234
       cases e234
       replace hx234_0 := (HB.out.cell (World.block_lt_of_cell? w _ hx234_0)).trans hx234_0
       replace hx234_1 := (HB.out.cell (World.block_lt_of_cell? w _ hx234_1)).trans hx234_1
       replace hx234_2 := (HB.out.cell (World.block_lt_of_cell? w _ hx234_2)).trans hx234_2
       replace p234 := eq_true p234
       replace q234 := eq_true q234
       try go_wp2_with (first | ((with_reducible refine gate_dst (N := 4) rfl ?_); refine box_event ?hg (N := 4) ?hd (cs := #[.int .i64 0, .int .i64 0, .int .i64 0]) (t := 74) ?hr ?_; (case hd => rfl); (case hg => rfl); (case hr => first | (go_simp; done) | (go_simp; rfl)); intro gb235 hg w37 hbox hb; have BK235 := Aside0.mk hbox; have GW235 := ge_ HB hg; have GE235 := ge_ HB hg; replace HB := Aside0.mk (bt_ HB hb); clear hb hbox hg; have hcz38_0 := cz_ BK235 0 (.int .i64 0); have hcz38_1 := cz_ BK235 1 (.int .i64 0); have hcz38_2 := cz_ BK235 2 (.int .i64 0); have hfz38_0 := blk_frozen BK235.out 0; have hfz38_1 := blk_frozen BK235.out 1; have hfz38_2 := blk_frozen BK235.out 2))
       have n0_ : Aside0 ((((w37.setCell ⟨gb235, 0, none⟩ (.int .i64 ((rd_T74 l0 x7_1).f0.f0))).setCell ⟨gb235, 1, none⟩ (.int .i64 ((rd_T74 l0 x7_1).f0.f1))).setCell ⟨gb235, 2, none⟩ (.int .i64 ((rd_T74 l0 x7_1).f1))).heap[gb235]? = some (.cells #[.int .i64 ((rd_T74 l0 x7_1).f0.f0), .int .i64 ((rd_T74 l0 x7_1).f0.f1), .int .i64 ((rd_T74 l0 x7_1).f1)] 74 (0, 0))) := ⟨by (with_reducible repeat (first | refine blk_drewN ?_ _ | refine blk_drew ?_ | refine blk_alloc ?_ _)); refine blk_put (cs := #[.int .i64 ((rd_T74 l0 x7_1).f0.f0), .int .i64 ((rd_T74 l0 x7_1).f0.f1), .int .i64 0]) ?_ 2 _ rfl; (with_reducible repeat (first | refine blk_drewN ?_ _ | refine blk_drew ?_ | refine blk_alloc ?_ _)); refine blk_put (cs := #[.int .i64 ((rd_T74 l0 x7_1).f0.f0), .int .i64 0, .int .i64 0]) ?_ 1 _ rfl; (with_reducible repeat (first | refine blk_drewN ?_ _ | refine blk_drew ?_ | refine blk_alloc ?_ _)); refine blk_put (cs := #[.int .i64 0, .int .i64 0, .int .i64 0]) ?_ 0 _ rfl; (with_reducible repeat (first | refine blk_drewN ?_ _ | refine blk_drew ?_ | refine blk_alloc ?_ _)); exact BK235.out⟩
       have n1_ : Aside0 (Below w.heap.size w (((w37.setCell ⟨gb235, 0, none⟩ (.int .i64 ((rd_T74 l0 x7_1).f0.f0))).setCell ⟨gb235, 1, none⟩ (.int .i64 ((rd_T74 l0 x7_1).f0.f1))).setCell ⟨gb235, 2, none⟩ (.int .i64 ((rd_T74 l0 x7_1).f1)))) := ⟨by repeat (first | (with_reducible first | exact HB.out | apply below_alloc | apply pw_below_drewN | apply below_drew1 | refine below_set ?_ GE235.out) | exact HB.out)⟩
       (try clear BK235)
       (try clear HB)
       generalize (((w37.setCell ⟨gb235, 0, none⟩ (.int .i64 ((rd_T74 l0 x7_1).f0.f0))).setCell ⟨gb235, 1, none⟩ (.int .i64 ((rd_T74 l0 x7_1).f0.f1))).setCell ⟨gb235, 2, none⟩ (.int .i64 ((rd_T74 l0 x7_1).f1))) = w39 at n0_ n1_ ⊢
       have BK235 := n0_
       have HB := n1_
       clear n0_ n1_
       replace BK235 := Aside0.mk (blk_drew BK235.out)
       replace HB := Aside0.mk (below_drew1 HB.out)
       refine start_ (n := 26) (S := fun w' => w'.cell? ⟨gb235, 0, none⟩ = some (.int .i64 ((rd_T74 l0 x7_1).f0.f0)) ∧ w'.cell? ⟨gb235, 1, none⟩ = some (.int .i64 ((rd_T74 l0 x7_1).f0.f1)) ∧ w'.cell? ⟨gb235, 2, none⟩ = some (.int .i64 ((rd_T74 l0 x7_1).f1))) (ds := []) ba10_0 (by kernel_rfl) rfl rfl ⟨(blk_cell BK235.out 0).trans rfl, (blk_cell BK235.out 1).trans rfl, (blk_cell BK235.out 2).trans rfl⟩ (fun hHeld => ?_); refine with_tabW impl_areStubs.tab4 impl_areStubs.bits4 (fun HT_ HW_ => ?_)
       generalize w39.drew = w40 at BK235 HB hHeld ⊢
       refine pz_ 0 12 ba10_1 HT_ ?_
       refine pt_ 1 13 ba10_2 HT_ HW_ hHeld ?_
       refine one_ (i := 2) (N := some 14) ba10_3 rfl rfl (one_of HT_.out (by kernel_rfl)) (by decide) (fun K hK => ?_)
       refine gz_ Try.func84 #[.agg #[.int .i64 ((rd_T74 l0 x7_1).f0.f0), .int .i64 ((rd_T74 l0 x7_1).f0.f1)]] ?_
       with_reducible refine (impl_PrefixOk.calls ((rd_T74 l0 x7_1).f0.f0) ((rd_T74 l0 x7_1).f0.f1) false _ A5.out).mono ?_
       rintro e w41 ⟨rfl, hb⟩
       refine ⟨_, rfl, ?_⟩
       replace BK235 := Aside0.mk (bb_ BK235 hb)
       replace HB := Aside0.mk (bt_ HB hb)
       (try clear hb)
       (try clear hb2)
       (try clear hk)
       (try clear hi)
       refine hK.out _ _ ⟨(blk_cell BK235.out 0).trans rfl, (blk_cell BK235.out 1).trans rfl, (blk_cell BK235.out 2).trans rfl⟩ (fun hHeld => ?_)
       clear hK K
       refine nz_ 14 ?_
       refine pz_ 3 15 ba10_4 HT_ ?_
       refine pz_ 4 16 ba10_5 HT_ ?_
       refine pu_ 5 17 ba10_6 HT_ ?_
       refine pu_ 6 18 ba10_7 HT_ ?_
       refine pu_ 7 19 ba10_8 HT_ ?_
       refine pu_ 8 20 ba10_9 HT_ ?_
       refine pz_ 9 21 ba10_10 HT_ ?_
       refine pz_ 10 22 ba10_11 HT_ ?_
       refine pu_ 11 23 ba10_12 HT_ ?_
       refine pu_ 12 24 ba10_13 HT_ ?_
       refine pu_ 13 25 ba10_14 HT_ ?_
       refine pu_ 14 26 ba10_15 HT_ ?_
       refine pu_ 15 27 ba10_16 HT_ ?_
       refine pu_ 16 28 ba10_17 HT_ ?_
       refine pu_ 17 29 ba10_18 HT_ ?_
       refine pu_ 18 30 ba10_19 HT_ ?_
       refine pu_ 19 31 ba10_27 HT_ ?_
       refine pu_ 20 32 ba10_21 HT_ ?_
       refine pu_ 21 33 ba10_22 HT_ ?_
       refine pu_ 22 34 ba10_23 HT_ ?_
       refine pu_ 23 35 ba10_24 HT_ ?_
       refine pu_ 24 36 ba10_25 HT_ ?_
       refine pz_ 25 37 ba10_26 HT_ ?_
       refine done_ (done_of HT_.out (by kernel_rfl)) ?_
       try go_wp2
       go_ret
       exact ⟨by first | rfl | (simp [errW_none, errW_some] <;> rfl) | (simp [*, errW_none, errW_some] <;> rfl), by repeat (first | (with_reducible first | exact HB.out | apply below_alloc | apply pw_below_drewN | apply below_drew1 | refine below_set ?_ GE235.out) | exact HB.out)⟩
     ·rw [if_neg c4] at H
      exact absurd H (by simp)
    ·rw [if_neg c3] at H
     exact absurd H (by simp)
   ·rw [if_neg c2] at H
    have c2b0 : decide (x7_1 < (l0.length : Int)) = false := decide_eq_false c2
    clear c2
    obtain rfl := Option.some.inj H
    go_wp2
    go_ret
    exact ⟨by first | rfl | (simp [errW_none, errW_some] <;> rfl) | (simp [*, errW_none, errW_some] <;> rfl), by repeat (first | (with_reducible first | exact HB.out | apply below_alloc | apply pw_below_drewN | apply below_drew1) | exact HB.out)⟩

end Go.Proofs.Ytiikcfaodkiakaa.QFnExactAgeLsa
