/- Contracts of functions that the law reaches: what each call returns and what it leaves in memory. Made by this session over the print of the kit. -/
import Derived.Test.YtiikcfaodkiakaaQFnExactAgeLsax0
import Derived.Test.YtiikcfaodkiakaaQFnExactAgeLsax7
namespace Go.Proofs.Ytiikcfaodkiakaa.QFnExactAgeLsa
open Go.RowKit Go.Proofs.YtiikcfaodkiakaaU.PrintWords Go.Proofs.YtiikcfaodkiakaaU.PrintLast Go.Proofs.YtiikcfaodkiakaaU.PrintMore
attribute [local go_sem] max2_int min2_int max_two min_two max_three min_three max_four min_four   -- for this text's walks alone
set_option linter.unusedVariables false
set_option linter.unusedSimpArgs false
def ba8_0 : Array Bool := #[false, false, false, false, false, false, false, false, false, false, false, false, false, false, false, false, false, false, false, false, false, false, false, false, false, false, false, false, false, false, false]
def ba8_1 : Array Bool := #[true, false, false, false, false, false, false, false, false, false, false, false, false, false, false, false, false, false, false, false, false, false, false, false, false, false, false, false, false, false, false]
def ba8_2 : Array Bool := #[true, true, false, false, false, false, false, false, false, false, false, false, false, false, false, false, false, false, false, false, false, false, false, false, false, false, false, false, false, false, false]
def ba8_3 : Array Bool := #[true, true, true, false, false, false, false, false, false, false, false, false, false, false, false, false, false, false, false, false, false, false, false, false, false, false, false, false, false, false, false]
def ba8_4 : Array Bool := #[true, true, true, true, false, false, false, false, false, false, false, false, false, false, false, false, false, false, false, false, false, false, false, false, false, false, false, false, false, false, false]
def ba8_5 : Array Bool := #[true, true, true, true, true, false, false, false, false, false, false, false, false, false, false, false, false, false, false, false, false, false, false, false, false, false, false, false, false, false, false]
def ba8_6 : Array Bool := #[true, true, true, true, true, true, false, false, false, false, false, false, false, false, false, false, false, false, false, false, false, false, false, false, false, false, false, false, false, false, false]
def ba8_7 : Array Bool := #[true, true, true, true, true, true, true, false, false, false, false, false, false, false, false, false, false, false, false, false, false, false, false, false, false, false, false, false, false, false, false]
def ba8_8 : Array Bool := #[true, true, true, true, true, true, true, true, false, false, false, false, false, false, false, false, false, false, false, false, false, false, false, false, false, false, false, false, false, false, false]
def ba8_9 : Array Bool := #[true, true, true, true, true, true, true, true, true, false, false, false, false, false, false, false, false, false, false, false, false, false, false, false, false, false, false, false, false, false, false]
def ba8_10 : Array Bool := #[true, true, true, true, true, true, true, true, true, true, false, false, false, false, false, false, false, false, false, false, false, false, false, false, false, false, false, false, false, false, false]
def ba8_11 : Array Bool := #[true, true, true, true, true, true, true, true, true, true, true, false, false, false, false, false, false, false, false, false, false, false, false, false, false, false, false, false, false, false, false]
def ba8_12 : Array Bool := #[true, true, true, true, true, true, true, true, true, true, true, true, false, false, false, false, false, false, false, false, false, false, false, false, false, false, false, false, false, false, false]
def ba8_13 : Array Bool := #[true, true, true, true, true, true, true, true, true, true, true, true, false, true, false, false, false, false, false, false, false, false, false, false, false, false, false, false, false, false, false]
def ba8_14 : Array Bool := #[true, true, true, true, true, true, true, true, true, true, true, true, true, true, false, false, false, false, false, false, false, false, false, false, false, false, false, false, false, false, false]
def ba8_15 : Array Bool := #[true, true, true, true, true, true, true, true, true, true, true, true, true, true, true, false, false, false, false, false, false, false, false, false, false, false, false, false, false, false, false]
def ba8_16 : Array Bool := #[true, true, true, true, true, true, true, true, true, true, true, true, true, true, true, true, false, false, false, false, false, false, false, false, false, false, false, false, false, false, false]
def ba8_17 : Array Bool := #[true, true, true, true, true, true, true, true, true, true, true, true, true, true, true, true, true, false, false, false, false, false, false, false, false, false, false, false, false, false, false]
def ba8_18 : Array Bool := #[true, true, true, true, true, true, true, true, true, true, true, true, true, true, true, true, true, true, false, false, false, false, false, false, false, false, false, false, false, false, false]
def ba8_19 : Array Bool := #[true, true, true, true, true, true, true, true, true, true, true, true, true, true, true, true, true, true, true, false, false, false, false, false, false, false, false, false, false, false, false]
def ba8_20 : Array Bool := #[true, true, true, true, true, true, true, true, true, true, true, true, true, true, true, true, true, true, true, true, false, false, false, false, false, false, false, false, false, false, false]
def ba8_21 : Array Bool := #[true, true, true, true, true, true, true, true, true, true, true, true, true, true, true, true, true, true, true, true, true, false, false, false, false, false, false, false, false, false, false]
def ba8_22 : Array Bool := #[true, true, true, true, true, true, true, true, true, true, true, true, true, true, true, true, true, true, true, true, true, true, false, false, false, false, false, false, false, false, false]
def ba8_23 : Array Bool := #[true, true, true, true, true, true, true, true, true, true, true, true, true, true, true, true, true, true, true, true, true, true, true, false, false, false, false, false, false, false, false]
def ba8_24 : Array Bool := #[true, true, true, true, true, true, true, true, true, true, true, true, true, true, true, true, true, true, true, true, true, true, true, true, false, false, false, false, false, false, false]
def ba8_25 : Array Bool := #[true, true, true, true, true, true, true, true, true, true, true, true, true, true, true, true, true, true, true, true, true, true, true, true, true, false, false, false, false, false, false]
def ba8_26 : Array Bool := #[true, true, true, true, true, true, true, true, true, true, true, true, true, true, true, true, true, true, true, true, true, true, true, true, true, true, false, false, false, false, false]
def ba8_27 : Array Bool := #[true, true, true, true, true, true, true, true, true, true, true, true, true, true, true, true, true, true, true, true, true, true, true, true, true, true, true, false, false, false, false]
def ba8_28 : Array Bool := #[true, true, true, true, true, true, true, true, true, true, true, true, true, true, true, true, true, true, true, true, true, true, true, true, true, true, true, true, false, false, false]
def ba8_29 : Array Bool := #[true, true, true, true, true, true, true, true, true, true, true, true, true, true, true, true, true, true, true, true, true, true, true, true, true, true, true, true, true, false, false]
def ba8_30 : Array Bool := #[true, true, true, true, true, true, true, true, true, true, true, true, true, true, true, true, true, true, true, true, true, true, true, true, true, true, true, true, true, true, false]
def ba8_31 : Array Bool := #[true, true, true, true, true, true, true, true, true, true, true, true, true, true, true, true, true, true, true, true, true, true, true, true, true, true, true, true, true, true, true]
def ba8_32 : Array Bool := #[true, true, true, true, true, true, true, true, true, true, true, true, true, true, true, true, true, true, true, true, true, false, true, false, false, false, false, false, false, false, false]
def ba8_33 : Array Bool := #[true, true, true, true, true, true, true, true, true, true, true, true, true, true, true, true, true, true, true, true, true, false, true, true, false, false, false, false, false, false, false]
def ba8_34 : Array Bool := #[true, true, true, true, true, true, true, true, true, true, true, true, true, true, true, true, true, true, true, true, true, false, true, true, true, false, false, false, false, false, false]
def ba8_35 : Array Bool := #[true, true, true, true, true, true, true, true, true, true, true, true, true, true, true, true, true, true, true, true, true, false, true, true, true, true, false, false, false, false, false]
def ba8_36 : Array Bool := #[true, true, true, true, true, true, true, true, true, true, true, true, true, true, true, true, true, true, true, true, true, false, true, true, true, true, true, false, false, false, false]
def ba8_37 : Array Bool := #[true, true, true, true, true, true, true, true, true, true, true, true, true, false, false, false, false, false, false, false, false, false, false, false, false, false, false, false, false, false, false]

/-! ### impl_areLinks: function 56 -/
def impl_areLinks.l0 : Nat → Int → List (S70) → List (S70) → Int → Int → Option (Bool)
 | 0, _, _, _, _, _ => none
 | k + 1, x0, x1, x7, x8, x9 => if x9 < x8 then (if 0 ≤ x9 then (if x9 < (x7.length : Int) then ((impl_within.f ((rd_T70 x7 x9).f0) 0 9).bind fun t223 => (if t223 = true then ((impl_within.f ((rd_T70 x7 x9).f1) 1 1000).bind fun t224 => (if t224 = true then (if ((rd_T70 x7 x9).f0) = x0 then (some false) else (if x9 > 0 then (if 0 ≤ (wrap64 (x9 - 1)) then (if (wrap64 (x9 - 1)) < (x1.length : Int) then (if ((rd_T70 x7 x9).f0) ≤ ((rd_T70 x1 (wrap64 (x9 - 1))).f0) then (some false) else (impl_areLinks.l0 k x0 x1 x7 x8 (wrap64 (x9 + 1)))) else (none)) else (none)) else (impl_areLinks.l0 k x0 x1 x7 x8 (wrap64 (x9 + 1))))) else (some false))) else (some false))) else (none)) else (none)) else (some true)
def impl_areLinks.f (k : Nat) (a0 : Int) (l1 : List (S70)) : Option (Bool) := impl_areLinks.l0 k a0 l1 l1 (l1.length : Int) 0
theorem impl_areLinks.mono_l : ∀ k, (∀ y0 y1 y2 y3 y4, LeO (impl_areLinks.l0 k y0 y1 y2 y3 y4) (impl_areLinks.l0 (k + 1) y0 y1 y2 y3 y4))
 | 0 => fun _ _ _ _ _ r h => by simp [impl_areLinks.l0] at h
 | k + 1 => by
  have ih0 := impl_areLinks.mono_l k
  ·intro y0 y1 y2 y3 y4
   unfold impl_areLinks.l0
   repeat' first
   | (with_reducible exact ih0 _ _ _ _ _)
   | (with_reducible exact LeO.refl _)
   | (with_reducible exact LeO.none _)
   | (with_reducible refine LeO.ite ?_ ?_)
   | (with_reducible refine LeO.bind ?_ (fun _ => ?_))
   | exact ih0 _ _ _ _ _
   | exact LeO.none _
   | refine LeO.ite ?_ ?_
   | refine LeO.bind ?_ (fun _ => ?_)
theorem impl_areLinks.mono : ∀ a0 a1 k, LeO (impl_areLinks.f k a0 a1) (impl_areLinks.f (k + 1) a0 a1) := by
 intro a0 a1 k
 have ih0 := impl_areLinks.mono_l k
 unfold impl_areLinks.f
 repeat' first
   | (with_reducible exact ih0 _ _ _ _ _)
   | (with_reducible exact LeO.refl _)
   | (with_reducible exact LeO.none _)
   | (with_reducible refine LeO.ite ?_ ?_)
   | (with_reducible refine LeO.bind ?_ (fun _ => ?_))
   | exact ih0 _ _ _ _ _
   | exact LeO.none _
   | refine LeO.ite ?_ ?_
   | refine LeO.bind ?_ (fun _ => ?_)
def impl_areLinks.T4 : Bool × List (List Nat × List Nat) := (true, [([], []), ([0], [0]), ([1], [1]), ([2], [2]), ([3, 2], [3]), ([4], [4]), ([5, 4], [4, 5]), ([6, 4, 4], [4, 6]), ([7, 4], [4, 7]), ([4, 8], [4, 8]), ([9, 7], [9]), ([10], [10]), ([11, 10], [10, 11]), ([10], [10]), ([12, 13, 10], [10, 12, 13]), ([10, 14], [10, 14]), ([15, 10], [15]), ([16], [16]), ([17, 16], [16, 17]), ([18, 16, 16], [16, 18]), ([19], [19]), ([20, 19], [19, 20]), ([19], [19]), ([19], [19]), ([23, 19], [19, 23]), ([22, 24, 19], [19, 22, 24]), ([25, 19], [19, 25]), ([26, 19], [19, 26]), ([21, 27, 19], [19, 21, 27]), ([19, 28, 16], [16, 19, 28]), ([16, 29], [16, 29])])
def impl_areLinks.B4 : List Nat := [0, 1, 3, 7, 15, 31, 63, 127, 255, 511, 1023, 2047, 4095, 2047, 16383, 32767, 65535, 131071, 262143, 524287, 1048575, 2097151, 1048575, 1048575, 9437183, 30408703, 63963135, 131071999, 268435455, 536870911, 1073741823]
theorem impl_areLinks.tab4 : rtab .any (opsOf Try.f56 4) = impl_areLinks.T4 := by kernel_rfl
theorem impl_areLinks.bits4 : waitsOk impl_areLinks.T4.2 impl_areLinks.B4 = true := by kernel_rfl
set_option maxHeartbeats 8000000 in
set_option maxRecDepth 100000 in
theorem impl_areLinks.calls (k : Nat) (a0 : Int) (A1 : Option Addr) (c1 : Nat) (l1 : List (S70)) (r : Bool) (w : World) (hr1 : Kd.C k70 w A1 l1.length l1) (hc1 : l1.length ≤ c1) (h : impl_areLinks.f k a0 l1 = some r) :
  Calls Try.prog 56 #[.int .i64 a0, .slice A1 l1.length c1] w fun e w' => e = .returned (.bool r) ∧ Below w.heap.size w w' := by
 have hu70 := Try.underlying70
 have HR1 := Aside0.mk hr1
 have HC1 := Aside0.mk hc1
 clear hr1 hc1
 have HB := Aside0.mk (Below.refl w.heap.size w)
 have H : (impl_areLinks.l0 k a0 l1 l1 (l1.length : Int) 0) = some r := h
 clear h
 have H' := Aside0.mk H
 clear H
 go_enter Try.func56, Try.ntmps56
 go_wp2
 go_loopg [9] k (fun kq v9 w' => ∃ (x9_1 : Int), v9 = .int .i64 x9_1 ∧ Aside0 (impl_areLinks.l0 kq a0 l1 l1 (l1.length : Int) x9_1 = some r) ∧ Aside0 (kq ≤ k) ∧ Aside0 (Below w.heap.size w w'))
 case atStart => exact ⟨(0), (by first | rfl | (simp; done) | (simp [*]; done)), H', ⟨Nat.le_refl _⟩, ⟨by repeat (first | (with_reducible first | exact HB.out | apply below_alloc | apply pw_below_drewN | apply below_drew1) | exact HB.out)⟩⟩
 case round =>
  clear H'
  try clear c1
  try clear p2
  obtain ⟨x9_1, rfl, HA, HK1, HB⟩ := hrel
  cases gk with
  | zero => exact absurd HA.out (by simp [impl_areLinks.l0])
  | succ k1 =>
   have H := HA.out
   clear HA
   simp only [impl_areLinks.l0] at H
   by_cases c3 : x9_1 < (l1.length : Int)
   ·rw [if_pos c3] at H
    have c3b0 : decide (x9_1 < (l1.length : Int)) = true := decide_eq_true c3
    clear c3
    by_cases c4 : 0 ≤ x9_1
    ·rw [if_pos c4] at H
     have c4b0 : decide (0 ≤ x9_1) = true := decide_eq_true c4
     clear c4
     by_cases c5 : x9_1 < (l1.length : Int)
     ·rw [if_pos c5] at H
      have c5b0 : decide (x9_1 < (l1.length : Int)) = true := decide_eq_true c5
      clear c5
      replace H := Option.bind_eq_some_iff.mp H
      obtain ⟨t223, A60, H⟩ := H
      have A6 := Aside0.mk A60
      clear A60
      by_cases c7 : t223 = true
      ·subst c7
       rw [if_pos rfl] at H
       replace H := Option.bind_eq_some_iff.mp H
       obtain ⟨t224, A80, H⟩ := H
       have A8 := Aside0.mk A80
       clear A80
       by_cases c9 : t224 = true
       ·subst c9
        rw [if_pos rfl] at H
        by_cases c10 : ((rd_T70 l1 x9_1).f0) = a0
        ·rw [if_pos c10] at H
         have c10b0 : (((rd_T70 l1 x9_1).f0) == a0) = true := beq_iff_eq.mpr c10
         have c10b1 : (((rd_T70 l1 x9_1).f0) != a0) = false := bne_eq_false_iff_eq.mpr c10
         clear c10
         obtain rfl := Option.some.inj H
         have p221 : 0 ≤ (x9_1 : Int) := of_decide_eq_true (by first | (with_reducible assumption) | assumption)
         have q221 : x9_1 < (l1.length : Int) := of_decide_eq_true (by first | (with_reducible assumption) | assumption)
         obtain ⟨ad221, e221, hx221_0, hx221_1⟩ := at_T70 HR1.out x9_1 p221 q221
         cases e221
         replace hx221_0 := (HB.out.cell (World.block_lt_of_cell? w _ hx221_0)).trans hx221_0
         replace hx221_1 := (HB.out.cell (World.block_lt_of_cell? w _ hx221_1)).trans hx221_1
         replace p221 := eq_true p221
         replace q221 := eq_true q221
         try go_wp2_with (first | ((with_reducible refine gate_dst (N := 6) rfl ?_); refine box_event ?hg (N := 6) ?hd (cs := #[.int .i64 0, .int .i64 0]) (t := 70) ?hr ?_; (case hd => rfl); (case hg => rfl); (case hr => first | (go_simp; done) | (go_simp; rfl)); intro gb222 hg w11 hbox hb; have BK222 := Aside0.mk hbox; have GW222 := ge_ HB hg; have GE222 := ge_ HB hg; replace HB := Aside0.mk (bt_ HB hb); clear hb hbox hg; have hcz12_0 := cz_ BK222 0 (.int .i64 0); have hcz12_1 := cz_ BK222 1 (.int .i64 0); have hfz12_0 := blk_frozen BK222.out 0; have hfz12_1 := blk_frozen BK222.out 1))
         have n0_ : Aside0 (((w11.setCell ⟨gb222, 0, none⟩ (.int .i64 ((rd_T70 l1 x9_1).f0))).setCell ⟨gb222, 1, none⟩ (.int .i64 ((rd_T70 l1 x9_1).f1))).heap[gb222]? = some (.cells #[.int .i64 ((rd_T70 l1 x9_1).f0), .int .i64 ((rd_T70 l1 x9_1).f1)] 70 (0, 0))) := ⟨by (with_reducible repeat (first | refine blk_drewN ?_ _ | refine blk_drew ?_ | refine blk_alloc ?_ _)); refine blk_put (cs := #[.int .i64 ((rd_T70 l1 x9_1).f0), .int .i64 0]) ?_ 1 _ rfl; (with_reducible repeat (first | refine blk_drewN ?_ _ | refine blk_drew ?_ | refine blk_alloc ?_ _)); refine blk_put (cs := #[.int .i64 0, .int .i64 0]) ?_ 0 _ rfl; (with_reducible repeat (first | refine blk_drewN ?_ _ | refine blk_drew ?_ | refine blk_alloc ?_ _)); exact BK222.out⟩
         have n1_ : Aside0 (Below w.heap.size w ((w11.setCell ⟨gb222, 0, none⟩ (.int .i64 ((rd_T70 l1 x9_1).f0))).setCell ⟨gb222, 1, none⟩ (.int .i64 ((rd_T70 l1 x9_1).f1)))) := ⟨by repeat (first | (with_reducible first | exact HB.out | apply below_alloc | apply pw_below_drewN | apply below_drew1 | refine below_set ?_ GE222.out) | exact HB.out)⟩
         (try clear BK222)
         (try clear HB)
         generalize ((w11.setCell ⟨gb222, 0, none⟩ (.int .i64 ((rd_T70 l1 x9_1).f0))).setCell ⟨gb222, 1, none⟩ (.int .i64 ((rd_T70 l1 x9_1).f1))) = w13 at n0_ n1_ ⊢
         have BK222 := n0_
         have HB := n1_
         clear n0_ n1_
         replace BK222 := Aside0.mk (blk_drew BK222.out)
         replace HB := Aside0.mk (below_drew1 HB.out)
         refine start_ (n := 31) (S := fun w' => w'.cell? ⟨gb222, 0, none⟩ = some (.int .i64 ((rd_T70 l1 x9_1).f0)) ∧ w'.cell? ⟨gb222, 1, none⟩ = some (.int .i64 ((rd_T70 l1 x9_1).f1))) (ds := []) ba8_0 (by kernel_rfl) rfl rfl ⟨(blk_cell BK222.out 0).trans rfl, (blk_cell BK222.out 1).trans rfl⟩ (fun hHeld => ?_); refine with_tabW impl_areLinks.tab4 impl_areLinks.bits4 (fun HT_ HW_ => ?_)
         generalize w13.drew = w14 at BK222 HB hHeld ⊢
         refine pz_ 0 14 ba8_1 HT_ ?_
         refine pt_ 1 15 ba8_2 HT_ HW_ hHeld ?_
         refine one_ (i := 2) (N := some 16) ba8_3 rfl rfl (one_of HT_.out (by kernel_rfl)) (by decide) (fun K hK => ?_)
         refine gz_ Try.func55 #[.int .i64 ((rd_T70 l1 x9_1).f0), .int .i64 0, .int .i64 9] ?_
         with_reducible refine (impl_within.calls ((rd_T70 l1 x9_1).f0) 0 9 true _ A6.out).mono ?_
         rintro e w' ⟨rfl, ⟨nd, rfl⟩⟩
         refine ⟨_, rfl, ?_⟩
         refine hK.out _ _ ⟨(blk_cell BK222.out 0).trans rfl, (blk_cell BK222.out 1).trans rfl⟩ (fun hHeld => ?_)
         clear hK K
         refine nz_ 16 ?_
         refine pz_ 3 17 ba8_4 HT_ ?_
         refine pz_ 4 18 ba8_5 HT_ ?_
         refine pz_ 5 19 ba8_6 HT_ ?_
         refine pt_ 6 20 ba8_7 HT_ HW_ hHeld ?_
         refine one_ (i := 7) (N := some 21) ba8_8 rfl rfl (one_of HT_.out (by kernel_rfl)) (by decide) (fun K hK => ?_)
         refine gz_ Try.func55 #[.int .i64 ((rd_T70 l1 x9_1).f1), .int .i64 1, .int .i64 1000] ?_
         with_reducible refine (impl_within.calls ((rd_T70 l1 x9_1).f1) 1 1000 true _ A8.out).mono ?_
         rintro e w' ⟨rfl, ⟨nd, rfl⟩⟩
         refine ⟨_, rfl, ?_⟩
         refine hK.out _ _ ⟨(blk_cell BK222.out 0).trans rfl, (blk_cell BK222.out 1).trans rfl⟩ (fun hHeld => ?_)
         clear hK K
         refine nz_ 21 ?_
         refine pz_ 8 22 ba8_9 HT_ ?_
         refine pz_ 9 23 ba8_10 HT_ ?_
         refine pz_ 10 24 ba8_11 HT_ ?_
         refine pz_ 11 25 ba8_12 HT_ ?_
         refine pz_ 13 27 ba8_13 HT_ ?_
         refine pt_ 12 26 ba8_14 HT_ HW_ hHeld ?_
         refine pz_ 14 28 ba8_15 HT_ ?_
         refine pz_ 15 29 ba8_16 HT_ ?_
         refine pz_ 16 30 ba8_17 HT_ ?_
         refine pu_ 17 31 ba8_18 HT_ ?_
         refine pu_ 18 32 ba8_19 HT_ ?_
         refine pu_ 19 33 ba8_20 HT_ ?_
         refine pu_ 20 34 ba8_21 HT_ ?_
         refine pu_ 21 35 ba8_22 HT_ ?_
         refine pu_ 22 36 ba8_23 HT_ ?_
         refine pu_ 23 37 ba8_24 HT_ ?_
         refine pu_ 24 38 ba8_25 HT_ ?_
         refine pu_ 25 39 ba8_26 HT_ ?_
         refine pu_ 26 40 ba8_27 HT_ ?_
         refine pu_ 27 41 ba8_28 HT_ ?_
         refine pu_ 28 42 ba8_29 HT_ ?_
         refine pu_ 29 43 ba8_30 HT_ ?_
         refine pz_ 30 44 ba8_31 HT_ ?_
         refine done_ (done_of HT_.out (by kernel_rfl)) ?_
         try go_wp2
         go_ret
         exact ⟨by first | rfl | (simp [errW_none, errW_some] <;> rfl) | (simp [*, errW_none, errW_some] <;> rfl), by repeat (first | (with_reducible first | exact HB.out | apply below_alloc | apply pw_below_drewN | apply below_drew1 | refine below_set ?_ GE222.out) | exact HB.out)⟩
        ·rw [if_neg c10] at H
         have c10b0 : (((rd_T70 l1 x9_1).f0) == a0) = false := beq_eq_false_iff_ne.mpr c10
         have c10b1 : (((rd_T70 l1 x9_1).f0) != a0) = true := bne_iff_ne.mpr c10
         by_cases c15 : x9_1 > 0
         ·rw [if_pos c15] at H
          have c15b0 : decide (0 < x9_1) = true := decide_eq_true c15
          clear c15
          obtain ⟨ji16, hji16⟩ : ∃ j_ : Int, (wrap64 (x9_1 - 1)) = j_ := ⟨_, rfl⟩
          first | rw [hji16] at H | simp only [hji16] at H
          (try rw [hji16] at A6)
          (try rw [hji16] at A8)
          have hji16w : (IntKind.i64.wrap (x9_1 - 1)) = ji16 := (i64_w _).trans hji16
          by_cases c17 : 0 ≤ (ji16)
          ·rw [if_pos c17] at H
           have c17b0 : decide (0 ≤ (ji16)) = true := decide_eq_true c17
           clear c17
           by_cases c18 : (ji16) < (l1.length : Int)
           ·rw [if_pos c18] at H
            have c18b0 : decide ((ji16) < (l1.length : Int)) = true := decide_eq_true c18
            clear c18
            by_cases c19 : ((rd_T70 l1 x9_1).f0) ≤ ((rd_T70 l1 (ji16)).f0)
            ·rw [if_pos c19] at H
             have c19b0 : decide (((rd_T70 l1 x9_1).f0) ≤ ((rd_T70 l1 (ji16)).f0)) = true := decide_eq_true c19
             clear c19
             obtain rfl := Option.some.inj H
             have p221 : 0 ≤ (x9_1 : Int) := of_decide_eq_true (by first | (with_reducible assumption) | assumption)
             have q221 : x9_1 < (l1.length : Int) := of_decide_eq_true (by first | (with_reducible assumption) | assumption)
             obtain ⟨ad221, e221, hx221_0, hx221_1⟩ := at_T70 HR1.out x9_1 p221 q221
             cases e221
             replace hx221_0 := (HB.out.cell (World.block_lt_of_cell? w _ hx221_0)).trans hx221_0
             replace hx221_1 := (HB.out.cell (World.block_lt_of_cell? w _ hx221_1)).trans hx221_1
             replace p221 := eq_true p221
             replace q221 := eq_true q221
             try go_wp2_with (first | ((with_reducible refine gate_dst (N := 6) rfl ?_); refine box_event ?hg (N := 6) ?hd (cs := #[.int .i64 0, .int .i64 0]) (t := 70) ?hr ?_; (case hd => rfl); (case hg => rfl); (case hr => first | (go_simp; done) | (go_simp; rfl)); intro gb222 hg w20 hbox hb; have BK222 := Aside0.mk hbox; have GW222 := ge_ HB hg; have GE222 := ge_ HB hg; replace HB := Aside0.mk (bt_ HB hb); clear hb hbox hg; have hcz21_0 := cz_ BK222 0 (.int .i64 0); have hcz21_1 := cz_ BK222 1 (.int .i64 0); have hfz21_0 := blk_frozen BK222.out 0; have hfz21_1 := blk_frozen BK222.out 1))
             have n0_ : Aside0 (((w20.setCell ⟨gb222, 0, none⟩ (.int .i64 ((rd_T70 l1 x9_1).f0))).setCell ⟨gb222, 1, none⟩ (.int .i64 ((rd_T70 l1 x9_1).f1))).heap[gb222]? = some (.cells #[.int .i64 ((rd_T70 l1 x9_1).f0), .int .i64 ((rd_T70 l1 x9_1).f1)] 70 (0, 0))) := ⟨by (with_reducible repeat (first | refine blk_drewN ?_ _ | refine blk_drew ?_ | refine blk_alloc ?_ _)); refine blk_put (cs := #[.int .i64 ((rd_T70 l1 x9_1).f0), .int .i64 0]) ?_ 1 _ rfl; (with_reducible repeat (first | refine blk_drewN ?_ _ | refine blk_drew ?_ | refine blk_alloc ?_ _)); refine blk_put (cs := #[.int .i64 0, .int .i64 0]) ?_ 0 _ rfl; (with_reducible repeat (first | refine blk_drewN ?_ _ | refine blk_drew ?_ | refine blk_alloc ?_ _)); exact BK222.out⟩
             have n1_ : Aside0 (Below w.heap.size w ((w20.setCell ⟨gb222, 0, none⟩ (.int .i64 ((rd_T70 l1 x9_1).f0))).setCell ⟨gb222, 1, none⟩ (.int .i64 ((rd_T70 l1 x9_1).f1)))) := ⟨by repeat (first | (with_reducible first | exact HB.out | apply below_alloc | apply pw_below_drewN | apply below_drew1 | refine below_set ?_ GE222.out) | exact HB.out)⟩
             (try clear BK222)
             (try clear HB)
             generalize ((w20.setCell ⟨gb222, 0, none⟩ (.int .i64 ((rd_T70 l1 x9_1).f0))).setCell ⟨gb222, 1, none⟩ (.int .i64 ((rd_T70 l1 x9_1).f1))) = w22 at n0_ n1_ ⊢
             have BK222 := n0_
             have HB := n1_
             clear n0_ n1_
             replace BK222 := Aside0.mk (blk_drew BK222.out)
             replace HB := Aside0.mk (below_drew1 HB.out)
             have p225 : 0 ≤ ((ji16) : Int) := of_decide_eq_true (by first | (with_reducible assumption) | assumption)
             have q225 : (ji16) < (l1.length : Int) := of_decide_eq_true (by first | (with_reducible assumption) | assumption)
             obtain ⟨ad225, e225, hx225_0, hx225_1⟩ := at_T70 HR1.out (ji16) p225 q225
             have hw225_1 := hx225_1
             have hw225_0 := hx225_0
             obtain rfl : ad221 = ad225 := (by injection e225)
             replace hx225_0 := (HB.out.cell (World.block_lt_of_cell? w _ hx225_0)).trans hx225_0
             replace hx225_1 := (HB.out.cell (World.block_lt_of_cell? w _ hx225_1)).trans hx225_1
             replace p225 := eq_true p225
             replace q225 := eq_true q225
             refine start_ (n := 31) (S := fun w' => w'.cell? ⟨gb222, 0, none⟩ = some (.int .i64 ((rd_T70 l1 x9_1).f0)) ∧ w'.cell? ⟨gb222, 1, none⟩ = some (.int .i64 ((rd_T70 l1 x9_1).f1)) ∧ w'.cell? (ad221.add (((ji16)).toNat * 2)) = some (.int .i64 ((rd_T70 l1 (ji16)).f0)) ∧ w'.cell? ⟨(ad221.add (((ji16)).toNat * 2)).block, (ad221.add (((ji16)).toNat * 2)).off + 1, none⟩ = some (.int .i64 ((rd_T70 l1 (ji16)).f1))) (ds := []) ba8_0 (by kernel_rfl) rfl rfl ⟨(blk_cell BK222.out 0).trans rfl, (blk_cell BK222.out 1).trans rfl, (hc_ HB hw225_0), (hc_ HB hw225_1)⟩ (fun hHeld => ?_); refine with_tabW impl_areLinks.tab4 impl_areLinks.bits4 (fun HT_ HW_ => ?_)
             generalize w22.drew = w23 at BK222 HB hx225_0 hx225_1 hHeld ⊢
             refine pz_ 0 14 ba8_1 HT_ ?_
             refine pt_ 1 15 ba8_2 HT_ HW_ hHeld ?_
             refine one_ (i := 2) (N := some 16) ba8_3 rfl rfl (one_of HT_.out (by kernel_rfl)) (by decide) (fun K hK => ?_)
             refine gz_ Try.func55 #[.int .i64 ((rd_T70 l1 x9_1).f0), .int .i64 0, .int .i64 9] ?_
             with_reducible refine (impl_within.calls ((rd_T70 l1 x9_1).f0) 0 9 true _ A6.out).mono ?_
             rintro e w' ⟨rfl, ⟨nd, rfl⟩⟩
             refine ⟨_, rfl, ?_⟩
             refine hK.out _ _ ⟨(blk_cell BK222.out 0).trans rfl, (blk_cell BK222.out 1).trans rfl, (hc_ HB hw225_0), (hc_ HB hw225_1)⟩ (fun hHeld => ?_)
             clear hK K
             refine nz_ 16 ?_
             refine pz_ 3 17 ba8_4 HT_ ?_
             refine pz_ 4 18 ba8_5 HT_ ?_
             refine pz_ 5 19 ba8_6 HT_ ?_
             refine pt_ 6 20 ba8_7 HT_ HW_ hHeld ?_
             refine one_ (i := 7) (N := some 21) ba8_8 rfl rfl (one_of HT_.out (by kernel_rfl)) (by decide) (fun K hK => ?_)
             refine gz_ Try.func55 #[.int .i64 ((rd_T70 l1 x9_1).f1), .int .i64 1, .int .i64 1000] ?_
             with_reducible refine (impl_within.calls ((rd_T70 l1 x9_1).f1) 1 1000 true _ A8.out).mono ?_
             rintro e w' ⟨rfl, ⟨nd, rfl⟩⟩
             refine ⟨_, rfl, ?_⟩
             refine hK.out _ _ ⟨(blk_cell BK222.out 0).trans rfl, (blk_cell BK222.out 1).trans rfl, (hc_ HB hw225_0), (hc_ HB hw225_1)⟩ (fun hHeld => ?_)
             clear hK K
             refine nz_ 21 ?_
             refine pz_ 8 22 ba8_9 HT_ ?_
             refine pz_ 9 23 ba8_10 HT_ ?_
             refine pz_ 10 24 ba8_11 HT_ ?_
             refine pz_ 11 25 ba8_12 HT_ ?_
             refine pz_ 13 27 ba8_13 HT_ ?_
             refine pt_ 12 26 ba8_14 HT_ HW_ hHeld ?_
             refine pz_ 14 28 ba8_15 HT_ ?_
             refine pz_ 15 29 ba8_16 HT_ ?_
             refine pz_ 16 30 ba8_17 HT_ ?_
             refine pz_ 17 31 ba8_18 HT_ ?_
             refine pz_ 18 32 ba8_19 HT_ ?_
             refine pz_ 19 33 ba8_20 HT_ ?_
             refine pz_ 20 34 ba8_21 HT_ ?_
             refine pz_ 22 36 ba8_32 HT_ ?_
             refine pz_ 23 37 ba8_33 HT_ ?_
             refine pz_ 24 38 ba8_34 HT_ ?_
             refine pz_ 25 39 ba8_35 HT_ ?_
             refine pz_ 26 40 ba8_36 HT_ ?_
             refine pt_ 21 35 ba8_27 HT_ HW_ hHeld ?_
             refine pt_ 27 41 ba8_28 HT_ HW_ hHeld ?_
             refine pz_ 28 42 ba8_29 HT_ ?_
             refine pz_ 29 43 ba8_30 HT_ ?_
             refine pz_ 30 44 ba8_31 HT_ ?_
             refine done_ (done_of HT_.out (by kernel_rfl)) ?_
             try go_wp2
             go_ret
             exact ⟨by first | rfl | (simp [errW_none, errW_some] <;> rfl) | (simp only [← hji16]; first | rfl | (simp [errW_none, errW_some] <;> rfl)) | (simp [*, errW_none, errW_some] <;> rfl), by repeat (first | (with_reducible first | exact HB.out | apply below_alloc | apply pw_below_drewN | apply below_drew1 | refine below_set ?_ GE222.out) | exact HB.out)⟩
            ·rw [if_neg c19] at H
             have c19b0 : decide (((rd_T70 l1 x9_1).f0) ≤ ((rd_T70 l1 (ji16)).f0)) = false := decide_eq_false c19
             clear c19
             have H' := Aside0.mk H
             clear H
             have p221 : 0 ≤ (x9_1 : Int) := of_decide_eq_true (by first | (with_reducible assumption) | assumption)
             have q221 : x9_1 < (l1.length : Int) := of_decide_eq_true (by first | (with_reducible assumption) | assumption)
             obtain ⟨ad221, e221, hx221_0, hx221_1⟩ := at_T70 HR1.out x9_1 p221 q221
             cases e221
             replace hx221_0 := (HB.out.cell (World.block_lt_of_cell? w _ hx221_0)).trans hx221_0
             replace hx221_1 := (HB.out.cell (World.block_lt_of_cell? w _ hx221_1)).trans hx221_1
             replace p221 := eq_true p221
             replace q221 := eq_true q221
             try go_wp2_with (first | ((with_reducible refine gate_dst (N := 6) rfl ?_); refine box_event ?hg (N := 6) ?hd (cs := #[.int .i64 0, .int .i64 0]) (t := 70) ?hr ?_; (case hd => rfl); (case hg => rfl); (case hr => first | (go_simp; done) | (go_simp; rfl)); intro gb222 hg w24 hbox hb; have BK222 := Aside0.mk hbox; have GW222 := ge_ HB hg; have GE222 := ge_ HB hg; replace HB := Aside0.mk (bt_ HB hb); clear hb hbox hg; have hcz25_0 := cz_ BK222 0 (.int .i64 0); have hcz25_1 := cz_ BK222 1 (.int .i64 0); have hfz25_0 := blk_frozen BK222.out 0; have hfz25_1 := blk_frozen BK222.out 1))
             have n0_ : Aside0 (((w24.setCell ⟨gb222, 0, none⟩ (.int .i64 ((rd_T70 l1 x9_1).f0))).setCell ⟨gb222, 1, none⟩ (.int .i64 ((rd_T70 l1 x9_1).f1))).heap[gb222]? = some (.cells #[.int .i64 ((rd_T70 l1 x9_1).f0), .int .i64 ((rd_T70 l1 x9_1).f1)] 70 (0, 0))) := ⟨by (with_reducible repeat (first | refine blk_drewN ?_ _ | refine blk_drew ?_ | refine blk_alloc ?_ _)); refine blk_put (cs := #[.int .i64 ((rd_T70 l1 x9_1).f0), .int .i64 0]) ?_ 1 _ rfl; (with_reducible repeat (first | refine blk_drewN ?_ _ | refine blk_drew ?_ | refine blk_alloc ?_ _)); refine blk_put (cs := #[.int .i64 0, .int .i64 0]) ?_ 0 _ rfl; (with_reducible repeat (first | refine blk_drewN ?_ _ | refine blk_drew ?_ | refine blk_alloc ?_ _)); exact BK222.out⟩
             have n1_ : Aside0 (Below w.heap.size w ((w24.setCell ⟨gb222, 0, none⟩ (.int .i64 ((rd_T70 l1 x9_1).f0))).setCell ⟨gb222, 1, none⟩ (.int .i64 ((rd_T70 l1 x9_1).f1)))) := ⟨by repeat (first | (with_reducible first | exact HB.out | apply below_alloc | apply pw_below_drewN | apply below_drew1 | refine below_set ?_ GE222.out) | exact HB.out)⟩
             (try clear BK222)
             (try clear HB)
             generalize ((w24.setCell ⟨gb222, 0, none⟩ (.int .i64 ((rd_T70 l1 x9_1).f0))).setCell ⟨gb222, 1, none⟩ (.int .i64 ((rd_T70 l1 x9_1).f1))) = w26 at n0_ n1_ ⊢
             have BK222 := n0_
             have HB := n1_
             clear n0_ n1_
             replace BK222 := Aside0.mk (blk_drew BK222.out)
             replace HB := Aside0.mk (below_drew1 HB.out)
             have p225 : 0 ≤ ((ji16) : Int) := of_decide_eq_true (by first | (with_reducible assumption) | assumption)
             have q225 : (ji16) < (l1.length : Int) := of_decide_eq_true (by first | (with_reducible assumption) | assumption)
             obtain ⟨ad225, e225, hx225_0, hx225_1⟩ := at_T70 HR1.out (ji16) p225 q225
             have hw225_1 := hx225_1
             have hw225_0 := hx225_0
             obtain rfl : ad221 = ad225 := (by injection e225)
             replace hx225_0 := (HB.out.cell (World.block_lt_of_cell? w _ hx225_0)).trans hx225_0
             replace hx225_1 := (HB.out.cell (World.block_lt_of_cell? w _ hx225_1)).trans hx225_1
             replace p225 := eq_true p225
             replace q225 := eq_true q225
             refine start_ (n := 31) (S := fun w' => w'.cell? ⟨gb222, 0, none⟩ = some (.int .i64 ((rd_T70 l1 x9_1).f0)) ∧ w'.cell? ⟨gb222, 1, none⟩ = some (.int .i64 ((rd_T70 l1 x9_1).f1)) ∧ w'.cell? (ad221.add (((ji16)).toNat * 2)) = some (.int .i64 ((rd_T70 l1 (ji16)).f0)) ∧ w'.cell? ⟨(ad221.add (((ji16)).toNat * 2)).block, (ad221.add (((ji16)).toNat * 2)).off + 1, none⟩ = some (.int .i64 ((rd_T70 l1 (ji16)).f1))) (ds := []) ba8_0 (by kernel_rfl) rfl rfl ⟨(blk_cell BK222.out 0).trans rfl, (blk_cell BK222.out 1).trans rfl, (hc_ HB hw225_0), (hc_ HB hw225_1)⟩ (fun hHeld => ?_); refine with_tabW impl_areLinks.tab4 impl_areLinks.bits4 (fun HT_ HW_ => ?_)
             generalize w26.drew = w27 at BK222 HB hx225_0 hx225_1 hHeld ⊢
             refine pz_ 0 14 ba8_1 HT_ ?_
             refine pt_ 1 15 ba8_2 HT_ HW_ hHeld ?_
             refine one_ (i := 2) (N := some 16) ba8_3 rfl rfl (one_of HT_.out (by kernel_rfl)) (by decide) (fun K hK => ?_)
             refine gz_ Try.func55 #[.int .i64 ((rd_T70 l1 x9_1).f0), .int .i64 0, .int .i64 9] ?_
             with_reducible refine (impl_within.calls ((rd_T70 l1 x9_1).f0) 0 9 true _ A6.out).mono ?_
             rintro e w' ⟨rfl, ⟨nd, rfl⟩⟩
             refine ⟨_, rfl, ?_⟩
             refine hK.out _ _ ⟨(blk_cell BK222.out 0).trans rfl, (blk_cell BK222.out 1).trans rfl, (hc_ HB hw225_0), (hc_ HB hw225_1)⟩ (fun hHeld => ?_)
             clear hK K
             refine nz_ 16 ?_
             refine pz_ 3 17 ba8_4 HT_ ?_
             refine pz_ 4 18 ba8_5 HT_ ?_
             refine pz_ 5 19 ba8_6 HT_ ?_
             refine pt_ 6 20 ba8_7 HT_ HW_ hHeld ?_
             refine one_ (i := 7) (N := some 21) ba8_8 rfl rfl (one_of HT_.out (by kernel_rfl)) (by decide) (fun K hK => ?_)
             refine gz_ Try.func55 #[.int .i64 ((rd_T70 l1 x9_1).f1), .int .i64 1, .int .i64 1000] ?_
             with_reducible refine (impl_within.calls ((rd_T70 l1 x9_1).f1) 1 1000 true _ A8.out).mono ?_
             rintro e w' ⟨rfl, ⟨nd, rfl⟩⟩
             refine ⟨_, rfl, ?_⟩
             refine hK.out _ _ ⟨(blk_cell BK222.out 0).trans rfl, (blk_cell BK222.out 1).trans rfl, (hc_ HB hw225_0), (hc_ HB hw225_1)⟩ (fun hHeld => ?_)
             clear hK K
             refine nz_ 21 ?_
             refine pz_ 8 22 ba8_9 HT_ ?_
             refine pz_ 9 23 ba8_10 HT_ ?_
             refine pz_ 10 24 ba8_11 HT_ ?_
             refine pz_ 11 25 ba8_12 HT_ ?_
             refine pz_ 13 27 ba8_13 HT_ ?_
             refine pt_ 12 26 ba8_14 HT_ HW_ hHeld ?_
             refine pz_ 14 28 ba8_15 HT_ ?_
             refine pz_ 15 29 ba8_16 HT_ ?_
             refine pz_ 16 30 ba8_17 HT_ ?_
             refine pz_ 17 31 ba8_18 HT_ ?_
             refine pz_ 18 32 ba8_19 HT_ ?_
             refine pz_ 19 33 ba8_20 HT_ ?_
             refine pz_ 20 34 ba8_21 HT_ ?_
             refine pz_ 22 36 ba8_32 HT_ ?_
             refine pz_ 23 37 ba8_33 HT_ ?_
             refine pz_ 24 38 ba8_34 HT_ ?_
             refine pz_ 25 39 ba8_35 HT_ ?_
             refine pz_ 26 40 ba8_36 HT_ ?_
             refine pt_ 21 35 ba8_27 HT_ HW_ hHeld ?_
             refine pt_ 27 41 ba8_28 HT_ HW_ hHeld ?_
             refine pz_ 28 42 ba8_29 HT_ ?_
             refine pz_ 29 43 ba8_30 HT_ ?_
             refine pz_ 30 44 ba8_31 HT_ ?_
             refine done_ (done_of HT_.out (by kernel_rfl)) ?_
             try go_wp2
             go_roundg k1
             case measure => have := HK1.out; omega
             case rel => exact ⟨(wrap64 (x9_1 + 1)), (by first | rfl | (simp; done) | (simp [*]; done)), H', ⟨by have := HK1.out; omega⟩, ⟨by repeat (first | (with_reducible first | exact HB.out | apply below_alloc | apply pw_below_drewN | apply below_drew1 | refine below_set ?_ GE222.out) | exact HB.out)⟩⟩
           ·rw [if_neg c18] at H
            exact absurd H (by simp)
          ·rw [if_neg c17] at H
           exact absurd H (by simp)
         ·rw [if_neg c15] at H
          have c15b0 : decide (0 < x9_1) = false := decide_eq_false c15
          clear c15
          have H' := Aside0.mk H
          clear H
          have p221 : 0 ≤ (x9_1 : Int) := of_decide_eq_true (by first | (with_reducible assumption) | assumption)
          have q221 : x9_1 < (l1.length : Int) := of_decide_eq_true (by first | (with_reducible assumption) | assumption)
          obtain ⟨ad221, e221, hx221_0, hx221_1⟩ := at_T70 HR1.out x9_1 p221 q221
          cases e221
          replace hx221_0 := (HB.out.cell (World.block_lt_of_cell? w _ hx221_0)).trans hx221_0
          replace hx221_1 := (HB.out.cell (World.block_lt_of_cell? w _ hx221_1)).trans hx221_1
          replace p221 := eq_true p221
          replace q221 := eq_true q221
          try go_wp2_with (first | ((with_reducible refine gate_dst (N := 6) rfl ?_); refine box_event ?hg (N := 6) ?hd (cs := #[.int .i64 0, .int .i64 0]) (t := 70) ?hr ?_; (case hd => rfl); (case hg => rfl); (case hr => first | (go_simp; done) | (go_simp; rfl)); intro gb222 hg w28 hbox hb; have BK222 := Aside0.mk hbox; have GW222 := ge_ HB hg; have GE222 := ge_ HB hg; replace HB := Aside0.mk (bt_ HB hb); clear hb hbox hg; have hcz29_0 := cz_ BK222 0 (.int .i64 0); have hcz29_1 := cz_ BK222 1 (.int .i64 0); have hfz29_0 := blk_frozen BK222.out 0; have hfz29_1 := blk_frozen BK222.out 1))
          have n0_ : Aside0 (((w28.setCell ⟨gb222, 0, none⟩ (.int .i64 ((rd_T70 l1 x9_1).f0))).setCell ⟨gb222, 1, none⟩ (.int .i64 ((rd_T70 l1 x9_1).f1))).heap[gb222]? = some (.cells #[.int .i64 ((rd_T70 l1 x9_1).f0), .int .i64 ((rd_T70 l1 x9_1).f1)] 70 (0, 0))) := ⟨by (with_reducible repeat (first | refine blk_drewN ?_ _ | refine blk_drew ?_ | refine blk_alloc ?_ _)); refine blk_put (cs := #[.int .i64 ((rd_T70 l1 x9_1).f0), .int .i64 0]) ?_ 1 _ rfl; (with_reducible repeat (first | refine blk_drewN ?_ _ | refine blk_drew ?_ | refine blk_alloc ?_ _)); refine blk_put (cs := #[.int .i64 0, .int .i64 0]) ?_ 0 _ rfl; (with_reducible repeat (first | refine blk_drewN ?_ _ | refine blk_drew ?_ | refine blk_alloc ?_ _)); exact BK222.out⟩
          have n1_ : Aside0 (Below w.heap.size w ((w28.setCell ⟨gb222, 0, none⟩ (.int .i64 ((rd_T70 l1 x9_1).f0))).setCell ⟨gb222, 1, none⟩ (.int .i64 ((rd_T70 l1 x9_1).f1)))) := ⟨by repeat (first | (with_reducible first | exact HB.out | apply below_alloc | apply pw_below_drewN | apply below_drew1 | refine below_set ?_ GE222.out) | exact HB.out)⟩
          (try clear BK222)
          (try clear HB)
          generalize ((w28.setCell ⟨gb222, 0, none⟩ (.int .i64 ((rd_T70 l1 x9_1).f0))).setCell ⟨gb222, 1, none⟩ (.int .i64 ((rd_T70 l1 x9_1).f1))) = w30 at n0_ n1_ ⊢
          have BK222 := n0_
          have HB := n1_
          clear n0_ n1_
          replace BK222 := Aside0.mk (blk_drew BK222.out)
          replace HB := Aside0.mk (below_drew1 HB.out)
          refine start_ (n := 31) (S := fun w' => w'.cell? ⟨gb222, 0, none⟩ = some (.int .i64 ((rd_T70 l1 x9_1).f0)) ∧ w'.cell? ⟨gb222, 1, none⟩ = some (.int .i64 ((rd_T70 l1 x9_1).f1))) (ds := []) ba8_0 (by kernel_rfl) rfl rfl ⟨(blk_cell BK222.out 0).trans rfl, (blk_cell BK222.out 1).trans rfl⟩ (fun hHeld => ?_); refine with_tabW impl_areLinks.tab4 impl_areLinks.bits4 (fun HT_ HW_ => ?_)
          generalize w30.drew = w31 at BK222 HB hHeld ⊢
          refine pz_ 0 14 ba8_1 HT_ ?_
          refine pt_ 1 15 ba8_2 HT_ HW_ hHeld ?_
          refine one_ (i := 2) (N := some 16) ba8_3 rfl rfl (one_of HT_.out (by kernel_rfl)) (by decide) (fun K hK => ?_)
          refine gz_ Try.func55 #[.int .i64 ((rd_T70 l1 x9_1).f0), .int .i64 0, .int .i64 9] ?_
          with_reducible refine (impl_within.calls ((rd_T70 l1 x9_1).f0) 0 9 true _ A6.out).mono ?_
          rintro e w' ⟨rfl, ⟨nd, rfl⟩⟩
          refine ⟨_, rfl, ?_⟩
          refine hK.out _ _ ⟨(blk_cell BK222.out 0).trans rfl, (blk_cell BK222.out 1).trans rfl⟩ (fun hHeld => ?_)
          clear hK K
          refine nz_ 16 ?_
          refine pz_ 3 17 ba8_4 HT_ ?_
          refine pz_ 4 18 ba8_5 HT_ ?_
          refine pz_ 5 19 ba8_6 HT_ ?_
          refine pt_ 6 20 ba8_7 HT_ HW_ hHeld ?_
          refine one_ (i := 7) (N := some 21) ba8_8 rfl rfl (one_of HT_.out (by kernel_rfl)) (by decide) (fun K hK => ?_)
          refine gz_ Try.func55 #[.int .i64 ((rd_T70 l1 x9_1).f1), .int .i64 1, .int .i64 1000] ?_
          with_reducible refine (impl_within.calls ((rd_T70 l1 x9_1).f1) 1 1000 true _ A8.out).mono ?_
          rintro e w' ⟨rfl, ⟨nd, rfl⟩⟩
          refine ⟨_, rfl, ?_⟩
          refine hK.out _ _ ⟨(blk_cell BK222.out 0).trans rfl, (blk_cell BK222.out 1).trans rfl⟩ (fun hHeld => ?_)
          clear hK K
          refine nz_ 21 ?_
          refine pz_ 8 22 ba8_9 HT_ ?_
          refine pz_ 9 23 ba8_10 HT_ ?_
          refine pz_ 10 24 ba8_11 HT_ ?_
          refine pz_ 11 25 ba8_12 HT_ ?_
          refine pz_ 13 27 ba8_13 HT_ ?_
          refine pt_ 12 26 ba8_14 HT_ HW_ hHeld ?_
          refine pz_ 14 28 ba8_15 HT_ ?_
          refine pz_ 15 29 ba8_16 HT_ ?_
          refine pz_ 16 30 ba8_17 HT_ ?_
          refine pz_ 17 31 ba8_18 HT_ ?_
          refine pz_ 18 32 ba8_19 HT_ ?_
          refine pz_ 19 33 ba8_20 HT_ ?_
          refine pu_ 20 34 ba8_21 HT_ ?_
          refine pu_ 21 35 ba8_22 HT_ ?_
          refine pu_ 22 36 ba8_23 HT_ ?_
          refine pu_ 23 37 ba8_24 HT_ ?_
          refine pu_ 24 38 ba8_25 HT_ ?_
          refine pu_ 25 39 ba8_26 HT_ ?_
          refine pu_ 26 40 ba8_27 HT_ ?_
          refine pu_ 27 41 ba8_28 HT_ ?_
          refine pu_ 28 42 ba8_29 HT_ ?_
          refine pz_ 29 43 ba8_30 HT_ ?_
          refine pz_ 30 44 ba8_31 HT_ ?_
          refine done_ (done_of HT_.out (by kernel_rfl)) ?_
          try go_wp2
          go_roundg k1
          case measure => have := HK1.out; omega
          case rel => exact ⟨(wrap64 (x9_1 + 1)), (by first | rfl | (simp; done) | (simp [*]; done)), H', ⟨by have := HK1.out; omega⟩, ⟨by repeat (first | (with_reducible first | exact HB.out | apply below_alloc | apply pw_below_drewN | apply below_drew1 | refine below_set ?_ GE222.out) | exact HB.out)⟩⟩
       ·replace c9 := Bool.eq_false_iff.mpr c9
        subst c9
        rw [if_neg (show ¬ (false = true) by decide)] at H
        obtain rfl := Option.some.inj H
        have p221 : 0 ≤ (x9_1 : Int) := of_decide_eq_true (by first | (with_reducible assumption) | assumption)
        have q221 : x9_1 < (l1.length : Int) := of_decide_eq_true (by first | (with_reducible assumption) | assumption)
        obtain ⟨ad221, e221, hx221_0, hx221_1⟩ := at_T70 HR1.out x9_1 p221 q221
        cases e221
        replace hx221_0 := (HB.out.cell (World.block_lt_of_cell? w _ hx221_0)).trans hx221_0
        replace hx221_1 := (HB.out.cell (World.block_lt_of_cell? w _ hx221_1)).trans hx221_1
        replace p221 := eq_true p221
        replace q221 := eq_true q221
        try go_wp2_with (first | ((with_reducible refine gate_dst (N := 6) rfl ?_); refine box_event ?hg (N := 6) ?hd (cs := #[.int .i64 0, .int .i64 0]) (t := 70) ?hr ?_; (case hd => rfl); (case hg => rfl); (case hr => first | (go_simp; done) | (go_simp; rfl)); intro gb222 hg w32 hbox hb; have BK222 := Aside0.mk hbox; have GW222 := ge_ HB hg; have GE222 := ge_ HB hg; replace HB := Aside0.mk (bt_ HB hb); clear hb hbox hg; have hcz33_0 := cz_ BK222 0 (.int .i64 0); have hcz33_1 := cz_ BK222 1 (.int .i64 0); have hfz33_0 := blk_frozen BK222.out 0; have hfz33_1 := blk_frozen BK222.out 1))
        have n0_ : Aside0 (((w32.setCell ⟨gb222, 0, none⟩ (.int .i64 ((rd_T70 l1 x9_1).f0))).setCell ⟨gb222, 1, none⟩ (.int .i64 ((rd_T70 l1 x9_1).f1))).heap[gb222]? = some (.cells #[.int .i64 ((rd_T70 l1 x9_1).f0), .int .i64 ((rd_T70 l1 x9_1).f1)] 70 (0, 0))) := ⟨by (with_reducible repeat (first | refine blk_drewN ?_ _ | refine blk_drew ?_ | refine blk_alloc ?_ _)); refine blk_put (cs := #[.int .i64 ((rd_T70 l1 x9_1).f0), .int .i64 0]) ?_ 1 _ rfl; (with_reducible repeat (first | refine blk_drewN ?_ _ | refine blk_drew ?_ | refine blk_alloc ?_ _)); refine blk_put (cs := #[.int .i64 0, .int .i64 0]) ?_ 0 _ rfl; (with_reducible repeat (first | refine blk_drewN ?_ _ | refine blk_drew ?_ | refine blk_alloc ?_ _)); exact BK222.out⟩
        have n1_ : Aside0 (Below w.heap.size w ((w32.setCell ⟨gb222, 0, none⟩ (.int .i64 ((rd_T70 l1 x9_1).f0))).setCell ⟨gb222, 1, none⟩ (.int .i64 ((rd_T70 l1 x9_1).f1)))) := ⟨by repeat (first | (with_reducible first | exact HB.out | apply below_alloc | apply pw_below_drewN | apply below_drew1 | refine below_set ?_ GE222.out) | exact HB.out)⟩
        (try clear BK222)
        (try clear HB)
        generalize ((w32.setCell ⟨gb222, 0, none⟩ (.int .i64 ((rd_T70 l1 x9_1).f0))).setCell ⟨gb222, 1, none⟩ (.int .i64 ((rd_T70 l1 x9_1).f1))) = w34 at n0_ n1_ ⊢
        have BK222 := n0_
        have HB := n1_
        clear n0_ n1_
        replace BK222 := Aside0.mk (blk_drew BK222.out)
        replace HB := Aside0.mk (below_drew1 HB.out)
        refine start_ (n := 31) (S := fun w' => w'.cell? ⟨gb222, 0, none⟩ = some (.int .i64 ((rd_T70 l1 x9_1).f0)) ∧ w'.cell? ⟨gb222, 1, none⟩ = some (.int .i64 ((rd_T70 l1 x9_1).f1))) (ds := []) ba8_0 (by kernel_rfl) rfl rfl ⟨(blk_cell BK222.out 0).trans rfl, (blk_cell BK222.out 1).trans rfl⟩ (fun hHeld => ?_); refine with_tabW impl_areLinks.tab4 impl_areLinks.bits4 (fun HT_ HW_ => ?_)
        generalize w34.drew = w35 at BK222 HB hHeld ⊢
        refine pz_ 0 14 ba8_1 HT_ ?_
        refine pt_ 1 15 ba8_2 HT_ HW_ hHeld ?_
        refine one_ (i := 2) (N := some 16) ba8_3 rfl rfl (one_of HT_.out (by kernel_rfl)) (by decide) (fun K hK => ?_)
        refine gz_ Try.func55 #[.int .i64 ((rd_T70 l1 x9_1).f0), .int .i64 0, .int .i64 9] ?_
        with_reducible refine (impl_within.calls ((rd_T70 l1 x9_1).f0) 0 9 true _ A6.out).mono ?_
        rintro e w' ⟨rfl, ⟨nd, rfl⟩⟩
        refine ⟨_, rfl, ?_⟩
        refine hK.out _ _ ⟨(blk_cell BK222.out 0).trans rfl, (blk_cell BK222.out 1).trans rfl⟩ (fun hHeld => ?_)
        clear hK K
        refine nz_ 16 ?_
        refine pz_ 3 17 ba8_4 HT_ ?_
        refine pz_ 4 18 ba8_5 HT_ ?_
        refine pz_ 5 19 ba8_6 HT_ ?_
        refine pt_ 6 20 ba8_7 HT_ HW_ hHeld ?_
        refine one_ (i := 7) (N := some 21) ba8_8 rfl rfl (one_of HT_.out (by kernel_rfl)) (by decide) (fun K hK => ?_)
        refine gz_ Try.func55 #[.int .i64 ((rd_T70 l1 x9_1).f1), .int .i64 1, .int .i64 1000] ?_
        with_reducible refine (impl_within.calls ((rd_T70 l1 x9_1).f1) 1 1000 false _ A8.out).mono ?_
        rintro e w' ⟨rfl, ⟨nd, rfl⟩⟩
        refine ⟨_, rfl, ?_⟩
        refine hK.out _ _ ⟨(blk_cell BK222.out 0).trans rfl, (blk_cell BK222.out 1).trans rfl⟩ (fun hHeld => ?_)
        clear hK K
        refine nz_ 21 ?_
        refine pz_ 8 22 ba8_9 HT_ ?_
        refine pz_ 9 23 ba8_10 HT_ ?_
        refine pz_ 10 24 ba8_11 HT_ ?_
        refine pu_ 11 25 ba8_12 HT_ ?_
        refine pu_ 12 26 ba8_37 HT_ ?_
        refine pu_ 13 27 ba8_14 HT_ ?_
        refine pu_ 14 28 ba8_15 HT_ ?_
        refine pz_ 15 29 ba8_16 HT_ ?_
        refine pz_ 16 30 ba8_17 HT_ ?_
        refine pu_ 17 31 ba8_18 HT_ ?_
        refine pu_ 18 32 ba8_19 HT_ ?_
        refine pu_ 19 33 ba8_20 HT_ ?_
        refine pu_ 20 34 ba8_21 HT_ ?_
        refine pu_ 21 35 ba8_22 HT_ ?_
        refine pu_ 22 36 ba8_23 HT_ ?_
        refine pu_ 23 37 ba8_24 HT_ ?_
        refine pu_ 24 38 ba8_25 HT_ ?_
        refine pu_ 25 39 ba8_26 HT_ ?_
        refine pu_ 26 40 ba8_27 HT_ ?_
        refine pu_ 27 41 ba8_28 HT_ ?_
        refine pu_ 28 42 ba8_29 HT_ ?_
        refine pu_ 29 43 ba8_30 HT_ ?_
        refine pz_ 30 44 ba8_31 HT_ ?_
        refine done_ (done_of HT_.out (by kernel_rfl)) ?_
        try go_wp2
        go_ret
        exact ⟨by first | rfl | (simp [errW_none, errW_some] <;> rfl) | (simp [*, errW_none, errW_some] <;> rfl), by repeat (first | (with_reducible first | exact HB.out | apply below_alloc | apply pw_below_drewN | apply below_drew1 | refine below_set ?_ GE222.out) | exact HB.out)⟩
      ·replace c7 := Bool.eq_false_iff.mpr c7
       subst c7
       rw [if_neg (show ¬ (false = true) by decide)] at H
       obtain rfl := Option.some.inj H
       have p221 : 0 ≤ (x9_1 : Int) := of_decide_eq_true (by first | (with_reducible assumption) | assumption)
       have q221 : x9_1 < (l1.length : Int) := of_decide_eq_true (by first | (with_reducible assumption) | assumption)
       obtain ⟨ad221, e221, hx221_0, hx221_1⟩ := at_T70 HR1.out x9_1 p221 q221
       cases e221
       replace hx221_0 := (HB.out.cell (World.block_lt_of_cell? w _ hx221_0)).trans hx221_0
       replace hx221_1 := (HB.out.cell (World.block_lt_of_cell? w _ hx221_1)).trans hx221_1
       replace p221 := eq_true p221
       replace q221 := eq_true q221
       try go_wp2_with (first | ((with_reducible refine gate_dst (N := 6) rfl ?_); refine box_event ?hg (N := 6) ?hd (cs := #[.int .i64 0, .int .i64 0]) (t := 70) ?hr ?_; (case hd => rfl); (case hg => rfl); (case hr => first | (go_simp; done) | (go_simp; rfl)); intro gb222 hg w36 hbox hb; have BK222 := Aside0.mk hbox; have GW222 := ge_ HB hg; have GE222 := ge_ HB hg; replace HB := Aside0.mk (bt_ HB hb); clear hb hbox hg; have hcz37_0 := cz_ BK222 0 (.int .i64 0); have hcz37_1 := cz_ BK222 1 (.int .i64 0); have hfz37_0 := blk_frozen BK222.out 0; have hfz37_1 := blk_frozen BK222.out 1))
       have n0_ : Aside0 (((w36.setCell ⟨gb222, 0, none⟩ (.int .i64 ((rd_T70 l1 x9_1).f0))).setCell ⟨gb222, 1, none⟩ (.int .i64 ((rd_T70 l1 x9_1).f1))).heap[gb222]? = some (.cells #[.int .i64 ((rd_T70 l1 x9_1).f0), .int .i64 ((rd_T70 l1 x9_1).f1)] 70 (0, 0))) := ⟨by (with_reducible repeat (first | refine blk_drewN ?_ _ | refine blk_drew ?_ | refine blk_alloc ?_ _)); refine blk_put (cs := #[.int .i64 ((rd_T70 l1 x9_1).f0), .int .i64 0]) ?_ 1 _ rfl; (with_reducible repeat (first | refine blk_drewN ?_ _ | refine blk_drew ?_ | refine blk_alloc ?_ _)); refine blk_put (cs := #[.int .i64 0, .int .i64 0]) ?_ 0 _ rfl; (with_reducible repeat (first | refine blk_drewN ?_ _ | refine blk_drew ?_ | refine blk_alloc ?_ _)); exact BK222.out⟩
       have n1_ : Aside0 (Below w.heap.size w ((w36.setCell ⟨gb222, 0, none⟩ (.int .i64 ((rd_T70 l1 x9_1).f0))).setCell ⟨gb222, 1, none⟩ (.int .i64 ((rd_T70 l1 x9_1).f1)))) := ⟨by repeat (first | (with_reducible first | exact HB.out | apply below_alloc | apply pw_below_drewN | apply below_drew1 | refine below_set ?_ GE222.out) | exact HB.out)⟩
       (try clear BK222)
       (try clear HB)
       generalize ((w36.setCell ⟨gb222, 0, none⟩ (.int .i64 ((rd_T70 l1 x9_1).f0))).setCell ⟨gb222, 1, none⟩ (.int .i64 ((rd_T70 l1 x9_1).f1))) = w38 at n0_ n1_ ⊢
       have BK222 := n0_
       have HB := n1_
       clear n0_ n1_
       replace BK222 := Aside0.mk (blk_drew BK222.out)
       replace HB := Aside0.mk (below_drew1 HB.out)
       refine start_ (n := 31) (S := fun w' => w'.cell? ⟨gb222, 0, none⟩ = some (.int .i64 ((rd_T70 l1 x9_1).f0)) ∧ w'.cell? ⟨gb222, 1, none⟩ = some (.int .i64 ((rd_T70 l1 x9_1).f1))) (ds := []) ba8_0 (by kernel_rfl) rfl rfl ⟨(blk_cell BK222.out 0).trans rfl, (blk_cell BK222.out 1).trans rfl⟩ (fun hHeld => ?_); refine with_tabW impl_areLinks.tab4 impl_areLinks.bits4 (fun HT_ HW_ => ?_)
       generalize w38.drew = w39 at BK222 HB hHeld ⊢
       refine pz_ 0 14 ba8_1 HT_ ?_
       refine pt_ 1 15 ba8_2 HT_ HW_ hHeld ?_
       refine one_ (i := 2) (N := some 16) ba8_3 rfl rfl (one_of HT_.out (by kernel_rfl)) (by decide) (fun K hK => ?_)
       refine gz_ Try.func55 #[.int .i64 ((rd_T70 l1 x9_1).f0), .int .i64 0, .int .i64 9] ?_
       with_reducible refine (impl_within.calls ((rd_T70 l1 x9_1).f0) 0 9 false _ A6.out).mono ?_
       rintro e w' ⟨rfl, ⟨nd, rfl⟩⟩
       refine ⟨_, rfl, ?_⟩
       refine hK.out _ _ ⟨(blk_cell BK222.out 0).trans rfl, (blk_cell BK222.out 1).trans rfl⟩ (fun hHeld => ?_)
       clear hK K
       refine nz_ 16 ?_
       refine pz_ 3 17 ba8_4 HT_ ?_
       refine pz_ 4 18 ba8_5 HT_ ?_
       refine pu_ 5 19 ba8_6 HT_ ?_
       refine pu_ 6 20 ba8_7 HT_ ?_
       refine pu_ 7 21 ba8_8 HT_ ?_
       refine pu_ 8 22 ba8_9 HT_ ?_
       refine pz_ 9 23 ba8_10 HT_ ?_
       refine pz_ 10 24 ba8_11 HT_ ?_
       refine pu_ 11 25 ba8_12 HT_ ?_
       refine pu_ 12 26 ba8_37 HT_ ?_
       refine pu_ 13 27 ba8_14 HT_ ?_
       refine pu_ 14 28 ba8_15 HT_ ?_
       refine pz_ 15 29 ba8_16 HT_ ?_
       refine pz_ 16 30 ba8_17 HT_ ?_
       refine pu_ 17 31 ba8_18 HT_ ?_
       refine pu_ 18 32 ba8_19 HT_ ?_
       refine pu_ 19 33 ba8_20 HT_ ?_
       refine pu_ 20 34 ba8_21 HT_ ?_
       refine pu_ 21 35 ba8_22 HT_ ?_
       refine pu_ 22 36 ba8_23 HT_ ?_
       refine pu_ 23 37 ba8_24 HT_ ?_
       refine pu_ 24 38 ba8_25 HT_ ?_
       refine pu_ 25 39 ba8_26 HT_ ?_
       refine pu_ 26 40 ba8_27 HT_ ?_
       refine pu_ 27 41 ba8_28 HT_ ?_
       refine pu_ 28 42 ba8_29 HT_ ?_
       refine pu_ 29 43 ba8_30 HT_ ?_
       refine pz_ 30 44 ba8_31 HT_ ?_
       refine done_ (done_of HT_.out (by kernel_rfl)) ?_
       try go_wp2
       go_ret
       exact ⟨by first | rfl | (simp [errW_none, errW_some] <;> rfl) | (simp [*, errW_none, errW_some] <;> rfl), by repeat (first | (with_reducible first | exact HB.out | apply below_alloc | apply pw_below_drewN | apply below_drew1 | refine below_set ?_ GE222.out) | exact HB.out)⟩
     ·rw [if_neg c5] at H
      exact absurd H (by simp)
    ·rw [if_neg c4] at H
     exact absurd H (by simp)
   ·rw [if_neg c3] at H
    have c3b0 : decide (x9_1 < (l1.length : Int)) = false := decide_eq_false c3
    clear c3
    obtain rfl := Option.some.inj H
    go_wp2
    go_ret
    exact ⟨by first | rfl | (simp [errW_none, errW_some] <;> rfl) | (simp [*, errW_none, errW_some] <;> rfl), by repeat (first | (with_reducible first | exact HB.out | apply below_alloc | apply pw_below_drewN | apply below_drew1) | exact HB.out)⟩

end Go.Proofs.Ytiikcfaodkiakaa.QFnExactAgeLsa
