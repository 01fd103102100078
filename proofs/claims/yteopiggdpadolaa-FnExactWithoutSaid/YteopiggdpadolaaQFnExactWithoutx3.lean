/- Contracts of functions that the law reaches: what each call returns and what it leaves in memory. Made by this session over the print of the kit. -/
import Derived.Test.YteopiggdpadolaaQFnExactWithoutx0
import Derived.Test.YteopiggdpadolaaQFnExactWithoutx2
namespace Go.Proofs.Yteopiggdpadolaa.QFnExactWithout
open Go.RowKit Go.Proofs.YteopiggdpadolaaU.PrintWords Go.Proofs.YteopiggdpadolaaU.PrintLast Go.Proofs.YteopiggdpadolaaU.PrintMore
attribute [local go_sem] max2_int min2_int max_two min_two max_three min_three max_four min_four   -- for this text's walks alone
set_option linter.unusedVariables false
set_option linter.unusedSimpArgs false
def ba3_0 : Array Bool := #[false, false, false, false, false, false, false, false, false, false, false]
def ba3_1 : Array Bool := #[true, false, false, false, false, false, false, false, false, false, false]
def ba3_2 : Array Bool := #[true, false, true, false, false, false, false, false, false, false, false]
def ba3_3 : Array Bool := #[true, false, true, false, true, false, false, false, false, false, false]
def ba3_4 : Array Bool := #[true, true, true, false, true, false, false, false, false, false, false]
def ba3_5 : Array Bool := #[true, true, true, true, true, false, false, false, false, false, false]
def ba3_6 : Array Bool := #[true, true, true, true, true, true, false, false, false, false, false]
def ba3_7 : Array Bool := #[true, true, true, true, true, true, true, false, false, false, false]
def ba3_8 : Array Bool := #[true, true, true, true, true, true, true, true, false, false, false]
def ba3_9 : Array Bool := #[true, true, true, true, true, true, true, true, true, false, false]
def ba3_10 : Array Bool := #[true, true, true, true, true, true, true, true, true, true, false]
def ba3_11 : Array Bool := #[true, true, true, true, true, true, true, true, true, true, true]

/-! ### spec_l03Copy: function 64 -/
def spec_l03Copy.l0 : Nat → Int → Int → List (S67) → Int → List (S67) → Option (Int × (List (S67)))
 | 0, _, _, _, _, _ => none
 | k + 1, x4, x140000, x140001, x142000, x142001 => if x4 < (x140001.length : Int) then (if 0 ≤ x4 then (if x142001.length < 5864062014805 then (spec_l03Copy.l0 k (wrap64 (x4 + 1)) x140000 x140001 x142000 (x142001 ++ [(⟨(rd_T67 x140001 x4).f0, (rd_T67 x140001 x4).f1, (rd_T67 x140001 x4).f2⟩ : S67)])) else (none)) else (none)) else (some (x142000, x142001))
def spec_l03Copy.f (k : Nat) (a0_0 : Int) (l0_1 : List (S67)) : Option (Int × (List (S67))) := spec_l03Copy.l0 k 0 a0_0 l0_1 a0_0 ([] : List (S67))
theorem spec_l03Copy.mono_l : ∀ k, (∀ y0 y1 y2 y3 y4, LeO (spec_l03Copy.l0 k y0 y1 y2 y3 y4) (spec_l03Copy.l0 (k + 1) y0 y1 y2 y3 y4))
 | 0 => fun _ _ _ _ _ r h => by simp [spec_l03Copy.l0] at h
 | k + 1 => by
  have ih0 := spec_l03Copy.mono_l k
  ·intro y0 y1 y2 y3 y4
   unfold spec_l03Copy.l0
   repeat' first
   | (with_reducible exact ih0 _ _ _ _ _)
   | (with_reducible exact LeO.refl _)
   | (with_reducible exact LeO.none _)
   | (with_reducible refine LeO.ite ?_ ?_)
   | (with_reducible refine LeO.bind ?_ (fun _ => ?_))
   | exact ih0 _ _ _ _ _
   | exact LeO.none _
   | refine LeO.ite ?_ ?_
   | refine LeO.bind ?_ (fun _ => ?_)
theorem spec_l03Copy.mono : ∀ a0 a1 k, LeO (spec_l03Copy.f k a0 a1) (spec_l03Copy.f (k + 1) a0 a1) := by
 intro a0 a1 k
 have ih0 := spec_l03Copy.mono_l k
 unfold spec_l03Copy.f
 repeat' first
   | (with_reducible exact ih0 _ _ _ _ _)
   | (with_reducible exact LeO.refl _)
   | (with_reducible exact LeO.none _)
   | (with_reducible refine LeO.ite ?_ ?_)
   | (with_reducible refine LeO.bind ?_ (fun _ => ?_))
   | exact ih0 _ _ _ _ _
   | exact LeO.none _
   | refine LeO.ite ?_ ?_
   | refine LeO.bind ?_ (fun _ => ?_)
def spec_l03Copy.T5 : Bool × List (List Nat × List Nat) := (true, [([], []), ([0], [0]), ([], []), ([2], [2]), ([], []), ([3, 4], [3, 4]), ([5], [5]), ([6], [6]), ([1, 7], [1, 7]), ([0, 1, 2, 3, 4, 5, 6, 7, 8], []), ([9, 8, 8, 0, 1, 2, 3, 4, 5, 6, 7, 8], [8, 9])])
def spec_l03Copy.B5 : List Nat := [0, 1, 0, 4, 0, 28, 60, 124, 255, 511, 1023]
theorem spec_l03Copy.tab5 : rtab .any (opsOf Try.f64 5) = spec_l03Copy.T5 := by kernel_rfl
theorem spec_l03Copy.bits5 : waitsOk spec_l03Copy.T5.2 spec_l03Copy.B5 = true := by kernel_rfl
set_option maxHeartbeats 8000000 in
set_option maxRecDepth 100000 in
theorem spec_l03Copy.calls (k : Nat) (a0_0 : Int) (A0_1 : Option Addr) (c0_1 : Nat) (l0_1 : List (S67)) (r1 : Int) (r2 : List (S67)) (w : World) (hr0_1 : Kd.C k67 w A0_1 l0_1.length l0_1) (hc0_1 : l0_1.length ≤ c0_1) (h : spec_l03Copy.f k a0_0 l0_1 = some (r1, r2)) :
  Calls Try.prog 64 #[.agg #[.int .i64 a0_0, .slice A0_1 l0_1.length c0_1]] w fun e w' => ∃ v1_ : Value, e = .returned (.agg #[.int .i64 r1, v1_]) ∧ Kd.R k67 67 w' w.heap.size (fun _ => True) v1_ r2 ∧ Below w.heap.size w w' := by
 have hu30 := Try.underlying30
 have hu67 := Try.underlying67
 have HR0_1 := Aside0.mk hr0_1
 have HC0_1 := Aside0.mk hc0_1
 clear hr0_1 hc0_1
 have HB := Aside0.mk (Below.refl w.heap.size w)
 have H : (spec_l03Copy.l0 k 0 a0_0 l0_1 a0_0 ([] : List (S67))) = some (r1, r2) := h
 clear h
 have H' := Aside0.mk H
 clear H
 go_enter Try.func64, Try.ntmps64
 go_wp2_with (first | ((with_reducible refine gate_dst (N := 1) rfl ?_); refine box_event ?hg (N := 1) ?hd (cs := #[.int .i64 a0_0, .slice A0_1 l0_1.length c0_1]) (t := 30) ?hr ?_; (case hd => rfl); (case hg => rfl); (case hr => first | (go_simp; done) | (go_simp; rfl)); intro gb139 hg w2 hbox hb; have BK139 := Aside0.mk hbox; have GW139 := ge_ HB hg; have GE139 := ge_ HB hg; replace HB := Aside0.mk (bt_ HB hb); clear hb hbox hg) | ((with_reducible refine gate_dst (N := 2) rfl ?_); refine box_event ?hg (N := 2) ?hd (cs := #[.int .i64 0, .slice none 0 0]) (t := 30) ?hr ?_; (case hd => rfl); (case hg => rfl); (case hr => first | (go_simp; done) | (go_simp; rfl)); intro gb140 hg w3 hbox hb; have BK140 := Aside0.mk hbox; have GW140 := ge_ HB hg; have GE140 := ge_ HB hg; have NB139_140 := nl_ BK139 hg; have NB140_139 := ng_ BK139 hg; replace HB := Aside0.mk (bt_ HB hb); replace BK139 := Aside0.mk (bb_ BK139 hb); clear hb hbox hg; have hnb4 := NB139_140.out; have hnc4 := NB140_139.out; have hcz5_0 := cz_ BK139 0 (.int .i64 a0_0); have hcz5_1 := cz_ BK139 1 (.slice A0_1 l0_1.length c0_1); have hfz5_0 := blk_frozen BK139.out 0; have hfz5_1 := blk_frozen BK139.out 1) | ((with_reducible refine gate_dst (N := 3) rfl ?_); refine box_event ?hg (N := 3) ?hd (cs := #[.int .i64 0, .slice none 0 0]) (t := 30) ?hr ?_; (case hd => rfl); (case hg => rfl); (case hr => first | (go_simp; done) | (go_simp; rfl)); intro gb141 hg w6 hbox hb; have BK141 := Aside0.mk hbox; have GW141 := ge_ HB hg; have GE141 := ge_ HB hg; have NB139_141 := nl_ BK139 hg; have NB141_139 := ng_ BK139 hg; have NB140_141 := nl_ BK140 hg; have NB141_140 := ng_ BK140 hg; replace HB := Aside0.mk (bt_ HB hb); replace BK139 := Aside0.mk (bb_ BK139 hb); replace BK140 := Aside0.mk (bb_ BK140 hb); clear hb hbox hg; have hnb7 := NB141_139.out; have hnc7 := NB139_141.out; have hnb8 := NB141_140.out; have hnc8 := NB140_141.out; have hcz9_0 := cz_ BK141 0 (.int .i64 0); have hcz9_1 := cz_ BK141 1 (.slice none 0 0); have hfz9_0 := blk_frozen BK141.out 0; have hfz9_1 := blk_frozen BK141.out 1))
 go_loopg [4] k (fun kq v4 w' => ∃ (x4_1 : Int) (x142001_1 : List (S67)) (u142001 : Value), v4 = .int .i64 x4_1 ∧ Aside0 (spec_l03Copy.l0 kq x4_1 a0_0 l0_1 a0_0 x142001_1 = some (r1, r2)) ∧ Aside0 (kq ≤ k) ∧ Aside0 (Kd.R k67 67 w' w.heap.size (fun _ => True) u142001 x142001_1) ∧ Aside0 (w'.heap[gb139]? = some (.cells #[.int .i64 a0_0, (.slice A0_1 l0_1.length c0_1)] 30 (0, 0))) ∧ Aside0 (w'.heap[gb140]? = some (.cells #[.int .i64 0, (.slice none 0 0)] 30 (0, 0))) ∧ Aside0 (w'.heap[gb141]? = some (.cells #[.int .i64 a0_0, u142001] 30 (0, 0))) ∧ Aside0 (Below w.heap.size w w'))
 case atStart => exact ⟨(0), (([] : List (S67))), (.slice none 0 0), (by first | rfl | (simp; done) | (simp [*]; done)), H', ⟨Nat.le_refl _⟩, ⟨by first | exact Kd.R_nil _ _ _ _ _ | exact Kd.N_nil _ _ _ _ _ | exact Kd.V_nil _ _ _ _ _ | exact Kd.Q_nil _ _ _ _ _ | exact Kd.S_nil _ _ _ _ _⟩, ⟨by (with_reducible repeat (first | refine blk_drewN ?_ _ | refine blk_drew ?_ | refine blk_alloc ?_ _)); refine blk_far ?_ NB139_141.out _; (with_reducible repeat (first | refine blk_drewN ?_ _ | refine blk_drew ?_ | refine blk_alloc ?_ _)); refine blk_far ?_ NB139_141.out _; (with_reducible repeat (first | refine blk_drewN ?_ _ | refine blk_drew ?_ | refine blk_alloc ?_ _)); exact BK139.out⟩, ⟨by (with_reducible repeat (first | refine blk_drewN ?_ _ | refine blk_drew ?_ | refine blk_alloc ?_ _)); refine blk_far ?_ NB140_141.out _; (with_reducible repeat (first | refine blk_drewN ?_ _ | refine blk_drew ?_ | refine blk_alloc ?_ _)); refine blk_far ?_ NB140_141.out _; (with_reducible repeat (first | refine blk_drewN ?_ _ | refine blk_drew ?_ | refine blk_alloc ?_ _)); exact BK140.out⟩, ⟨by (with_reducible repeat (first | refine blk_drewN ?_ _ | refine blk_drew ?_ | refine blk_alloc ?_ _)); refine blk_put (cs := #[.int .i64 a0_0, .slice none 0 0]) ?_ 1 _ rfl; (with_reducible repeat (first | refine blk_drewN ?_ _ | refine blk_drew ?_ | refine blk_alloc ?_ _)); refine blk_put (cs := #[.int .i64 0, .slice none 0 0]) ?_ 0 _ rfl; (with_reducible repeat (first | refine blk_drewN ?_ _ | refine blk_drew ?_ | refine blk_alloc ?_ _)); exact BK141.out⟩, ⟨by repeat (first | (with_reducible first | exact HB.out | apply below_alloc | apply pw_below_drewN | apply below_drew1 | refine below_set ?_ GE139.out | refine below_set ?_ GE140.out | refine below_set ?_ GE141.out) | exact HB.out)⟩⟩
 case round =>
  clear H'
  try clear p2
  try clear c4
  try clear c6
  try clear c7
  try clear c8
  try clear hcz5_0
  try clear hcz5_1
  try clear hcz9_0
  try clear hcz9_1
  try clear hfz5_0
  try clear hfz5_1
  try clear hfz9_0
  try clear hfz9_1
  obtain ⟨x4_1, x142001_1, u142001, rfl, HA, HK1, HO_142001, BK139, BK140, BK141, HB⟩ := hrel
  cases gk with
  | zero => exact absurd HA.out (by simp [spec_l03Copy.l0])
  | succ k1 =>
   have H := HA.out
   clear HA
   simp only [spec_l03Copy.l0] at H
   by_cases c10 : x4_1 < (l0_1.length : Int)
   ·rw [if_pos c10] at H
    have c10b0 : decide (x4_1 < (l0_1.length : Int)) = true := decide_eq_true c10
    clear c10
    by_cases c11 : 0 ≤ x4_1
    ·rw [if_pos c11] at H
     have c11b0 : decide (0 ≤ x4_1) = true := decide_eq_true c11
     clear c11
     by_cases c12 : x142001_1.length < 5864062014805
     ·rw [if_pos c12] at H
      have LMc12 := Aside0.mk c12
      clear c12
      obtain ⟨y143, hy143⟩ : ∃ y_ : List (S67), y_ = (x142001_1 ++ [(⟨(rd_T67 l0_1 x4_1).f0, (rd_T67 l0_1 x4_1).f1, (rd_T67 l0_1 x4_1).f2⟩ : S67)]) := ⟨_, rfl⟩
      replace H : (spec_l03Copy.l0 k1 (wrap64 (x4_1 + 1)) a0_0 l0_1 a0_0 y143) = some (r1, r2) := by first | (rw [hy143]; with_reducible exact H) | (have H2_ := (Option.bind_some _ _).symm.trans H; rw [hy143]; with_reducible exact H2_) | (have H2_ := (Option.bind_some _ _).symm.trans H; with_reducible exact H2_) | with_reducible exact H | (rw [hy143]; exact H) | exact H
      have Ny143 := Aside0.mk hy143
      clear hy143
      have H' := Aside0.mk H
      clear H
      have hnb13 := NB139_140.out
      have hnc13 := NB140_139.out
      have hnb14 := NB139_141.out
      have hnc14 := NB141_139.out
      have hcz15_0 := cz_ BK139 0 (.int .i64 a0_0)
      have hcz15_1 := cz_ BK139 1 (.slice A0_1 l0_1.length c0_1)
      have hfz15_0 := blk_frozen BK139.out 0
      have hfz15_1 := blk_frozen BK139.out 1
      try go_wp2
      replace HO_142001 := Aside0.mk (Kd.R_drew HO_142001.out)
      replace BK139 := Aside0.mk (blk_drew BK139.out)
      replace BK140 := Aside0.mk (blk_drew BK140.out)
      replace BK141 := Aside0.mk (blk_drew BK141.out)
      replace HB := Aside0.mk (below_drew1 HB.out)
      have p142 : 0 ≤ (x4_1 : Int) := of_decide_eq_true (by first | (with_reducible assumption) | assumption)
      have q142 : x4_1 < (l0_1.length : Int) := of_decide_eq_true (by first | (with_reducible assumption) | assumption)
      obtain ⟨ad142, e142, hx142_0, hx142_1, hx142_2⟩ := at_T67 HR0_1.out x4_1 p142 q142
      have hw142_2 := hx142_2
      have hw142_1 := hx142_1
      have hw142_0 := hx142_0
      cases e142
      replace hx142_0 := (HB.out.cell (World.block_lt_of_cell? w _ hx142_0)).trans hx142_0
      replace hx142_1 := (HB.out.cell (World.block_lt_of_cell? w _ hx142_1)).trans hx142_1
      replace hx142_2 := (HB.out.cell (World.block_lt_of_cell? w _ hx142_2)).trans hx142_2
      replace p142 := eq_true p142
      replace q142 := eq_true q142
      refine start_ (n := 11) (S := fun w' => w'.cell? ⟨gb141, 0, none⟩ = some (.int .i64 a0_0) ∧ w'.cell? ⟨gb141, 1, none⟩ = some (u142001) ∧ w'.cell? ⟨gb139, 0, none⟩ = some (.int .i64 a0_0) ∧ w'.cell? ⟨gb139, 1, none⟩ = some (.slice (some ad142) l0_1.length c0_1) ∧ w'.cell? (ad142.add ((x4_1).toNat * 3)) = some (.int .i64 ((rd_T67 l0_1 x4_1).f0)) ∧ w'.cell? ⟨(ad142.add ((x4_1).toNat * 3)).block, (ad142.add ((x4_1).toNat * 3)).off + 1, none⟩ = some (.int .i64 ((rd_T67 l0_1 x4_1).f1)) ∧ w'.cell? ⟨(ad142.add ((x4_1).toNat * 3)).block, (ad142.add ((x4_1).toNat * 3)).off + 2, none⟩ = some (.int .i64 ((rd_T67 l0_1 x4_1).f2))) (ds := [10]) ba3_0 (by kernel_rfl) rfl rfl ⟨(blk_cell BK141.out 0).trans rfl, (blk_cell BK141.out 1).trans rfl, (blk_cell BK139.out 0).trans rfl, (blk_cell BK139.out 1).trans rfl, (hc_ HB hw142_0), (hc_ HB hw142_1), (hc_ HB hw142_2)⟩ (fun hHeld => ?_); refine with_tabW spec_l03Copy.tab5 spec_l03Copy.bits5 (fun HT_ HW_ => ?_)
      generalize wr.drew = w16 at HO_142001 BK139 BK140 BK141 HB hx142_0 hx142_1 hx142_2 hHeld ⊢
      refine pz_ 0 15 ba3_1 HT_ ?_
      refine pz_ 2 17 ba3_2 HT_ ?_
      refine pz_ 4 19 ba3_3 HT_ ?_
      refine pt_ 1 16 ba3_4 HT_ HW_ hHeld ?_
      refine pt_ 3 18 ba3_5 HT_ HW_ hHeld ?_
      refine pz_ 5 20 ba3_6 HT_ ?_
      refine pt_ 6 21 ba3_7 HT_ HW_ hHeld ?_
      refine one_ (i := 7) (N := some 22) ba3_8 rfl rfl (one_of HT_.out (by kernel_rfl)) (by decide) (fun K hK => ?_)
      refine value_ (w1 := ?_) (v := ?_) (by rfl) rfl ?_ ?_
      rotate_left 2
      ·go_simp
       constructor
       ·rfl
       ·rfl
      refine hK.out _ _ ⟨(blk_cell (blk_alloc BK141.out _) 0).trans rfl, (blk_cell (blk_alloc BK141.out _) 1).trans rfl, (blk_cell (blk_alloc BK139.out _) 0).trans rfl, (blk_cell (blk_alloc BK139.out _) 1).trans rfl, (World.cell?_alloc_lt _ _ _ (World.block_lt_of_cell? _ _ ((hc_ HB hw142_0)))).trans ((hc_ HB hw142_0)), (World.cell?_alloc_lt _ _ _ (World.block_lt_of_cell? _ _ ((hc_ HB hw142_1)))).trans ((hc_ HB hw142_1)), (World.cell?_alloc_lt _ _ _ (World.block_lt_of_cell? _ _ ((hc_ HB hw142_2)))).trans ((hc_ HB hw142_2))⟩ (fun hHeld => ?_)
      clear hK K
      refine nz_ 22 ?_
      refine one_ (i := 8) (N := some 23) ba3_9 rfl rfl (one_of HT_.out (by kernel_rfl)) (by decide) (fun K hK => ?_)
      refine Kd.R_append_step k67 (w0 := w) w.heap.size (by rfl) (.tmp 16) (.tmp 22) 28 67 (.agg #[(.int .i64 0), (.int .i64 0), (.int .i64 0)]) 24 rfl Try.underlying28 info67 rfl (by decide) (by omega) u142001 x142001_1 (⟨(rd_T67 l0_1 x4_1).f0, (rd_T67 l0_1 x4_1).f1, (rd_T67 l0_1 x4_1).f2⟩ : S67) [.int .i64 ((rd_T67 l0_1 x4_1).f0), .int .i64 ((rd_T67 l0_1 x4_1).f1), .int .i64 ((rd_T67 l0_1 x4_1).f2)] (fun _ => True) (fun _ => False) rfl rfl ?aP (fun _ hk => hk.elim) ?aF ?aO ?aB ?aS ?aL ?_
      (case aP => exact k67_mkM _ _ _ (⟨(rd_T67 l0_1 x4_1).f0, (rd_T67 l0_1 x4_1).f1, (rd_T67 l0_1 x4_1).f2⟩ : S67))
      (case aB => exact (by repeat (first | (with_reducible first | exact HB.out | apply below_alloc | apply pw_below_drewN | apply below_drew1 | refine below_set ?_ GE139.out | refine below_set ?_ GE140.out | refine below_set ?_ GE141.out) | exact HB.out)))
      (case aF => exact (fun _ _ => trivial))
      (case aO => exact (hd_ HO_142001))
      (case aS => exact (bz_ HB))
      (case aL => have := LMc12.out; omega)
      intro v144 w17 ho hb hg hat
      rw [← Ny143.out] at ho
      have HO145 := Aside0.mk ho
      replace BK139 := Aside0.mk (blk_grown (g := gb139) (o := .cells #[.int .i64 a0_0, .slice (some ad142) l0_1.length c0_1] 30 (0, 0)) (by (with_reducible repeat (first | refine blk_drewN ?_ _ | refine blk_drew ?_ | refine blk_alloc ?_ _)); exact BK139.out) hg (Kd.R_ne HO_142001.out BK139.out (by decide)))
      replace BK140 := Aside0.mk (blk_grown (g := gb140) (o := .cells #[.int .i64 0, .slice none 0 0] 30 (0, 0)) (by (with_reducible repeat (first | refine blk_drewN ?_ _ | refine blk_drew ?_ | refine blk_alloc ?_ _)); exact BK140.out) hg (Kd.R_ne HO_142001.out BK140.out (by decide)))
      replace BK141 := Aside0.mk (blk_grown (g := gb141) (o := .cells #[.int .i64 a0_0, u142001] 30 (0, 0)) (by (with_reducible repeat (first | refine blk_drewN ?_ _ | refine blk_drew ?_ | refine blk_alloc ?_ _)); exact BK141.out) hg (Kd.R_ne HO_142001.out BK141.out (by decide)))
      replace HB := Aside0.mk (hb)
      clear HO_142001
      clear ho hb hg hat
      obtain ⟨Ao18, co18, eo18⟩ := Kd.R_slice HO145.out
      (first | subst eo18 | (injection eo18 with f1_ f2_ f3_; have f4_ := f1_.symm; have f5_ := f3_.symm; clear f1_ f2_ f3_; subst f4_; subst f5_))
      refine hK.out _ _ ⟨(blk_cell BK141.out 0).trans rfl, (blk_cell BK141.out 1).trans rfl, (blk_cell BK139.out 0).trans rfl, (blk_cell BK139.out 1).trans rfl, (hc_ HB hw142_0), (hc_ HB hw142_1), (hc_ HB hw142_2)⟩ (fun hHeld => ?_)
      clear hK K
      refine nz_ 23 ?_
      refine pz_ 9 24 ba3_10 HT_ ?_
      refine last_ (i := 10) (N := none) ba3_11 rfl rfl (one_of HT_.out (by kernel_rfl)) (by decide) (fun K hK => ?_)
      have hs19 : w17.cell? ⟨gb141, 1, none⟩ = some (u142001) := (blk_cell BK141.out 1).trans rfl
      have hfs19 := blk_frozen BK141.out 1
      have hns19_0 := NB139_141.out
      have hns19_1 := NB140_141.out
      have hms19_0 := NB141_139.out
      have hms19_1 := NB141_140.out
      refine skip_ (w1 := ?_) (by rfl) rfl ?_ ?_
      rotate_left; · go_simp; rfl
      refine hK.out _ _ ?_
      clear hK K
      refine done_ (done_of HT_.out (by kernel_rfl)) ?_
      try go_wp2
      go_roundg k1
      case measure => have := HK1.out; omega
      case rel => exact ⟨(wrap64 (x4_1 + 1)), (y143), (.slice Ao18 y143.length co18), (by first | rfl | (simp; done) | (simp [*]; done)), H', ⟨by have := HK1.out; omega⟩, ⟨by (with_reducible repeat (first | apply Kd.R_alloc | apply Kd.R_drewN | apply Kd.R_drew)); exact Kd.R_mono (Kd.R_far (p := ⟨gb141, 1, none⟩) (Kd.R_types HO145.out BK141.out (by decide)) (fun _ hk => hk.2) (.slice Ao18 y143.length co18)) (fun _ hk => trivial)⟩, ⟨by (with_reducible repeat (first | refine blk_drewN ?_ _ | refine blk_drew ?_ | refine blk_alloc ?_ _)); refine blk_far ?_ NB139_141.out _; (with_reducible repeat (first | refine blk_drewN ?_ _ | refine blk_drew ?_ | refine blk_alloc ?_ _)); exact BK139.out⟩, ⟨by (with_reducible repeat (first | refine blk_drewN ?_ _ | refine blk_drew ?_ | refine blk_alloc ?_ _)); refine blk_far ?_ NB140_141.out _; (with_reducible repeat (first | refine blk_drewN ?_ _ | refine blk_drew ?_ | refine blk_alloc ?_ _)); exact BK140.out⟩, ⟨by (with_reducible repeat (first | refine blk_drewN ?_ _ | refine blk_drew ?_ | refine blk_alloc ?_ _)); refine blk_put (cs := #[.int .i64 a0_0, u142001]) ?_ 1 _ rfl; (with_reducible repeat (first | refine blk_drewN ?_ _ | refine blk_drew ?_ | refine blk_alloc ?_ _)); exact BK141.out⟩, ⟨by repeat (first | (with_reducible first | exact HB.out | apply below_alloc | apply pw_below_drewN | apply below_drew1 | refine below_set ?_ GE139.out | refine below_set ?_ GE140.out | refine below_set ?_ GE141.out) | exact HB.out)⟩⟩
     ·rw [if_neg c12] at H
      exact absurd H (by simp)
    ·rw [if_neg c11] at H
     exact absurd H (by simp)
   ·rw [if_neg c10] at H
    have c10b0 : decide (x4_1 < (l0_1.length : Int)) = false := decide_eq_false c10
    clear c10
    simp only [Option.some.injEq, Prod.mk.injEq] at H
    obtain ⟨rfl, rfl⟩ := H
    have hnb20 := NB139_140.out
    have hnc20 := NB140_139.out
    have hnb21 := NB139_141.out
    have hnc21 := NB141_139.out
    have hcz22_0 := cz_ BK139 0 (.int .i64 a0_0)
    have hcz22_1 := cz_ BK139 1 (.slice A0_1 l0_1.length c0_1)
    have hfz22_0 := blk_frozen BK139.out 0
    have hfz22_1 := blk_frozen BK139.out 1
    have hnb23 := NB141_140.out
    have hnc23 := NB140_141.out
    have hcz24_0 := cz_ BK141 0 (.int .i64 a0_0)
    have hcz24_1 := cz_ BK141 1 (u142001)
    have hfz24_0 := blk_frozen BK141.out 0
    have hfz24_1 := blk_frozen BK141.out 1
    have hcz25_0 := cz_ BK140 0 (.int .i64 0)
    have hcz25_1 := cz_ BK140 1 (.slice none 0 0)
    have hfz25_0 := blk_frozen BK140.out 0
    have hfz25_1 := blk_frozen BK140.out 1
    obtain ⟨Ao26, co26, eo26⟩ := Kd.R_slice HO_142001.out
    subst eo26
    go_wp2
    refine bodyPost_ret (results_cell_row rfl _ _ gb140 30 #[.int .i64 a0_0, .slice Ao26 x142001_1.length co26] (0, 0) _ rfl (by (with_reducible repeat (first | refine blk_drewN ?_ _ | refine blk_drew ?_ | refine blk_alloc ?_ _)); refine blk_put (cs := #[.int .i64 a0_0, .slice none 0 0]) ?_ 1 _ rfl; (with_reducible repeat (first | refine blk_drewN ?_ _ | refine blk_drew ?_ | refine blk_alloc ?_ _)); refine blk_put (cs := #[.int .i64 0, .slice none 0 0]) ?_ 0 _ rfl; (with_reducible repeat (first | refine blk_drewN ?_ _ | refine blk_drew ?_ | refine blk_alloc ?_ _)); exact BK140.out) Try.underlying30 rfl (by kernel_rfl)) rfl ?_
    exact ⟨_, by first | rfl | (simp [errW_none, errW_some] <;> rfl) | (simp [*, errW_none, errW_some] <;> rfl), by (with_reducible repeat (first | apply Kd.R_alloc | apply Kd.R_drewN | apply Kd.R_drew)); exact Kd.R_mono (Kd.R_far (p := ⟨gb140, 1, none⟩) (Kd.R_far (p := ⟨gb140, 0, none⟩) (Kd.R_types HO_142001.out BK140.out (by decide)) (fun _ hk => hk.2) (.int .i64 a0_0)) (fun _ hk => hk.2) (.slice Ao26 x142001_1.length co26)) (fun _ hk => trivial), by repeat (first | (with_reducible first | exact HB.out | apply below_alloc | apply pw_below_drewN | apply below_drew1 | refine below_set ?_ GE139.out | refine below_set ?_ GE140.out | refine below_set ?_ GE141.out) | exact HB.out)⟩

/-! ### spec_Without: function 24 -/
def spec_Without.l0 : Nat → Int → Int → Int → Int → List (S67) → Int → List (S67) → Option (Int × (List (S67)) × Bool)
 | 0, _, _, _, _, _, _, _ => none
 | k + 1, x1, x2, x9, x147000, x147001, x149000, x149001 => if x9 < (x147001.length : Int) then (if 0 ≤ x9 then (if ((rd_T67 x147001 x9).f0) = x1 then (if (((rd_T67 x147001 x9).f1) = x2) then (spec_Without.l0 k x1 x2 (wrap64 (x9 + 1)) x147000 x147001 x149000 x149001) else (if ((rd_T67 x147001 x9).f0) = x2 then (if (((rd_T67 x147001 x9).f1) = x1) then (spec_Without.l0 k x1 x2 (wrap64 (x9 + 1)) x147000 x147001 x149000 x149001) else (if x149001.length < 5864062014805 then (spec_Without.l0 k x1 x2 (wrap64 (x9 + 1)) x147000 x147001 x149000 (x149001 ++ [(⟨(rd_T67 x147001 x9).f0, (rd_T67 x147001 x9).f1, (rd_T67 x147001 x9).f2⟩ : S67)])) else (none))) else (if x149001.length < 5864062014805 then (spec_Without.l0 k x1 x2 (wrap64 (x9 + 1)) x147000 x147001 x149000 (x149001 ++ [(⟨(rd_T67 x147001 x9).f0, (rd_T67 x147001 x9).f1, (rd_T67 x147001 x9).f2⟩ : S67)])) else (none)))) else (if ((rd_T67 x147001 x9).f0) = x2 then (if (((rd_T67 x147001 x9).f1) = x1) then (spec_Without.l0 k x1 x2 (wrap64 (x9 + 1)) x147000 x147001 x149000 x149001) else (if x149001.length < 5864062014805 then (spec_Without.l0 k x1 x2 (wrap64 (x9 + 1)) x147000 x147001 x149000 (x149001 ++ [(⟨(rd_T67 x147001 x9).f0, (rd_T67 x147001 x9).f1, (rd_T67 x147001 x9).f2⟩ : S67)])) else (none))) else (if x149001.length < 5864062014805 then (spec_Without.l0 k x1 x2 (wrap64 (x9 + 1)) x147000 x147001 x149000 (x149001 ++ [(⟨(rd_T67 x147001 x9).f0, (rd_T67 x147001 x9).f1, (rd_T67 x147001 x9).f2⟩ : S67)])) else (none)))) else (none)) else ((spec_GraphOk.f k x147000 x147001).bind fun t163 => (if t163 = true then (if (x149001.length : Int) = (x147001.length : Int) then ((spec_l03Copy.f k x147000 x147001).bind fun bt164 => (some (bt164.1, bt164.2, false))) else (some (x149000, x149001, true))) else ((spec_l03Copy.f k x147000 x147001).bind fun bt168 => (some (bt168.1, bt168.2, false)))))
def spec_Without.f (k : Nat) (a0_0 : Int) (l0_1 : List (S67)) (a1 : Int) (a2 : Int) : Option (Int × (List (S67)) × Bool) := spec_Without.l0 k a1 a2 0 a0_0 l0_1 a0_0 ([] : List (S67))
theorem spec_Without.mono_l : ∀ k, (∀ y0 y1 y2 y3 y4 y5 y6, LeO (spec_Without.l0 k y0 y1 y2 y3 y4 y5 y6) (spec_Without.l0 (k + 1) y0 y1 y2 y3 y4 y5 y6))
 | 0 => fun _ _ _ _ _ _ _ r h => by simp [spec_Without.l0] at h
 | k + 1 => by
  have ih0 := spec_Without.mono_l k
  ·intro y0 y1 y2 y3 y4 y5 y6
   unfold spec_Without.l0
   repeat' first
   | (with_reducible exact ih0 _ _ _ _ _ _ _)
   | (with_reducible exact spec_GraphOk.mono _ _ _)
   | (with_reducible exact spec_l03Copy.mono _ _ _)
   | (with_reducible exact LeO.refl _)
   | (with_reducible exact LeO.none _)
   | (with_reducible refine LeO.ite ?_ ?_)
   | (with_reducible refine LeO.bind ?_ (fun _ => ?_))
   | exact ih0 _ _ _ _ _ _ _
   | exact spec_GraphOk.mono _ _ _
   | exact spec_l03Copy.mono _ _ _
   | exact LeO.none _
   | refine LeO.ite ?_ ?_
   | refine LeO.bind ?_ (fun _ => ?_)
theorem spec_Without.mono : ∀ a0 a1 a2 a3 k, LeO (spec_Without.f k a0 a1 a2 a3) (spec_Without.f (k + 1) a0 a1 a2 a3) := by
 intro a0 a1 a2 a3 k
 have ih0 := spec_Without.mono_l k
 unfold spec_Without.f
 repeat' first
   | (with_reducible exact ih0 _ _ _ _ _ _ _)
   | (with_reducible exact spec_GraphOk.mono _ _ _)
   | (with_reducible exact spec_l03Copy.mono _ _ _)
   | (with_reducible exact LeO.refl _)
   | (with_reducible exact LeO.none _)
   | (with_reducible refine LeO.ite ?_ ?_)
   | (with_reducible refine LeO.bind ?_ (fun _ => ?_))
   | exact ih0 _ _ _ _ _ _ _
   | exact spec_GraphOk.mono _ _ _
   | exact spec_l03Copy.mono _ _ _
   | exact LeO.none _
   | refine LeO.ite ?_ ?_
   | refine LeO.bind ?_ (fun _ => ?_)
set_option maxHeartbeats 8000000 in
set_option maxRecDepth 100000 in
theorem spec_Without.calls (k : Nat) (a0_0 : Int) (A0_1 : Option Addr) (c0_1 : Nat) (l0_1 : List (S67)) (a1 : Int) (a2 : Int) (r1 : Int) (r2 : List (S67)) (r3 : Bool) (w : World) (hr0_1 : Kd.C k67 w A0_1 l0_1.length l0_1) (hc0_1 : l0_1.length ≤ c0_1) (h : spec_Without.f k a0_0 l0_1 a1 a2 = some (r1, r2, r3)) :
  Calls Try.prog 24 #[.agg #[.int .i64 a0_0, .slice A0_1 l0_1.length c0_1], .int .i64 a1, .int .i64 a2] w fun e w' => ∃ v1_ : Value, e = .returned (.tuple #[.agg #[.int .i64 r1, v1_], .bool r3]) ∧ Kd.R k67 67 w' w.heap.size (fun _ => True) v1_ r2 ∧ Below w.heap.size w w' := by
 have hu30 := Try.underlying30
 have hu67 := Try.underlying67
 have HR0_1 := Aside0.mk hr0_1
 have HC0_1 := Aside0.mk hc0_1
 clear hr0_1 hc0_1
 have HB := Aside0.mk (Below.refl w.heap.size w)
 have H : (spec_Without.l0 k a1 a2 0 a0_0 l0_1 a0_0 ([] : List (S67))) = some (r1, r2, r3) := h
 clear h
 have H' := Aside0.mk H
 clear H
 go_enter Try.func24, Try.ntmps24
 go_wp2_with (first | ((with_reducible refine gate_dst (N := 3) rfl ?_); refine box_event ?hg (N := 3) ?hd (cs := #[.int .i64 a0_0, .slice A0_1 l0_1.length c0_1]) (t := 30) ?hr ?_; (case hd => rfl); (case hg => rfl); (case hr => first | (go_simp; done) | (go_simp; rfl)); intro gb146 hg w4 hbox hb; have BK146 := Aside0.mk hbox; have GW146 := ge_ HB hg; have GE146 := ge_ HB hg; replace HB := Aside0.mk (bt_ HB hb); clear hb hbox hg) | ((with_reducible refine gate_dst (N := 6) rfl ?_); refine box_event ?hg (N := 6) ?hd (cs := #[.int .i64 0, .slice none 0 0]) (t := 30) ?hr ?_; (case hd => rfl); (case hg => rfl); (case hr => first | (go_simp; done) | (go_simp; rfl)); intro gb147 hg w5 hbox hb; have BK147 := Aside0.mk hbox; have GW147 := ge_ HB hg; have GE147 := ge_ HB hg; have NB146_147 := nl_ BK146 hg; have NB147_146 := ng_ BK146 hg; replace HB := Aside0.mk (bt_ HB hb); replace BK146 := Aside0.mk (bb_ BK146 hb); clear hb hbox hg; have hnb6 := NB146_147.out; have hnc6 := NB147_146.out; have hcz7_0 := cz_ BK146 0 (.int .i64 a0_0); have hcz7_1 := cz_ BK146 1 (.slice A0_1 l0_1.length c0_1); have hfz7_0 := blk_frozen BK146.out 0; have hfz7_1 := blk_frozen BK146.out 1) | ((with_reducible refine gate_dst (N := 8) rfl ?_); refine box_event ?hg (N := 8) ?hd (cs := #[.int .i64 0, .slice none 0 0]) (t := 30) ?hr ?_; (case hd => rfl); (case hg => rfl); (case hr => first | (go_simp; done) | (go_simp; rfl)); intro gb148 hg w8 hbox hb; have BK148 := Aside0.mk hbox; have GW148 := ge_ HB hg; have GE148 := ge_ HB hg; have NB146_148 := nl_ BK146 hg; have NB148_146 := ng_ BK146 hg; have NB147_148 := nl_ BK147 hg; have NB148_147 := ng_ BK147 hg; replace HB := Aside0.mk (bt_ HB hb); replace BK146 := Aside0.mk (bb_ BK146 hb); replace BK147 := Aside0.mk (bb_ BK147 hb); clear hb hbox hg; have hnb9 := NB148_146.out; have hnc9 := NB146_148.out; have hnb10 := NB148_147.out; have hnc10 := NB147_148.out; have hcz11_0 := cz_ BK148 0 (.int .i64 0); have hcz11_1 := cz_ BK148 1 (.slice none 0 0); have hfz11_0 := blk_frozen BK148.out 0; have hfz11_1 := blk_frozen BK148.out 1))
 go_loopg [9] k (fun kq v9 w' => ∃ (x9_1 : Int) (x149001_1 : List (S67)) (u149001 : Value), v9 = .int .i64 x9_1 ∧ Aside0 (spec_Without.l0 kq a1 a2 x9_1 a0_0 l0_1 a0_0 x149001_1 = some (r1, r2, r3)) ∧ Aside0 (kq ≤ k) ∧ Aside0 (Kd.R k67 67 w' w.heap.size (fun _ => True) u149001 x149001_1) ∧ Aside0 (w'.heap[gb146]? = some (.cells #[.int .i64 a0_0, (.slice A0_1 l0_1.length c0_1)] 30 (0, 0))) ∧ Aside0 (w'.heap[gb147]? = some (.cells #[.int .i64 0, (.slice none 0 0)] 30 (0, 0))) ∧ Aside0 (w'.heap[gb148]? = some (.cells #[.int .i64 a0_0, u149001] 30 (0, 0))) ∧ Aside0 (Below w.heap.size w w'))
 case atStart => exact ⟨(0), (([] : List (S67))), (.slice none 0 0), (by first | rfl | (simp; done) | (simp [*]; done)), H', ⟨Nat.le_refl _⟩, ⟨by first | exact Kd.R_nil _ _ _ _ _ | exact Kd.N_nil _ _ _ _ _ | exact Kd.V_nil _ _ _ _ _ | exact Kd.Q_nil _ _ _ _ _ | exact Kd.S_nil _ _ _ _ _⟩, ⟨by (with_reducible repeat (first | refine blk_drewN ?_ _ | refine blk_drew ?_ | refine blk_alloc ?_ _)); refine blk_far ?_ NB146_148.out _; (with_reducible repeat (first | refine blk_drewN ?_ _ | refine blk_drew ?_ | refine blk_alloc ?_ _)); refine blk_far ?_ NB146_148.out _; (with_reducible repeat (first | refine blk_drewN ?_ _ | refine blk_drew ?_ | refine blk_alloc ?_ _)); exact BK146.out⟩, ⟨by (with_reducible repeat (first | refine blk_drewN ?_ _ | refine blk_drew ?_ | refine blk_alloc ?_ _)); refine blk_far ?_ NB147_148.out _; (with_reducible repeat (first | refine blk_drewN ?_ _ | refine blk_drew ?_ | refine blk_alloc ?_ _)); refine blk_far ?_ NB147_148.out _; (with_reducible repeat (first | refine blk_drewN ?_ _ | refine blk_drew ?_ | refine blk_alloc ?_ _)); exact BK147.out⟩, ⟨by (with_reducible repeat (first | refine blk_drewN ?_ _ | refine blk_drew ?_ | refine blk_alloc ?_ _)); refine blk_put (cs := #[.int .i64 a0_0, .slice none 0 0]) ?_ 1 _ rfl; (with_reducible repeat (first | refine blk_drewN ?_ _ | refine blk_drew ?_ | refine blk_alloc ?_ _)); refine blk_put (cs := #[.int .i64 0, .slice none 0 0]) ?_ 0 _ rfl; (with_reducible repeat (first | refine blk_drewN ?_ _ | refine blk_drew ?_ | refine blk_alloc ?_ _)); exact BK148.out⟩, ⟨by repeat (first | (with_reducible first | exact HB.out | apply below_alloc | apply pw_below_drewN | apply below_drew1 | refine below_set ?_ GE146.out | refine below_set ?_ GE147.out | refine below_set ?_ GE148.out) | exact HB.out)⟩⟩
 case round =>
  clear H'
  try clear c1
  try clear c2
  try clear p2
  try clear c6
  try clear c9
  try clear c10
  try clear hcz11_0
  try clear hcz11_1
  try clear hcz7_0
  try clear hcz7_1
  try clear hfz11_0
  try clear hfz11_1
  try clear hfz7_0
  try clear hfz7_1
  obtain ⟨x9_1, x149001_1, u149001, rfl, HA, HK1, HO_149001, BK146, BK147, BK148, HB⟩ := hrel
  cases gk with
  | zero => exact absurd HA.out (by simp [spec_Without.l0])
  | succ k1 =>
   have H := HA.out
   clear HA
   simp only [spec_Without.l0] at H
   by_cases c12 : x9_1 < (l0_1.length : Int)
   ·rw [if_pos c12] at H
    have c12b0 : decide (x9_1 < (l0_1.length : Int)) = true := decide_eq_true c12
    clear c12
    by_cases c13 : 0 ≤ x9_1
    ·rw [if_pos c13] at H
     have c13b0 : decide (0 ≤ x9_1) = true := decide_eq_true c13
     clear c13
     by_cases c14 : ((rd_T67 l0_1 x9_1).f0) = a1
     ·rw [if_pos c14] at H
      have c14b0 : (((rd_T67 l0_1 x9_1).f0) == a1) = true := beq_iff_eq.mpr c14
      have c14b1 : (((rd_T67 l0_1 x9_1).f0) != a1) = false := bne_eq_false_iff_eq.mpr c14
      clear c14
      by_cases c15 : (((rd_T67 l0_1 x9_1).f1) = a2)
      ·rw [if_pos c15] at H
       have c15b0 : (((rd_T67 l0_1 x9_1).f1) == a2) = true := beq_iff_eq.mpr c15
       have c15b1 : (((rd_T67 l0_1 x9_1).f1) != a2) = false := bne_eq_false_iff_eq.mpr c15
       clear c15
       have H' := Aside0.mk H
       clear H
       have hnb16 := NB146_147.out
       have hnc16 := NB147_146.out
       have hnb17 := NB146_148.out
       have hnc17 := NB148_146.out
       have hcz18_0 := cz_ BK146 0 (.int .i64 a0_0)
       have hcz18_1 := cz_ BK146 1 (.slice A0_1 l0_1.length c0_1)
       have hfz18_0 := blk_frozen BK146.out 0
       have hfz18_1 := blk_frozen BK146.out 1
       have p149 : 0 ≤ (x9_1 : Int) := of_decide_eq_true (by first | (with_reducible assumption) | assumption)
       have q149 : x9_1 < (l0_1.length : Int) := of_decide_eq_true (by first | (with_reducible assumption) | assumption)
       obtain ⟨ad149, e149, hx149_0, hx149_1, hx149_2⟩ := at_T67 HR0_1.out x9_1 p149 q149
       cases e149
       replace hx149_0 := (HB.out.cell (World.block_lt_of_cell? w _ hx149_0)).trans hx149_0
       replace hx149_1 := (HB.out.cell (World.block_lt_of_cell? w _ hx149_1)).trans hx149_1
       replace hx149_2 := (HB.out.cell (World.block_lt_of_cell? w _ hx149_2)).trans hx149_2
       replace p149 := eq_true p149
       replace q149 := eq_true q149
       go_wp2_with (first | ((with_reducible refine gate_dst (N := 10) rfl ?_); refine box_event ?hg (N := 10) ?hd (cs := #[.int .i64 0, .int .i64 0, .int .i64 0]) (t := 67) ?hr ?_; (case hd => rfl); (case hg => rfl); (case hr => first | (go_simp; done) | (go_simp; rfl)); intro gb150 hg w19 hbox hb; have BK150 := Aside0.mk hbox; have GW150 := ge_ HB hg; have GE150 := ge_ HB hg; have NB146_150 := nl_ BK146 hg; have NB150_146 := ng_ BK146 hg; have NB147_150 := nl_ BK147 hg; have NB150_147 := ng_ BK147 hg; have NB148_150 := nl_ BK148 hg; have NB150_148 := ng_ BK148 hg; replace HO_149001 := Aside0.mk (Kd.R_below (Kd.R_elderB (hd_ HO_149001) gb150 (Nat.le_of_eq hg.symm)) hb); replace HB := Aside0.mk (bt_ HB hb); replace BK146 := Aside0.mk (bb_ BK146 hb); replace BK147 := Aside0.mk (bb_ BK147 hb); replace BK148 := Aside0.mk (bb_ BK148 hb); clear hb hbox hg; have hnb20 := NB150_146.out; have hnc20 := NB146_150.out; have hnb21 := NB150_147.out; have hnc21 := NB147_150.out; have hnb22 := NB150_148.out; have hnc22 := NB148_150.out; have hcz23_0 := cz_ BK150 0 (.int .i64 0); have hcz23_1 := cz_ BK150 1 (.int .i64 0); have hcz23_2 := cz_ BK150 2 (.int .i64 0); have hfz23_0 := blk_frozen BK150.out 0; have hfz23_1 := blk_frozen BK150.out 1; have hfz23_2 := blk_frozen BK150.out 2))
       go_roundg k1
       case measure => have := HK1.out; omega
       case rel => exact ⟨(wrap64 (x9_1 + 1)), (x149001_1), (u149001), (by first | rfl | (simp; done) | (simp [*]; done)), H', ⟨by have := HK1.out; omega⟩, ⟨by (with_reducible repeat (first | apply Kd.R_alloc | apply Kd.R_drewN | apply Kd.R_drew)); exact Kd.R_mono (Kd.R_far (p := ⟨gb150, 2, none⟩) (Kd.R_far (p := ⟨gb150, 1, none⟩) (Kd.R_far (p := ⟨gb150, 0, none⟩) (Kd.R_mono HO_149001.out (fun k_ hk => (⟨hk, hk.2⟩ : _ ∧ k_ ≠ gb150))) (fun _ hk => hk.2) (.int .i64 ((rd_T67 l0_1 x9_1).f0))) (fun _ hk => hk.2) (.int .i64 ((rd_T67 l0_1 x9_1).f1))) (fun _ hk => hk.2) (.int .i64 ((rd_T67 l0_1 x9_1).f2))) (fun _ hk => trivial)⟩, ⟨by (with_reducible repeat (first | refine blk_drewN ?_ _ | refine blk_drew ?_ | refine blk_alloc ?_ _)); refine blk_far ?_ NB146_150.out _; (with_reducible repeat (first | refine blk_drewN ?_ _ | refine blk_drew ?_ | refine blk_alloc ?_ _)); refine blk_far ?_ NB146_150.out _; (with_reducible repeat (first | refine blk_drewN ?_ _ | refine blk_drew ?_ | refine blk_alloc ?_ _)); refine blk_far ?_ NB146_150.out _; (with_reducible repeat (first | refine blk_drewN ?_ _ | refine blk_drew ?_ | refine blk_alloc ?_ _)); exact BK146.out⟩, ⟨by (with_reducible repeat (first | refine blk_drewN ?_ _ | refine blk_drew ?_ | refine blk_alloc ?_ _)); refine blk_far ?_ NB147_150.out _; (with_reducible repeat (first | refine blk_drewN ?_ _ | refine blk_drew ?_ | refine blk_alloc ?_ _)); refine blk_far ?_ NB147_150.out _; (with_reducible repeat (first | refine blk_drewN ?_ _ | refine blk_drew ?_ | refine blk_alloc ?_ _)); refine blk_far ?_ NB147_150.out _; (with_reducible repeat (first | refine blk_drewN ?_ _ | refine blk_drew ?_ | refine blk_alloc ?_ _)); exact BK147.out⟩, ⟨by (with_reducible repeat (first | refine blk_drewN ?_ _ | refine blk_drew ?_ | refine blk_alloc ?_ _)); refine blk_far ?_ NB148_150.out _; (with_reducible repeat (first | refine blk_drewN ?_ _ | refine blk_drew ?_ | refine blk_alloc ?_ _)); refine blk_far ?_ NB148_150.out _; (with_reducible repeat (first | refine blk_drewN ?_ _ | refine blk_drew ?_ | refine blk_alloc ?_ _)); refine blk_far ?_ NB148_150.out _; (with_reducible repeat (first | refine blk_drewN ?_ _ | refine blk_drew ?_ | refine blk_alloc ?_ _)); exact BK148.out⟩, ⟨by repeat (first | (with_reducible first | exact HB.out | apply below_alloc | apply pw_below_drewN | apply below_drew1 | refine below_set ?_ GE146.out | refine below_set ?_ GE147.out | refine below_set ?_ GE148.out | refine below_set ?_ GE150.out) | exact HB.out)⟩⟩
      ·rw [if_neg c15] at H
       have c15b0 : (((rd_T67 l0_1 x9_1).f1) == a2) = false := beq_eq_false_iff_ne.mpr c15
       have c15b1 : (((rd_T67 l0_1 x9_1).f1) != a2) = true := bne_iff_ne.mpr c15
       by_cases c24 : ((rd_T67 l0_1 x9_1).f0) = a2
       ·rw [if_pos c24] at H
        have c24b0 : (((rd_T67 l0_1 x9_1).f0) == a2) = true := beq_iff_eq.mpr c24
        have c24b1 : (((rd_T67 l0_1 x9_1).f0) != a2) = false := bne_eq_false_iff_eq.mpr c24
        clear c24
        by_cases c25 : (((rd_T67 l0_1 x9_1).f1) = a1)
        ·rw [if_pos c25] at H
         have c25b0 : (((rd_T67 l0_1 x9_1).f1) == a1) = true := beq_iff_eq.mpr c25
         have c25b1 : (((rd_T67 l0_1 x9_1).f1) != a1) = false := bne_eq_false_iff_eq.mpr c25
         clear c25
         have H' := Aside0.mk H
         clear H
         have hnb26 := NB146_147.out
         have hnc26 := NB147_146.out
         have hnb27 := NB146_148.out
         have hnc27 := NB148_146.out
         have hcz28_0 := cz_ BK146 0 (.int .i64 a0_0)
         have hcz28_1 := cz_ BK146 1 (.slice A0_1 l0_1.length c0_1)
         have hfz28_0 := blk_frozen BK146.out 0
         have hfz28_1 := blk_frozen BK146.out 1
         have p149 : 0 ≤ (x9_1 : Int) := of_decide_eq_true (by first | (with_reducible assumption) | assumption)
         have q149 : x9_1 < (l0_1.length : Int) := of_decide_eq_true (by first | (with_reducible assumption) | assumption)
         obtain ⟨ad149, e149, hx149_0, hx149_1, hx149_2⟩ := at_T67 HR0_1.out x9_1 p149 q149
         cases e149
         replace hx149_0 := (HB.out.cell (World.block_lt_of_cell? w _ hx149_0)).trans hx149_0
         replace hx149_1 := (HB.out.cell (World.block_lt_of_cell? w _ hx149_1)).trans hx149_1
         replace hx149_2 := (HB.out.cell (World.block_lt_of_cell? w _ hx149_2)).trans hx149_2
         replace p149 := eq_true p149
         replace q149 := eq_true q149
         go_wp2_with (first | ((with_reducible refine gate_dst (N := 10) rfl ?_); refine box_event ?hg (N := 10) ?hd (cs := #[.int .i64 0, .int .i64 0, .int .i64 0]) (t := 67) ?hr ?_; (case hd => rfl); (case hg => rfl); (case hr => first | (go_simp; done) | (go_simp; rfl)); intro gb150 hg w29 hbox hb; have BK150 := Aside0.mk hbox; have GW150 := ge_ HB hg; have GE150 := ge_ HB hg; have NB146_150 := nl_ BK146 hg; have NB150_146 := ng_ BK146 hg; have NB147_150 := nl_ BK147 hg; have NB150_147 := ng_ BK147 hg; have NB148_150 := nl_ BK148 hg; have NB150_148 := ng_ BK148 hg; replace HO_149001 := Aside0.mk (Kd.R_below (Kd.R_elderB (hd_ HO_149001) gb150 (Nat.le_of_eq hg.symm)) hb); replace HB := Aside0.mk (bt_ HB hb); replace BK146 := Aside0.mk (bb_ BK146 hb); replace BK147 := Aside0.mk (bb_ BK147 hb); replace BK148 := Aside0.mk (bb_ BK148 hb); clear hb hbox hg; have hnb30 := NB150_146.out; have hnc30 := NB146_150.out; have hnb31 := NB150_147.out; have hnc31 := NB147_150.out; have hnb32 := NB150_148.out; have hnc32 := NB148_150.out; have hcz33_0 := cz_ BK150 0 (.int .i64 0); have hcz33_1 := cz_ BK150 1 (.int .i64 0); have hcz33_2 := cz_ BK150 2 (.int .i64 0); have hfz33_0 := blk_frozen BK150.out 0; have hfz33_1 := blk_frozen BK150.out 1; have hfz33_2 := blk_frozen BK150.out 2))
         go_roundg k1
         case measure => have := HK1.out; omega
         case rel => exact ⟨(wrap64 (x9_1 + 1)), (x149001_1), (u149001), (by first | rfl | (simp; done) | (simp [*]; done)), H', ⟨by have := HK1.out; omega⟩, ⟨by (with_reducible repeat (first | apply Kd.R_alloc | apply Kd.R_drewN | apply Kd.R_drew)); exact Kd.R_mono (Kd.R_far (p := ⟨gb150, 2, none⟩) (Kd.R_far (p := ⟨gb150, 1, none⟩) (Kd.R_far (p := ⟨gb150, 0, none⟩) (Kd.R_mono HO_149001.out (fun k_ hk => (⟨hk, hk.2⟩ : _ ∧ k_ ≠ gb150))) (fun _ hk => hk.2) (.int .i64 ((rd_T67 l0_1 x9_1).f0))) (fun _ hk => hk.2) (.int .i64 ((rd_T67 l0_1 x9_1).f1))) (fun _ hk => hk.2) (.int .i64 ((rd_T67 l0_1 x9_1).f2))) (fun _ hk => trivial)⟩, ⟨by (with_reducible repeat (first | refine blk_drewN ?_ _ | refine blk_drew ?_ | refine blk_alloc ?_ _)); refine blk_far ?_ NB146_150.out _; (with_reducible repeat (first | refine blk_drewN ?_ _ | refine blk_drew ?_ | refine blk_alloc ?_ _)); refine blk_far ?_ NB146_150.out _; (with_reducible repeat (first | refine blk_drewN ?_ _ | refine blk_drew ?_ | refine blk_alloc ?_ _)); refine blk_far ?_ NB146_150.out _; (with_reducible repeat (first | refine blk_drewN ?_ _ | refine blk_drew ?_ | refine blk_alloc ?_ _)); exact BK146.out⟩, ⟨by (with_reducible repeat (first | refine blk_drewN ?_ _ | refine blk_drew ?_ | refine blk_alloc ?_ _)); refine blk_far ?_ NB147_150.out _; (with_reducible repeat (first | refine blk_drewN ?_ _ | refine blk_drew ?_ | refine blk_alloc ?_ _)); refine blk_far ?_ NB147_150.out _; (with_reducible repeat (first | refine blk_drewN ?_ _ | refine blk_drew ?_ | refine blk_alloc ?_ _)); refine blk_far ?_ NB147_150.out _; (with_reducible repeat (first | refine blk_drewN ?_ _ | refine blk_drew ?_ | refine blk_alloc ?_ _)); exact BK147.out⟩, ⟨by (with_reducible repeat (first | refine blk_drewN ?_ _ | refine blk_drew ?_ | refine blk_alloc ?_ _)); refine blk_far ?_ NB148_150.out _; (with_reducible repeat (first | refine blk_drewN ?_ _ | refine blk_drew ?_ | refine blk_alloc ?_ _)); refine blk_far ?_ NB148_150.out _; (with_reducible repeat (first | refine blk_drewN ?_ _ | refine blk_drew ?_ | refine blk_alloc ?_ _)); refine blk_far ?_ NB148_150.out _; (with_reducible repeat (first | refine blk_drewN ?_ _ | refine blk_drew ?_ | refine blk_alloc ?_ _)); exact BK148.out⟩, ⟨by repeat (first | (with_reducible first | exact HB.out | apply below_alloc | apply pw_below_drewN | apply below_drew1 | refine below_set ?_ GE146.out | refine below_set ?_ GE147.out | refine below_set ?_ GE148.out | refine below_set ?_ GE150.out) | exact HB.out)⟩⟩
        ·rw [if_neg c25] at H
         have c25b0 : (((rd_T67 l0_1 x9_1).f1) == a1) = false := beq_eq_false_iff_ne.mpr c25
         have c25b1 : (((rd_T67 l0_1 x9_1).f1) != a1) = true := bne_iff_ne.mpr c25
         by_cases c34 : x149001_1.length < 5864062014805
         ·rw [if_pos c34] at H
          have LMc34 := Aside0.mk c34
          clear c34
          obtain ⟨y151, hy151⟩ : ∃ y_ : List (S67), y_ = (x149001_1 ++ [(⟨(rd_T67 l0_1 x9_1).f0, (rd_T67 l0_1 x9_1).f1, (rd_T67 l0_1 x9_1).f2⟩ : S67)]) := ⟨_, rfl⟩
          replace H : (spec_Without.l0 k1 a1 a2 (wrap64 (x9_1 + 1)) a0_0 l0_1 a0_0 y151) = some (r1, r2, r3) := by first | (rw [hy151]; with_reducible exact H) | (have H2_ := (Option.bind_some _ _).symm.trans H; rw [hy151]; with_reducible exact H2_) | (have H2_ := (Option.bind_some _ _).symm.trans H; with_reducible exact H2_) | with_reducible exact H | (rw [hy151]; exact H) | exact H
          have Ny151 := Aside0.mk hy151
          clear hy151
          have H' := Aside0.mk H
          clear H
          have hnb35 := NB146_147.out
          have hnc35 := NB147_146.out
          have hnb36 := NB146_148.out
          have hnc36 := NB148_146.out
          have hcz37_0 := cz_ BK146 0 (.int .i64 a0_0)
          have hcz37_1 := cz_ BK146 1 (.slice A0_1 l0_1.length c0_1)
          have hfz37_0 := blk_frozen BK146.out 0
          have hfz37_1 := blk_frozen BK146.out 1
          have p149 : 0 ≤ (x9_1 : Int) := of_decide_eq_true (by first | (with_reducible assumption) | assumption)
          have q149 : x9_1 < (l0_1.length : Int) := of_decide_eq_true (by first | (with_reducible assumption) | assumption)
          obtain ⟨ad149, e149, hx149_0, hx149_1, hx149_2⟩ := at_T67 HR0_1.out x9_1 p149 q149
          cases e149
          replace hx149_0 := (HB.out.cell (World.block_lt_of_cell? w _ hx149_0)).trans hx149_0
          replace hx149_1 := (HB.out.cell (World.block_lt_of_cell? w _ hx149_1)).trans hx149_1
          replace hx149_2 := (HB.out.cell (World.block_lt_of_cell? w _ hx149_2)).trans hx149_2
          replace p149 := eq_true p149
          replace q149 := eq_true q149
          go_wp2_with (first | ((with_reducible refine gate_dst (N := 10) rfl ?_); refine box_event ?hg (N := 10) ?hd (cs := #[.int .i64 0, .int .i64 0, .int .i64 0]) (t := 67) ?hr ?_; (case hd => rfl); (case hg => rfl); (case hr => first | (go_simp; done) | (go_simp; rfl)); intro gb150 hg w38 hbox hb; have BK150 := Aside0.mk hbox; have GW150 := ge_ HB hg; have GE150 := ge_ HB hg; have NB146_150 := nl_ BK146 hg; have NB150_146 := ng_ BK146 hg; have NB147_150 := nl_ BK147 hg; have NB150_147 := ng_ BK147 hg; have NB148_150 := nl_ BK148 hg; have NB150_148 := ng_ BK148 hg; replace HO_149001 := Aside0.mk (Kd.R_below (Kd.R_elderB (hd_ HO_149001) gb150 (Nat.le_of_eq hg.symm)) hb); replace HB := Aside0.mk (bt_ HB hb); replace BK146 := Aside0.mk (bb_ BK146 hb); replace BK147 := Aside0.mk (bb_ BK147 hb); replace BK148 := Aside0.mk (bb_ BK148 hb); clear hb hbox hg; have hnb39 := NB150_146.out; have hnc39 := NB146_150.out; have hnb40 := NB150_147.out; have hnc40 := NB147_150.out; have hnb41 := NB150_148.out; have hnc41 := NB148_150.out; have hcz42_0 := cz_ BK150 0 (.int .i64 0); have hcz42_1 := cz_ BK150 1 (.int .i64 0); have hcz42_2 := cz_ BK150 2 (.int .i64 0); have hfz42_0 := blk_frozen BK150.out 0; have hfz42_1 := blk_frozen BK150.out 1; have hfz42_2 := blk_frozen BK150.out 2; have hnb43 := NB148_147.out; have hnc43 := NB147_148.out; have hcz44_0 := cz_ BK148 0 (.int .i64 a0_0); have hcz44_1 := cz_ BK148 1 (u149001); have hfz44_0 := blk_frozen BK148.out 0; have hfz44_1 := blk_frozen BK148.out 1) | ((with_reducible refine gate_builtin (b := .append) (xs := #[.tmp 51, .tmp 53]) rfl ?_); at_builtin; refine Kd.R_append k67 (w0 := w) w.heap.size rfl (.tmp 51) (.tmp 53) 28 67 (.agg #[(.int .i64 0), (.int .i64 0), (.int .i64 0)]) 24 rfl Try.underlying28 info67 rfl (by decide) (by omega) u149001 x149001_1 (⟨(rd_T67 l0_1 x9_1).f0, (rd_T67 l0_1 x9_1).f1, (rd_T67 l0_1 x9_1).f2⟩ : S67) [.int .i64 ((rd_T67 l0_1 x9_1).f0), .int .i64 ((rd_T67 l0_1 x9_1).f1), .int .i64 ((rd_T67 l0_1 x9_1).f2)] (fun k_ => k_ ≠ gb150) (fun _ => False) rfl (by first | (go_simp; done) | (go_simp; rfl)) ?aP (fun _ hk => hk.elim) ?aF ?aO ?aB ?aS ?aL ?_; (case aP => exact k67_mkM _ _ _ (⟨(rd_T67 l0_1 x9_1).f0, (rd_T67 l0_1 x9_1).f1, (rd_T67 l0_1 x9_1).f2⟩ : S67)); (case aB => exact (by repeat (first | (with_reducible first | exact HB.out | apply below_alloc | apply pw_below_drewN | apply below_drew1 | refine below_set ?_ GE146.out | refine below_set ?_ GE147.out | refine below_set ?_ GE148.out | refine below_set ?_ GE150.out) | exact HB.out))); (case aF => exact (fun k_ hk => Kd.freshB (g := gb150) (o := .cells #[.int .i64 ((rd_T67 l0_1 x9_1).f0), .int .i64 ((rd_T67 l0_1 x9_1).f1), .int .i64 ((rd_T67 l0_1 x9_1).f2)] 67 (0, 0)) (by (with_reducible repeat (first | refine blk_drewN ?_ _ | refine blk_drew ?_ | refine blk_alloc ?_ _)); refine blk_put (cs := #[.int .i64 ((rd_T67 l0_1 x9_1).f0), .int .i64 ((rd_T67 l0_1 x9_1).f1), .int .i64 0]) ?_ 2 _ rfl; (with_reducible repeat (first | refine blk_drewN ?_ _ | refine blk_drew ?_ | refine blk_alloc ?_ _)); refine blk_put (cs := #[.int .i64 ((rd_T67 l0_1 x9_1).f0), .int .i64 0, .int .i64 0]) ?_ 1 _ rfl; (with_reducible repeat (first | refine blk_drewN ?_ _ | refine blk_drew ?_ | refine blk_alloc ?_ _)); refine blk_put (cs := #[.int .i64 0, .int .i64 0, .int .i64 0]) ?_ 0 _ rfl; (with_reducible repeat (first | refine blk_drewN ?_ _ | refine blk_drew ?_ | refine blk_alloc ?_ _)); exact BK150.out) k_ hk)); (case aO => exact (by (with_reducible repeat (first | apply Kd.R_alloc | apply Kd.R_drewN | apply Kd.R_drew)); exact Kd.R_mono (Kd.R_far (p := ⟨gb150, 2, none⟩) (Kd.R_far (p := ⟨gb150, 1, none⟩) (Kd.R_far (p := ⟨gb150, 0, none⟩) (Kd.R_mono HO_149001.out (fun k_ hk => (⟨hk, hk.2⟩ : _ ∧ k_ ≠ gb150))) (fun _ hk => hk.2) (.int .i64 ((rd_T67 l0_1 x9_1).f0))) (fun _ hk => hk.2) (.int .i64 ((rd_T67 l0_1 x9_1).f1))) (fun _ hk => hk.2) (.int .i64 ((rd_T67 l0_1 x9_1).f2))) (fun _ hk => hk.1.2))); (case aS => exact (bz_ HB)); (case aL => have := LMc34.out; omega); intro v152 w45 ho hb hg hat; rw [← Ny151.out] at ho; have HO153 := Aside0.mk ho; replace BK146 := Aside0.mk (blk_grown (g := gb146) (o := .cells #[.int .i64 a0_0, .slice (some ad149) l0_1.length c0_1] 30 (0, 0)) (by (with_reducible repeat (first | refine blk_drewN ?_ _ | refine blk_drew ?_ | refine blk_alloc ?_ _)); refine blk_far ?_ NB146_150.out _; (with_reducible repeat (first | refine blk_drewN ?_ _ | refine blk_drew ?_ | refine blk_alloc ?_ _)); refine blk_far ?_ NB146_150.out _; (with_reducible repeat (first | refine blk_drewN ?_ _ | refine blk_drew ?_ | refine blk_alloc ?_ _)); refine blk_far ?_ NB146_150.out _; (with_reducible repeat (first | refine blk_drewN ?_ _ | refine blk_drew ?_ | refine blk_alloc ?_ _)); exact BK146.out) hg (Kd.R_ne HO_149001.out BK146.out (by decide))); replace BK147 := Aside0.mk (blk_grown (g := gb147) (o := .cells #[.int .i64 0, .slice none 0 0] 30 (0, 0)) (by (with_reducible repeat (first | refine blk_drewN ?_ _ | refine blk_drew ?_ | refine blk_alloc ?_ _)); refine blk_far ?_ NB147_150.out _; (with_reducible repeat (first | refine blk_drewN ?_ _ | refine blk_drew ?_ | refine blk_alloc ?_ _)); refine blk_far ?_ NB147_150.out _; (with_reducible repeat (first | refine blk_drewN ?_ _ | refine blk_drew ?_ | refine blk_alloc ?_ _)); refine blk_far ?_ NB147_150.out _; (with_reducible repeat (first | refine blk_drewN ?_ _ | refine blk_drew ?_ | refine blk_alloc ?_ _)); exact BK147.out) hg (Kd.R_ne HO_149001.out BK147.out (by decide))); replace BK148 := Aside0.mk (blk_grown (g := gb148) (o := .cells #[.int .i64 a0_0, u149001] 30 (0, 0)) (by (with_reducible repeat (first | refine blk_drewN ?_ _ | refine blk_drew ?_ | refine blk_alloc ?_ _)); refine blk_far ?_ NB148_150.out _; (with_reducible repeat (first | refine blk_drewN ?_ _ | refine blk_drew ?_ | refine blk_alloc ?_ _)); refine blk_far ?_ NB148_150.out _; (with_reducible repeat (first | refine blk_drewN ?_ _ | refine blk_drew ?_ | refine blk_alloc ?_ _)); refine blk_far ?_ NB148_150.out _; (with_reducible repeat (first | refine blk_drewN ?_ _ | refine blk_drew ?_ | refine blk_alloc ?_ _)); exact BK148.out) hg (Kd.R_ne HO_149001.out BK148.out (by decide))); replace BK150 := Aside0.mk (blk_grown (g := gb150) (o := .cells #[.int .i64 ((rd_T67 l0_1 x9_1).f0), .int .i64 ((rd_T67 l0_1 x9_1).f1), .int .i64 ((rd_T67 l0_1 x9_1).f2)] 67 (0, 0)) (by (with_reducible repeat (first | refine blk_drewN ?_ _ | refine blk_drew ?_ | refine blk_alloc ?_ _)); refine blk_put (cs := #[.int .i64 ((rd_T67 l0_1 x9_1).f0), .int .i64 ((rd_T67 l0_1 x9_1).f1), .int .i64 0]) ?_ 2 _ rfl; (with_reducible repeat (first | refine blk_drewN ?_ _ | refine blk_drew ?_ | refine blk_alloc ?_ _)); refine blk_put (cs := #[.int .i64 ((rd_T67 l0_1 x9_1).f0), .int .i64 0, .int .i64 0]) ?_ 1 _ rfl; (with_reducible repeat (first | refine blk_drewN ?_ _ | refine blk_drew ?_ | refine blk_alloc ?_ _)); refine blk_put (cs := #[.int .i64 0, .int .i64 0, .int .i64 0]) ?_ 0 _ rfl; (with_reducible repeat (first | refine blk_drewN ?_ _ | refine blk_drew ?_ | refine blk_alloc ?_ _)); exact BK150.out) hg (Kd.R_away HO_149001.out (fun _ hk => hk.2))); replace HB := Aside0.mk (hb); clear HO_149001; clear ho hb hg hat; obtain ⟨Ao46, co46, eo46⟩ := Kd.R_slice HO153.out; subst eo46; have hcz47_0 := cz_ BK148 0 (.int .i64 a0_0); have hcz47_1 := cz_ BK148 1 (u149001); have hfz47_0 := blk_frozen BK148.out 0; have hfz47_1 := blk_frozen BK148.out 1))
          go_roundg k1
          case measure => have := HK1.out; omega
          case rel => exact ⟨(wrap64 (x9_1 + 1)), (y151), (.slice Ao46 y151.length co46), (by first | rfl | (simp; done) | (simp [*]; done)), H', ⟨by have := HK1.out; omega⟩, ⟨by (with_reducible repeat (first | apply Kd.R_alloc | apply Kd.R_drewN | apply Kd.R_drew)); exact Kd.R_mono (Kd.R_far (p := ⟨gb148, 1, none⟩) (Kd.R_types HO153.out BK148.out (by decide)) (fun _ hk => hk.2) (.slice Ao46 y151.length co46)) (fun _ hk => trivial)⟩, ⟨by (with_reducible repeat (first | refine blk_drewN ?_ _ | refine blk_drew ?_ | refine blk_alloc ?_ _)); refine blk_far ?_ NB146_148.out _; (with_reducible repeat (first | refine blk_drewN ?_ _ | refine blk_drew ?_ | refine blk_alloc ?_ _)); exact BK146.out⟩, ⟨by (with_reducible repeat (first | refine blk_drewN ?_ _ | refine blk_drew ?_ | refine blk_alloc ?_ _)); refine blk_far ?_ NB147_148.out _; (with_reducible repeat (first | refine blk_drewN ?_ _ | refine blk_drew ?_ | refine blk_alloc ?_ _)); exact BK147.out⟩, ⟨by (with_reducible repeat (first | refine blk_drewN ?_ _ | refine blk_drew ?_ | refine blk_alloc ?_ _)); refine blk_put (cs := #[.int .i64 a0_0, u149001]) ?_ 1 _ rfl; (with_reducible repeat (first | refine blk_drewN ?_ _ | refine blk_drew ?_ | refine blk_alloc ?_ _)); exact BK148.out⟩, ⟨by repeat (first | (with_reducible first | exact HB.out | apply below_alloc | apply pw_below_drewN | apply below_drew1 | refine below_set ?_ GE146.out | refine below_set ?_ GE147.out | refine below_set ?_ GE148.out | refine below_set ?_ GE150.out) | exact HB.out)⟩⟩
         ·rw [if_neg c34] at H
          exact absurd H (by simp)
       ·rw [if_neg c24] at H
        have c24b0 : (((rd_T67 l0_1 x9_1).f0) == a2) = false := beq_eq_false_iff_ne.mpr c24
        have c24b1 : (((rd_T67 l0_1 x9_1).f0) != a2) = true := bne_iff_ne.mpr c24
        by_cases c48 : x149001_1.length < 5864062014805
        ·rw [if_pos c48] at H
         have LMc48 := Aside0.mk c48
         clear c48
         obtain ⟨y154, hy154⟩ : ∃ y_ : List (S67), y_ = (x149001_1 ++ [(⟨(rd_T67 l0_1 x9_1).f0, (rd_T67 l0_1 x9_1).f1, (rd_T67 l0_1 x9_1).f2⟩ : S67)]) := ⟨_, rfl⟩
         replace H : (spec_Without.l0 k1 a1 a2 (wrap64 (x9_1 + 1)) a0_0 l0_1 a0_0 y154) = some (r1, r2, r3) := by first | (rw [hy154]; with_reducible exact H) | (have H2_ := (Option.bind_some _ _).symm.trans H; rw [hy154]; with_reducible exact H2_) | (have H2_ := (Option.bind_some _ _).symm.trans H; with_reducible exact H2_) | with_reducible exact H | (rw [hy154]; exact H) | exact H
         have Ny154 := Aside0.mk hy154
         clear hy154
         have H' := Aside0.mk H
         clear H
         have hnb49 := NB146_147.out
         have hnc49 := NB147_146.out
         have hnb50 := NB146_148.out
         have hnc50 := NB148_146.out
         have hcz51_0 := cz_ BK146 0 (.int .i64 a0_0)
         have hcz51_1 := cz_ BK146 1 (.slice A0_1 l0_1.length c0_1)
         have hfz51_0 := blk_frozen BK146.out 0
         have hfz51_1 := blk_frozen BK146.out 1
         have p149 : 0 ≤ (x9_1 : Int) := of_decide_eq_true (by first | (with_reducible assumption) | assumption)
         have q149 : x9_1 < (l0_1.length : Int) := of_decide_eq_true (by first | (with_reducible assumption) | assumption)
         obtain ⟨ad149, e149, hx149_0, hx149_1, hx149_2⟩ := at_T67 HR0_1.out x9_1 p149 q149
         cases e149
         replace hx149_0 := (HB.out.cell (World.block_lt_of_cell? w _ hx149_0)).trans hx149_0
         replace hx149_1 := (HB.out.cell (World.block_lt_of_cell? w _ hx149_1)).trans hx149_1
         replace hx149_2 := (HB.out.cell (World.block_lt_of_cell? w _ hx149_2)).trans hx149_2
         replace p149 := eq_true p149
         replace q149 := eq_true q149
         go_wp2_with (first | ((with_reducible refine gate_dst (N := 10) rfl ?_); refine box_event ?hg (N := 10) ?hd (cs := #[.int .i64 0, .int .i64 0, .int .i64 0]) (t := 67) ?hr ?_; (case hd => rfl); (case hg => rfl); (case hr => first | (go_simp; done) | (go_simp; rfl)); intro gb150 hg w52 hbox hb; have BK150 := Aside0.mk hbox; have GW150 := ge_ HB hg; have GE150 := ge_ HB hg; have NB146_150 := nl_ BK146 hg; have NB150_146 := ng_ BK146 hg; have NB147_150 := nl_ BK147 hg; have NB150_147 := ng_ BK147 hg; have NB148_150 := nl_ BK148 hg; have NB150_148 := ng_ BK148 hg; replace HO_149001 := Aside0.mk (Kd.R_below (Kd.R_elderB (hd_ HO_149001) gb150 (Nat.le_of_eq hg.symm)) hb); replace HB := Aside0.mk (bt_ HB hb); replace BK146 := Aside0.mk (bb_ BK146 hb); replace BK147 := Aside0.mk (bb_ BK147 hb); replace BK148 := Aside0.mk (bb_ BK148 hb); clear hb hbox hg; have hnb53 := NB150_146.out; have hnc53 := NB146_150.out; have hnb54 := NB150_147.out; have hnc54 := NB147_150.out; have hnb55 := NB150_148.out; have hnc55 := NB148_150.out; have hcz56_0 := cz_ BK150 0 (.int .i64 0); have hcz56_1 := cz_ BK150 1 (.int .i64 0); have hcz56_2 := cz_ BK150 2 (.int .i64 0); have hfz56_0 := blk_frozen BK150.out 0; have hfz56_1 := blk_frozen BK150.out 1; have hfz56_2 := blk_frozen BK150.out 2; have hnb57 := NB148_147.out; have hnc57 := NB147_148.out; have hcz58_0 := cz_ BK148 0 (.int .i64 a0_0); have hcz58_1 := cz_ BK148 1 (u149001); have hfz58_0 := blk_frozen BK148.out 0; have hfz58_1 := blk_frozen BK148.out 1) | ((with_reducible refine gate_builtin (b := .append) (xs := #[.tmp 51, .tmp 53]) rfl ?_); at_builtin; refine Kd.R_append k67 (w0 := w) w.heap.size rfl (.tmp 51) (.tmp 53) 28 67 (.agg #[(.int .i64 0), (.int .i64 0), (.int .i64 0)]) 24 rfl Try.underlying28 info67 rfl (by decide) (by omega) u149001 x149001_1 (⟨(rd_T67 l0_1 x9_1).f0, (rd_T67 l0_1 x9_1).f1, (rd_T67 l0_1 x9_1).f2⟩ : S67) [.int .i64 ((rd_T67 l0_1 x9_1).f0), .int .i64 ((rd_T67 l0_1 x9_1).f1), .int .i64 ((rd_T67 l0_1 x9_1).f2)] (fun k_ => k_ ≠ gb150) (fun _ => False) rfl (by first | (go_simp; done) | (go_simp; rfl)) ?aP (fun _ hk => hk.elim) ?aF ?aO ?aB ?aS ?aL ?_; (case aP => exact k67_mkM _ _ _ (⟨(rd_T67 l0_1 x9_1).f0, (rd_T67 l0_1 x9_1).f1, (rd_T67 l0_1 x9_1).f2⟩ : S67)); (case aB => exact (by repeat (first | (with_reducible first | exact HB.out | apply below_alloc | apply pw_below_drewN | apply below_drew1 | refine below_set ?_ GE146.out | refine below_set ?_ GE147.out | refine below_set ?_ GE148.out | refine below_set ?_ GE150.out) | exact HB.out))); (case aF => exact (fun k_ hk => Kd.freshB (g := gb150) (o := .cells #[.int .i64 ((rd_T67 l0_1 x9_1).f0), .int .i64 ((rd_T67 l0_1 x9_1).f1), .int .i64 ((rd_T67 l0_1 x9_1).f2)] 67 (0, 0)) (by (with_reducible repeat (first | refine blk_drewN ?_ _ | refine blk_drew ?_ | refine blk_alloc ?_ _)); refine blk_put (cs := #[.int .i64 ((rd_T67 l0_1 x9_1).f0), .int .i64 ((rd_T67 l0_1 x9_1).f1), .int .i64 0]) ?_ 2 _ rfl; (with_reducible repeat (first | refine blk_drewN ?_ _ | refine blk_drew ?_ | refine blk_alloc ?_ _)); refine blk_put (cs := #[.int .i64 ((rd_T67 l0_1 x9_1).f0), .int .i64 0, .int .i64 0]) ?_ 1 _ rfl; (with_reducible repeat (first | refine blk_drewN ?_ _ | refine blk_drew ?_ | refine blk_alloc ?_ _)); refine blk_put (cs := #[.int .i64 0, .int .i64 0, .int .i64 0]) ?_ 0 _ rfl; (with_reducible repeat (first | refine blk_drewN ?_ _ | refine blk_drew ?_ | refine blk_alloc ?_ _)); exact BK150.out) k_ hk)); (case aO => exact (by (with_reducible repeat (first | apply Kd.R_alloc | apply Kd.R_drewN | apply Kd.R_drew)); exact Kd.R_mono (Kd.R_far (p := ⟨gb150, 2, none⟩) (Kd.R_far (p := ⟨gb150, 1, none⟩) (Kd.R_far (p := ⟨gb150, 0, none⟩) (Kd.R_mono HO_149001.out (fun k_ hk => (⟨hk, hk.2⟩ : _ ∧ k_ ≠ gb150))) (fun _ hk => hk.2) (.int .i64 ((rd_T67 l0_1 x9_1).f0))) (fun _ hk => hk.2) (.int .i64 ((rd_T67 l0_1 x9_1).f1))) (fun _ hk => hk.2) (.int .i64 ((rd_T67 l0_1 x9_1).f2))) (fun _ hk => hk.1.2))); (case aS => exact (bz_ HB)); (case aL => have := LMc48.out; omega); intro v155 w59 ho hb hg hat; rw [← Ny154.out] at ho; have HO156 := Aside0.mk ho; replace BK146 := Aside0.mk (blk_grown (g := gb146) (o := .cells #[.int .i64 a0_0, .slice (some ad149) l0_1.length c0_1] 30 (0, 0)) (by (with_reducible repeat (first | refine blk_drewN ?_ _ | refine blk_drew ?_ | refine blk_alloc ?_ _)); refine blk_far ?_ NB146_150.out _; (with_reducible repeat (first | refine blk_drewN ?_ _ | refine blk_drew ?_ | refine blk_alloc ?_ _)); refine blk_far ?_ NB146_150.out _; (with_reducible repeat (first | refine blk_drewN ?_ _ | refine blk_drew ?_ | refine blk_alloc ?_ _)); refine blk_far ?_ NB146_150.out _; (with_reducible repeat (first | refine blk_drewN ?_ _ | refine blk_drew ?_ | refine blk_alloc ?_ _)); exact BK146.out) hg (Kd.R_ne HO_149001.out BK146.out (by decide))); replace BK147 := Aside0.mk (blk_grown (g := gb147) (o := .cells #[.int .i64 0, .slice none 0 0] 30 (0, 0)) (by (with_reducible repeat (first | refine blk_drewN ?_ _ | refine blk_drew ?_ | refine blk_alloc ?_ _)); refine blk_far ?_ NB147_150.out _; (with_reducible repeat (first | refine blk_drewN ?_ _ | refine blk_drew ?_ | refine blk_alloc ?_ _)); refine blk_far ?_ NB147_150.out _; (with_reducible repeat (first | refine blk_drewN ?_ _ | refine blk_drew ?_ | refine blk_alloc ?_ _)); refine blk_far ?_ NB147_150.out _; (with_reducible repeat (first | refine blk_drewN ?_ _ | refine blk_drew ?_ | refine blk_alloc ?_ _)); exact BK147.out) hg (Kd.R_ne HO_149001.out BK147.out (by decide))); replace BK148 := Aside0.mk (blk_grown (g := gb148) (o := .cells #[.int .i64 a0_0, u149001] 30 (0, 0)) (by (with_reducible repeat (first | refine blk_drewN ?_ _ | refine blk_drew ?_ | refine blk_alloc ?_ _)); refine blk_far ?_ NB148_150.out _; (with_reducible repeat (first | refine blk_drewN ?_ _ | refine blk_drew ?_ | refine blk_alloc ?_ _)); refine blk_far ?_ NB148_150.out _; (with_reducible repeat (first | refine blk_drewN ?_ _ | refine blk_drew ?_ | refine blk_alloc ?_ _)); refine blk_far ?_ NB148_150.out _; (with_reducible repeat (first | refine blk_drewN ?_ _ | refine blk_drew ?_ | refine blk_alloc ?_ _)); exact BK148.out) hg (Kd.R_ne HO_149001.out BK148.out (by decide))); replace BK150 := Aside0.mk (blk_grown (g := gb150) (o := .cells #[.int .i64 ((rd_T67 l0_1 x9_1).f0), .int .i64 ((rd_T67 l0_1 x9_1).f1), .int .i64 ((rd_T67 l0_1 x9_1).f2)] 67 (0, 0)) (by (with_reducible repeat (first | refine blk_drewN ?_ _ | refine blk_drew ?_ | refine blk_alloc ?_ _)); refine blk_put (cs := #[.int .i64 ((rd_T67 l0_1 x9_1).f0), .int .i64 ((rd_T67 l0_1 x9_1).f1), .int .i64 0]) ?_ 2 _ rfl; (with_reducible repeat (first | refine blk_drewN ?_ _ | refine blk_drew ?_ | refine blk_alloc ?_ _)); refine blk_put (cs := #[.int .i64 ((rd_T67 l0_1 x9_1).f0), .int .i64 0, .int .i64 0]) ?_ 1 _ rfl; (with_reducible repeat (first | refine blk_drewN ?_ _ | refine blk_drew ?_ | refine blk_alloc ?_ _)); refine blk_put (cs := #[.int .i64 0, .int .i64 0, .int .i64 0]) ?_ 0 _ rfl; (with_reducible repeat (first | refine blk_drewN ?_ _ | refine blk_drew ?_ | refine blk_alloc ?_ _)); exact BK150.out) hg (Kd.R_away HO_149001.out (fun _ hk => hk.2))); replace HB := Aside0.mk (hb); clear HO_149001; clear ho hb hg hat; obtain ⟨Ao60, co60, eo60⟩ := Kd.R_slice HO156.out; subst eo60; have hcz61_0 := cz_ BK148 0 (.int .i64 a0_0); have hcz61_1 := cz_ BK148 1 (u149001); have hfz61_0 := blk_frozen BK148.out 0; have hfz61_1 := blk_frozen BK148.out 1))
         go_roundg k1
         case measure => have := HK1.out; omega
         case rel => exact ⟨(wrap64 (x9_1 + 1)), (y154), (.slice Ao60 y154.length co60), (by first | rfl | (simp; done) | (simp [*]; done)), H', ⟨by have := HK1.out; omega⟩, ⟨by (with_reducible repeat (first | apply Kd.R_alloc | apply Kd.R_drewN | apply Kd.R_drew)); exact Kd.R_mono (Kd.R_far (p := ⟨gb148, 1, none⟩) (Kd.R_types HO156.out BK148.out (by decide)) (fun _ hk => hk.2) (.slice Ao60 y154.length co60)) (fun _ hk => trivial)⟩, ⟨by (with_reducible repeat (first | refine blk_drewN ?_ _ | refine blk_drew ?_ | refine blk_alloc ?_ _)); refine blk_far ?_ NB146_148.out _; (with_reducible repeat (first | refine blk_drewN ?_ _ | refine blk_drew ?_ | refine blk_alloc ?_ _)); exact BK146.out⟩, ⟨by (with_reducible repeat (first | refine blk_drewN ?_ _ | refine blk_drew ?_ | refine blk_alloc ?_ _)); refine blk_far ?_ NB147_148.out _; (with_reducible repeat (first | refine blk_drewN ?_ _ | refine blk_drew ?_ | refine blk_alloc ?_ _)); exact BK147.out⟩, ⟨by (with_reducible repeat (first | refine blk_drewN ?_ _ | refine blk_drew ?_ | refine blk_alloc ?_ _)); refine blk_put (cs := #[.int .i64 a0_0, u149001]) ?_ 1 _ rfl; (with_reducible repeat (first | refine blk_drewN ?_ _ | refine blk_drew ?_ | refine blk_alloc ?_ _)); exact BK148.out⟩, ⟨by repeat (first | (with_reducible first | exact HB.out | apply below_alloc | apply pw_below_drewN | apply below_drew1 | refine below_set ?_ GE146.out | refine below_set ?_ GE147.out | refine below_set ?_ GE148.out | refine below_set ?_ GE150.out) | exact HB.out)⟩⟩
        ·rw [if_neg c48] at H
         exact absurd H (by simp)
     ·rw [if_neg c14] at H
      have c14b0 : (((rd_T67 l0_1 x9_1).f0) == a1) = false := beq_eq_false_iff_ne.mpr c14
      have c14b1 : (((rd_T67 l0_1 x9_1).f0) != a1) = true := bne_iff_ne.mpr c14
      by_cases c62 : ((rd_T67 l0_1 x9_1).f0) = a2
      ·rw [if_pos c62] at H
       have c62b0 : (((rd_T67 l0_1 x9_1).f0) == a2) = true := beq_iff_eq.mpr c62
       have c62b1 : (((rd_T67 l0_1 x9_1).f0) != a2) = false := bne_eq_false_iff_eq.mpr c62
       clear c62
       by_cases c63 : (((rd_T67 l0_1 x9_1).f1) = a1)
       ·rw [if_pos c63] at H
        have c63b0 : (((rd_T67 l0_1 x9_1).f1) == a1) = true := beq_iff_eq.mpr c63
        have c63b1 : (((rd_T67 l0_1 x9_1).f1) != a1) = false := bne_eq_false_iff_eq.mpr c63
        clear c63
        have H' := Aside0.mk H
        clear H
        have hnb64 := NB146_147.out
        have hnc64 := NB147_146.out
        have hnb65 := NB146_148.out
        have hnc65 := NB148_146.out
        have hcz66_0 := cz_ BK146 0 (.int .i64 a0_0)
        have hcz66_1 := cz_ BK146 1 (.slice A0_1 l0_1.length c0_1)
        have hfz66_0 := blk_frozen BK146.out 0
        have hfz66_1 := blk_frozen BK146.out 1
        have p149 : 0 ≤ (x9_1 : Int) := of_decide_eq_true (by first | (with_reducible assumption) | assumption)
        have q149 : x9_1 < (l0_1.length : Int) := of_decide_eq_true (by first | (with_reducible assumption) | assumption)
        obtain ⟨ad149, e149, hx149_0, hx149_1, hx149_2⟩ := at_T67 HR0_1.out x9_1 p149 q149
        cases e149
        replace hx149_0 := (HB.out.cell (World.block_lt_of_cell? w _ hx149_0)).trans hx149_0
        replace hx149_1 := (HB.out.cell (World.block_lt_of_cell? w _ hx149_1)).trans hx149_1
        replace hx149_2 := (HB.out.cell (World.block_lt_of_cell? w _ hx149_2)).trans hx149_2
        replace p149 := eq_true p149
        replace q149 := eq_true q149
        go_wp2_with (first | ((with_reducible refine gate_dst (N := 10) rfl ?_); refine box_event ?hg (N := 10) ?hd (cs := #[.int .i64 0, .int .i64 0, .int .i64 0]) (t := 67) ?hr ?_; (case hd => rfl); (case hg => rfl); (case hr => first | (go_simp; done) | (go_simp; rfl)); intro gb150 hg w67 hbox hb; have BK150 := Aside0.mk hbox; have GW150 := ge_ HB hg; have GE150 := ge_ HB hg; have NB146_150 := nl_ BK146 hg; have NB150_146 := ng_ BK146 hg; have NB147_150 := nl_ BK147 hg; have NB150_147 := ng_ BK147 hg; have NB148_150 := nl_ BK148 hg; have NB150_148 := ng_ BK148 hg; replace HO_149001 := Aside0.mk (Kd.R_below (Kd.R_elderB (hd_ HO_149001) gb150 (Nat.le_of_eq hg.symm)) hb); replace HB := Aside0.mk (bt_ HB hb); replace BK146 := Aside0.mk (bb_ BK146 hb); replace BK147 := Aside0.mk (bb_ BK147 hb); replace BK148 := Aside0.mk (bb_ BK148 hb); clear hb hbox hg; have hnb68 := NB150_146.out; have hnc68 := NB146_150.out; have hnb69 := NB150_147.out; have hnc69 := NB147_150.out; have hnb70 := NB150_148.out; have hnc70 := NB148_150.out; have hcz71_0 := cz_ BK150 0 (.int .i64 0); have hcz71_1 := cz_ BK150 1 (.int .i64 0); have hcz71_2 := cz_ BK150 2 (.int .i64 0); have hfz71_0 := blk_frozen BK150.out 0; have hfz71_1 := blk_frozen BK150.out 1; have hfz71_2 := blk_frozen BK150.out 2))
        go_roundg k1
        case measure => have := HK1.out; omega
        case rel => exact ⟨(wrap64 (x9_1 + 1)), (x149001_1), (u149001), (by first | rfl | (simp; done) | (simp [*]; done)), H', ⟨by have := HK1.out; omega⟩, ⟨by (with_reducible repeat (first | apply Kd.R_alloc | apply Kd.R_drewN | apply Kd.R_drew)); exact Kd.R_mono (Kd.R_far (p := ⟨gb150, 2, none⟩) (Kd.R_far (p := ⟨gb150, 1, none⟩) (Kd.R_far (p := ⟨gb150, 0, none⟩) (Kd.R_mono HO_149001.out (fun k_ hk => (⟨hk, hk.2⟩ : _ ∧ k_ ≠ gb150))) (fun _ hk => hk.2) (.int .i64 ((rd_T67 l0_1 x9_1).f0))) (fun _ hk => hk.2) (.int .i64 ((rd_T67 l0_1 x9_1).f1))) (fun _ hk => hk.2) (.int .i64 ((rd_T67 l0_1 x9_1).f2))) (fun _ hk => trivial)⟩, ⟨by (with_reducible repeat (first | refine blk_drewN ?_ _ | refine blk_drew ?_ | refine blk_alloc ?_ _)); refine blk_far ?_ NB146_150.out _; (with_reducible repeat (first | refine blk_drewN ?_ _ | refine blk_drew ?_ | refine blk_alloc ?_ _)); refine blk_far ?_ NB146_150.out _; (with_reducible repeat (first | refine blk_drewN ?_ _ | refine blk_drew ?_ | refine blk_alloc ?_ _)); refine blk_far ?_ NB146_150.out _; (with_reducible repeat (first | refine blk_drewN ?_ _ | refine blk_drew ?_ | refine blk_alloc ?_ _)); exact BK146.out⟩, ⟨by (with_reducible repeat (first | refine blk_drewN ?_ _ | refine blk_drew ?_ | refine blk_alloc ?_ _)); refine blk_far ?_ NB147_150.out _; (with_reducible repeat (first | refine blk_drewN ?_ _ | refine blk_drew ?_ | refine blk_alloc ?_ _)); refine blk_far ?_ NB147_150.out _; (with_reducible repeat (first | refine blk_drewN ?_ _ | refine blk_drew ?_ | refine blk_alloc ?_ _)); refine blk_far ?_ NB147_150.out _; (with_reducible repeat (first | refine blk_drewN ?_ _ | refine blk_drew ?_ | refine blk_alloc ?_ _)); exact BK147.out⟩, ⟨by (with_reducible repeat (first | refine blk_drewN ?_ _ | refine blk_drew ?_ | refine blk_alloc ?_ _)); refine blk_far ?_ NB148_150.out _; (with_reducible repeat (first | refine blk_drewN ?_ _ | refine blk_drew ?_ | refine blk_alloc ?_ _)); refine blk_far ?_ NB148_150.out _; (with_reducible repeat (first | refine blk_drewN ?_ _ | refine blk_drew ?_ | refine blk_alloc ?_ _)); refine blk_far ?_ NB148_150.out _; (with_reducible repeat (first | refine blk_drewN ?_ _ | refine blk_drew ?_ | refine blk_alloc ?_ _)); exact BK148.out⟩, ⟨by repeat (first | (with_reducible first | exact HB.out | apply below_alloc | apply pw_below_drewN | apply below_drew1 | refine below_set ?_ GE146.out | refine below_set ?_ GE147.out | refine below_set ?_ GE148.out | refine below_set ?_ GE150.out) | exact HB.out)⟩⟩
       ·rw [if_neg c63] at H
        have c63b0 : (((rd_T67 l0_1 x9_1).f1) == a1) = false := beq_eq_false_iff_ne.mpr c63
        have c63b1 : (((rd_T67 l0_1 x9_1).f1) != a1) = true := bne_iff_ne.mpr c63
        by_cases c72 : x149001_1.length < 5864062014805
        ·rw [if_pos c72] at H
         have LMc72 := Aside0.mk c72
         clear c72
         obtain ⟨y157, hy157⟩ : ∃ y_ : List (S67), y_ = (x149001_1 ++ [(⟨(rd_T67 l0_1 x9_1).f0, (rd_T67 l0_1 x9_1).f1, (rd_T67 l0_1 x9_1).f2⟩ : S67)]) := ⟨_, rfl⟩
         replace H : (spec_Without.l0 k1 a1 a2 (wrap64 (x9_1 + 1)) a0_0 l0_1 a0_0 y157) = some (r1, r2, r3) := by first | (rw [hy157]; with_reducible exact H) | (have H2_ := (Option.bind_some _ _).symm.trans H; rw [hy157]; with_reducible exact H2_) | (have H2_ := (Option.bind_some _ _).symm.trans H; with_reducible exact H2_) | with_reducible exact H | (rw [hy157]; exact H) | exact H
         have Ny157 := Aside0.mk hy157
         clear hy157
         have H' := Aside0.mk H
         clear H
         have hnb73 := NB146_147.out
         have hnc73 := NB147_146.out
         have hnb74 := NB146_148.out
         have hnc74 := NB148_146.out
         have hcz75_0 := cz_ BK146 0 (.int .i64 a0_0)
         have hcz75_1 := cz_ BK146 1 (.slice A0_1 l0_1.length c0_1)
         have hfz75_0 := blk_frozen BK146.out 0
         have hfz75_1 := blk_frozen BK146.out 1
         have p149 : 0 ≤ (x9_1 : Int) := of_decide_eq_true (by first | (with_reducible assumption) | assumption)
         have q149 : x9_1 < (l0_1.length : Int) := of_decide_eq_true (by first | (with_reducible assumption) | assumption)
         obtain ⟨ad149, e149, hx149_0, hx149_1, hx149_2⟩ := at_T67 HR0_1.out x9_1 p149 q149
         cases e149
         replace hx149_0 := (HB.out.cell (World.block_lt_of_cell? w _ hx149_0)).trans hx149_0
         replace hx149_1 := (HB.out.cell (World.block_lt_of_cell? w _ hx149_1)).trans hx149_1
         replace hx149_2 := (HB.out.cell (World.block_lt_of_cell? w _ hx149_2)).trans hx149_2
         replace p149 := eq_true p149
         replace q149 := eq_true q149
         go_wp2_with (first | ((with_reducible refine gate_dst (N := 10) rfl ?_); refine box_event ?hg (N := 10) ?hd (cs := #[.int .i64 0, .int .i64 0, .int .i64 0]) (t := 67) ?hr ?_; (case hd => rfl); (case hg => rfl); (case hr => first | (go_simp; done) | (go_simp; rfl)); intro gb150 hg w76 hbox hb; have BK150 := Aside0.mk hbox; have GW150 := ge_ HB hg; have GE150 := ge_ HB hg; have NB146_150 := nl_ BK146 hg; have NB150_146 := ng_ BK146 hg; have NB147_150 := nl_ BK147 hg; have NB150_147 := ng_ BK147 hg; have NB148_150 := nl_ BK148 hg; have NB150_148 := ng_ BK148 hg; replace HO_149001 := Aside0.mk (Kd.R_below (Kd.R_elderB (hd_ HO_149001) gb150 (Nat.le_of_eq hg.symm)) hb); replace HB := Aside0.mk (bt_ HB hb); replace BK146 := Aside0.mk (bb_ BK146 hb); replace BK147 := Aside0.mk (bb_ BK147 hb); replace BK148 := Aside0.mk (bb_ BK148 hb); clear hb hbox hg; have hnb77 := NB150_146.out; have hnc77 := NB146_150.out; have hnb78 := NB150_147.out; have hnc78 := NB147_150.out; have hnb79 := NB150_148.out; have hnc79 := NB148_150.out; have hcz80_0 := cz_ BK150 0 (.int .i64 0); have hcz80_1 := cz_ BK150 1 (.int .i64 0); have hcz80_2 := cz_ BK150 2 (.int .i64 0); have hfz80_0 := blk_frozen BK150.out 0; have hfz80_1 := blk_frozen BK150.out 1; have hfz80_2 := blk_frozen BK150.out 2; have hnb81 := NB148_147.out; have hnc81 := NB147_148.out; have hcz82_0 := cz_ BK148 0 (.int .i64 a0_0); have hcz82_1 := cz_ BK148 1 (u149001); have hfz82_0 := blk_frozen BK148.out 0; have hfz82_1 := blk_frozen BK148.out 1) | ((with_reducible refine gate_builtin (b := .append) (xs := #[.tmp 51, .tmp 53]) rfl ?_); at_builtin; refine Kd.R_append k67 (w0 := w) w.heap.size rfl (.tmp 51) (.tmp 53) 28 67 (.agg #[(.int .i64 0), (.int .i64 0), (.int .i64 0)]) 24 rfl Try.underlying28 info67 rfl (by decide) (by omega) u149001 x149001_1 (⟨(rd_T67 l0_1 x9_1).f0, (rd_T67 l0_1 x9_1).f1, (rd_T67 l0_1 x9_1).f2⟩ : S67) [.int .i64 ((rd_T67 l0_1 x9_1).f0), .int .i64 ((rd_T67 l0_1 x9_1).f1), .int .i64 ((rd_T67 l0_1 x9_1).f2)] (fun k_ => k_ ≠ gb150) (fun _ => False) rfl (by first | (go_simp; done) | (go_simp; rfl)) ?aP (fun _ hk => hk.elim) ?aF ?aO ?aB ?aS ?aL ?_; (case aP => exact k67_mkM _ _ _ (⟨(rd_T67 l0_1 x9_1).f0, (rd_T67 l0_1 x9_1).f1, (rd_T67 l0_1 x9_1).f2⟩ : S67)); (case aB => exact (by repeat (first | (with_reducible first | exact HB.out | apply below_alloc | apply pw_below_drewN | apply below_drew1 | refine below_set ?_ GE146.out | refine below_set ?_ GE147.out | refine below_set ?_ GE148.out | refine below_set ?_ GE150.out) | exact HB.out))); (case aF => exact (fun k_ hk => Kd.freshB (g := gb150) (o := .cells #[.int .i64 ((rd_T67 l0_1 x9_1).f0), .int .i64 ((rd_T67 l0_1 x9_1).f1), .int .i64 ((rd_T67 l0_1 x9_1).f2)] 67 (0, 0)) (by (with_reducible repeat (first | refine blk_drewN ?_ _ | refine blk_drew ?_ | refine blk_alloc ?_ _)); refine blk_put (cs := #[.int .i64 ((rd_T67 l0_1 x9_1).f0), .int .i64 ((rd_T67 l0_1 x9_1).f1), .int .i64 0]) ?_ 2 _ rfl; (with_reducible repeat (first | refine blk_drewN ?_ _ | refine blk_drew ?_ | refine blk_alloc ?_ _)); refine blk_put (cs := #[.int .i64 ((rd_T67 l0_1 x9_1).f0), .int .i64 0, .int .i64 0]) ?_ 1 _ rfl; (with_reducible repeat (first | refine blk_drewN ?_ _ | refine blk_drew ?_ | refine blk_alloc ?_ _)); refine blk_put (cs := #[.int .i64 0, .int .i64 0, .int .i64 0]) ?_ 0 _ rfl; (with_reducible repeat (first | refine blk_drewN ?_ _ | refine blk_drew ?_ | refine blk_alloc ?_ _)); exact BK150.out) k_ hk)); (case aO => exact (by (with_reducible repeat (first | apply Kd.R_alloc | apply Kd.R_drewN | apply Kd.R_drew)); exact Kd.R_mono (Kd.R_far (p := ⟨gb150, 2, none⟩) (Kd.R_far (p := ⟨gb150, 1, none⟩) (Kd.R_far (p := ⟨gb150, 0, none⟩) (Kd.R_mono HO_149001.out (fun k_ hk => (⟨hk, hk.2⟩ : _ ∧ k_ ≠ gb150))) (fun _ hk => hk.2) (.int .i64 ((rd_T67 l0_1 x9_1).f0))) (fun _ hk => hk.2) (.int .i64 ((rd_T67 l0_1 x9_1).f1))) (fun _ hk => hk.2) (.int .i64 ((rd_T67 l0_1 x9_1).f2))) (fun _ hk => hk.1.2))); (case aS => exact (bz_ HB)); (case aL => have := LMc72.out; omega); intro v158 w83 ho hb hg hat; rw [← Ny157.out] at ho; have HO159 := Aside0.mk ho; replace BK146 := Aside0.mk (blk_grown (g := gb146) (o := .cells #[.int .i64 a0_0, .slice (some ad149) l0_1.length c0_1] 30 (0, 0)) (by (with_reducible repeat (first | refine blk_drewN ?_ _ | refine blk_drew ?_ | refine blk_alloc ?_ _)); refine blk_far ?_ NB146_150.out _; (with_reducible repeat (first | refine blk_drewN ?_ _ | refine blk_drew ?_ | refine blk_alloc ?_ _)); refine blk_far ?_ NB146_150.out _; (with_reducible repeat (first | refine blk_drewN ?_ _ | refine blk_drew ?_ | refine blk_alloc ?_ _)); refine blk_far ?_ NB146_150.out _; (with_reducible repeat (first | refine blk_drewN ?_ _ | refine blk_drew ?_ | refine blk_alloc ?_ _)); exact BK146.out) hg (Kd.R_ne HO_149001.out BK146.out (by decide))); replace BK147 := Aside0.mk (blk_grown (g := gb147) (o := .cells #[.int .i64 0, .slice none 0 0] 30 (0, 0)) (by (with_reducible repeat (first | refine blk_drewN ?_ _ | refine blk_drew ?_ | refine blk_alloc ?_ _)); refine blk_far ?_ NB147_150.out _; (with_reducible repeat (first | refine blk_drewN ?_ _ | refine blk_drew ?_ | refine blk_alloc ?_ _)); refine blk_far ?_ NB147_150.out _; (with_reducible repeat (first | refine blk_drewN ?_ _ | refine blk_drew ?_ | refine blk_alloc ?_ _)); refine blk_far ?_ NB147_150.out _; (with_reducible repeat (first | refine blk_drewN ?_ _ | refine blk_drew ?_ | refine blk_alloc ?_ _)); exact BK147.out) hg (Kd.R_ne HO_149001.out BK147.out (by decide))); replace BK148 := Aside0.mk (blk_grown (g := gb148) (o := .cells #[.int .i64 a0_0, u149001] 30 (0, 0)) (by (with_reducible repeat (first | refine blk_drewN ?_ _ | refine blk_drew ?_ | refine blk_alloc ?_ _)); refine blk_far ?_ NB148_150.out _; (with_reducible repeat (first | refine blk_drewN ?_ _ | refine blk_drew ?_ | refine blk_alloc ?_ _)); refine blk_far ?_ NB148_150.out _; (with_reducible repeat (first | refine blk_drewN ?_ _ | refine blk_drew ?_ | refine blk_alloc ?_ _)); refine blk_far ?_ NB148_150.out _; (with_reducible repeat (first | refine blk_drewN ?_ _ | refine blk_drew ?_ | refine blk_alloc ?_ _)); exact BK148.out) hg (Kd.R_ne HO_149001.out BK148.out (by decide))); replace BK150 := Aside0.mk (blk_grown (g := gb150) (o := .cells #[.int .i64 ((rd_T67 l0_1 x9_1).f0), .int .i64 ((rd_T67 l0_1 x9_1).f1), .int .i64 ((rd_T67 l0_1 x9_1).f2)] 67 (0, 0)) (by (with_reducible repeat (first | refine blk_drewN ?_ _ | refine blk_drew ?_ | refine blk_alloc ?_ _)); refine blk_put (cs := #[.int .i64 ((rd_T67 l0_1 x9_1).f0), .int .i64 ((rd_T67 l0_1 x9_1).f1), .int .i64 0]) ?_ 2 _ rfl; (with_reducible repeat (first | refine blk_drewN ?_ _ | refine blk_drew ?_ | refine blk_alloc ?_ _)); refine blk_put (cs := #[.int .i64 ((rd_T67 l0_1 x9_1).f0), .int .i64 0, .int .i64 0]) ?_ 1 _ rfl; (with_reducible repeat (first | refine blk_drewN ?_ _ | refine blk_drew ?_ | refine blk_alloc ?_ _)); refine blk_put (cs := #[.int .i64 0, .int .i64 0, .int .i64 0]) ?_ 0 _ rfl; (with_reducible repeat (first | refine blk_drewN ?_ _ | refine blk_drew ?_ | refine blk_alloc ?_ _)); exact BK150.out) hg (Kd.R_away HO_149001.out (fun _ hk => hk.2))); replace HB := Aside0.mk (hb); clear HO_149001; clear ho hb hg hat; obtain ⟨Ao84, co84, eo84⟩ := Kd.R_slice HO159.out; subst eo84; have hcz85_0 := cz_ BK148 0 (.int .i64 a0_0); have hcz85_1 := cz_ BK148 1 (u149001); have hfz85_0 := blk_frozen BK148.out 0; have hfz85_1 := blk_frozen BK148.out 1))
         go_roundg k1
         case measure => have := HK1.out; omega
         case rel => exact ⟨(wrap64 (x9_1 + 1)), (y157), (.slice Ao84 y157.length co84), (by first | rfl | (simp; done) | (simp [*]; done)), H', ⟨by have := HK1.out; omega⟩, ⟨by (with_reducible repeat (first | apply Kd.R_alloc | apply Kd.R_drewN | apply Kd.R_drew)); exact Kd.R_mono (Kd.R_far (p := ⟨gb148, 1, none⟩) (Kd.R_types HO159.out BK148.out (by decide)) (fun _ hk => hk.2) (.slice Ao84 y157.length co84)) (fun _ hk => trivial)⟩, ⟨by (with_reducible repeat (first | refine blk_drewN ?_ _ | refine blk_drew ?_ | refine blk_alloc ?_ _)); refine blk_far ?_ NB146_148.out _; (with_reducible repeat (first | refine blk_drewN ?_ _ | refine blk_drew ?_ | refine blk_alloc ?_ _)); exact BK146.out⟩, ⟨by (with_reducible repeat (first | refine blk_drewN ?_ _ | refine blk_drew ?_ | refine blk_alloc ?_ _)); refine blk_far ?_ NB147_148.out _; (with_reducible repeat (first | refine blk_drewN ?_ _ | refine blk_drew ?_ | refine blk_alloc ?_ _)); exact BK147.out⟩, ⟨by (with_reducible repeat (first | refine blk_drewN ?_ _ | refine blk_drew ?_ | refine blk_alloc ?_ _)); refine blk_put (cs := #[.int .i64 a0_0, u149001]) ?_ 1 _ rfl; (with_reducible repeat (first | refine blk_drewN ?_ _ | refine blk_drew ?_ | refine blk_alloc ?_ _)); exact BK148.out⟩, ⟨by repeat (first | (with_reducible first | exact HB.out | apply below_alloc | apply pw_below_drewN | apply below_drew1 | refine below_set ?_ GE146.out | refine below_set ?_ GE147.out | refine below_set ?_ GE148.out | refine below_set ?_ GE150.out) | exact HB.out)⟩⟩
        ·rw [if_neg c72] at H
         exact absurd H (by simp)
      ·rw [if_neg c62] at H
       have c62b0 : (((rd_T67 l0_1 x9_1).f0) == a2) = false := beq_eq_false_iff_ne.mpr c62
       have c62b1 : (((rd_T67 l0_1 x9_1).f0) != a2) = true := bne_iff_ne.mpr c62
       by_cases c86 : x149001_1.length < 5864062014805
       ·rw [if_pos c86] at H
        have LMc86 := Aside0.mk c86
        clear c86
        obtain ⟨y160, hy160⟩ : ∃ y_ : List (S67), y_ = (x149001_1 ++ [(⟨(rd_T67 l0_1 x9_1).f0, (rd_T67 l0_1 x9_1).f1, (rd_T67 l0_1 x9_1).f2⟩ : S67)]) := ⟨_, rfl⟩
        replace H : (spec_Without.l0 k1 a1 a2 (wrap64 (x9_1 + 1)) a0_0 l0_1 a0_0 y160) = some (r1, r2, r3) := by first | (rw [hy160]; with_reducible exact H) | (have H2_ := (Option.bind_some _ _).symm.trans H; rw [hy160]; with_reducible exact H2_) | (have H2_ := (Option.bind_some _ _).symm.trans H; with_reducible exact H2_) | with_reducible exact H | (rw [hy160]; exact H) | exact H
        have Ny160 := Aside0.mk hy160
        clear hy160
        have H' := Aside0.mk H
        clear H
        have hnb87 := NB146_147.out
        have hnc87 := NB147_146.out
        have hnb88 := NB146_148.out
        have hnc88 := NB148_146.out
        have hcz89_0 := cz_ BK146 0 (.int .i64 a0_0)
        have hcz89_1 := cz_ BK146 1 (.slice A0_1 l0_1.length c0_1)
        have hfz89_0 := blk_frozen BK146.out 0
        have hfz89_1 := blk_frozen BK146.out 1
        have p149 : 0 ≤ (x9_1 : Int) := of_decide_eq_true (by first | (with_reducible assumption) | assumption)
        have q149 : x9_1 < (l0_1.length : Int) := of_decide_eq_true (by first | (with_reducible assumption) | assumption)
        obtain ⟨ad149, e149, hx149_0, hx149_1, hx149_2⟩ := at_T67 HR0_1.out x9_1 p149 q149
        cases e149
        replace hx149_0 := (HB.out.cell (World.block_lt_of_cell? w _ hx149_0)).trans hx149_0
        replace hx149_1 := (HB.out.cell (World.block_lt_of_cell? w _ hx149_1)).trans hx149_1
        replace hx149_2 := (HB.out.cell (World.block_lt_of_cell? w _ hx149_2)).trans hx149_2
        replace p149 := eq_true p149
        replace q149 := eq_true q149
        go_wp2_with (first | ((with_reducible refine gate_dst (N := 10) rfl ?_); refine box_event ?hg (N := 10) ?hd (cs := #[.int .i64 0, .int .i64 0, .int .i64 0]) (t := 67) ?hr ?_; (case hd => rfl); (case hg => rfl); (case hr => first | (go_simp; done) | (go_simp; rfl)); intro gb150 hg w90 hbox hb; have BK150 := Aside0.mk hbox; have GW150 := ge_ HB hg; have GE150 := ge_ HB hg; have NB146_150 := nl_ BK146 hg; have NB150_146 := ng_ BK146 hg; have NB147_150 := nl_ BK147 hg; have NB150_147 := ng_ BK147 hg; have NB148_150 := nl_ BK148 hg; have NB150_148 := ng_ BK148 hg; replace HO_149001 := Aside0.mk (Kd.R_below (Kd.R_elderB (hd_ HO_149001) gb150 (Nat.le_of_eq hg.symm)) hb); replace HB := Aside0.mk (bt_ HB hb); replace BK146 := Aside0.mk (bb_ BK146 hb); replace BK147 := Aside0.mk (bb_ BK147 hb); replace BK148 := Aside0.mk (bb_ BK148 hb); clear hb hbox hg; have hnb91 := NB150_146.out; have hnc91 := NB146_150.out; have hnb92 := NB150_147.out; have hnc92 := NB147_150.out; have hnb93 := NB150_148.out; have hnc93 := NB148_150.out; have hcz94_0 := cz_ BK150 0 (.int .i64 0); have hcz94_1 := cz_ BK150 1 (.int .i64 0); have hcz94_2 := cz_ BK150 2 (.int .i64 0); have hfz94_0 := blk_frozen BK150.out 0; have hfz94_1 := blk_frozen BK150.out 1; have hfz94_2 := blk_frozen BK150.out 2; have hnb95 := NB148_147.out; have hnc95 := NB147_148.out; have hcz96_0 := cz_ BK148 0 (.int .i64 a0_0); have hcz96_1 := cz_ BK148 1 (u149001); have hfz96_0 := blk_frozen BK148.out 0; have hfz96_1 := blk_frozen BK148.out 1) | ((with_reducible refine gate_builtin (b := .append) (xs := #[.tmp 51, .tmp 53]) rfl ?_); at_builtin; refine Kd.R_append k67 (w0 := w) w.heap.size rfl (.tmp 51) (.tmp 53) 28 67 (.agg #[(.int .i64 0), (.int .i64 0), (.int .i64 0)]) 24 rfl Try.underlying28 info67 rfl (by decide) (by omega) u149001 x149001_1 (⟨(rd_T67 l0_1 x9_1).f0, (rd_T67 l0_1 x9_1).f1, (rd_T67 l0_1 x9_1).f2⟩ : S67) [.int .i64 ((rd_T67 l0_1 x9_1).f0), .int .i64 ((rd_T67 l0_1 x9_1).f1), .int .i64 ((rd_T67 l0_1 x9_1).f2)] (fun k_ => k_ ≠ gb150) (fun _ => False) rfl (by first | (go_simp; done) | (go_simp; rfl)) ?aP (fun _ hk => hk.elim) ?aF ?aO ?aB ?aS ?aL ?_; (case aP => exact k67_mkM _ _ _ (⟨(rd_T67 l0_1 x9_1).f0, (rd_T67 l0_1 x9_1).f1, (rd_T67 l0_1 x9_1).f2⟩ : S67)); (case aB => exact (by repeat (first | (with_reducible first | exact HB.out | apply below_alloc | apply pw_below_drewN | apply below_drew1 | refine below_set ?_ GE146.out | refine below_set ?_ GE147.out | refine below_set ?_ GE148.out | refine below_set ?_ GE150.out) | exact HB.out))); (case aF => exact (fun k_ hk => Kd.freshB (g := gb150) (o := .cells #[.int .i64 ((rd_T67 l0_1 x9_1).f0), .int .i64 ((rd_T67 l0_1 x9_1).f1), .int .i64 ((rd_T67 l0_1 x9_1).f2)] 67 (0, 0)) (by (with_reducible repeat (first | refine blk_drewN ?_ _ | refine blk_drew ?_ | refine blk_alloc ?_ _)); refine blk_put (cs := #[.int .i64 ((rd_T67 l0_1 x9_1).f0), .int .i64 ((rd_T67 l0_1 x9_1).f1), .int .i64 0]) ?_ 2 _ rfl; (with_reducible repeat (first | refine blk_drewN ?_ _ | refine blk_drew ?_ | refine blk_alloc ?_ _)); refine blk_put (cs := #[.int .i64 ((rd_T67 l0_1 x9_1).f0), .int .i64 0, .int .i64 0]) ?_ 1 _ rfl; (with_reducible repeat (first | refine blk_drewN ?_ _ | refine blk_drew ?_ | refine blk_alloc ?_ _)); refine blk_put (cs := #[.int .i64 0, .int .i64 0, .int .i64 0]) ?_ 0 _ rfl; (with_reducible repeat (first | refine blk_drewN ?_ _ | refine blk_drew ?_ | refine blk_alloc ?_ _)); exact BK150.out) k_ hk)); (case aO => exact (by (with_reducible repeat (first | apply Kd.R_alloc | apply Kd.R_drewN | apply Kd.R_drew)); exact Kd.R_mono (Kd.R_far (p := ⟨gb150, 2, none⟩) (Kd.R_far (p := ⟨gb150, 1, none⟩) (Kd.R_far (p := ⟨gb150, 0, none⟩) (Kd.R_mono HO_149001.out (fun k_ hk => (⟨hk, hk.2⟩ : _ ∧ k_ ≠ gb150))) (fun _ hk => hk.2) (.int .i64 ((rd_T67 l0_1 x9_1).f0))) (fun _ hk => hk.2) (.int .i64 ((rd_T67 l0_1 x9_1).f1))) (fun _ hk => hk.2) (.int .i64 ((rd_T67 l0_1 x9_1).f2))) (fun _ hk => hk.1.2))); (case aS => exact (bz_ HB)); (case aL => have := LMc86.out; omega); intro v161 w97 ho hb hg hat; rw [← Ny160.out] at ho; have HO162 := Aside0.mk ho; replace BK146 := Aside0.mk (blk_grown (g := gb146) (o := .cells #[.int .i64 a0_0, .slice (some ad149) l0_1.length c0_1] 30 (0, 0)) (by (with_reducible repeat (first | refine blk_drewN ?_ _ | refine blk_drew ?_ | refine blk_alloc ?_ _)); refine blk_far ?_ NB146_150.out _; (with_reducible repeat (first | refine blk_drewN ?_ _ | refine blk_drew ?_ | refine blk_alloc ?_ _)); refine blk_far ?_ NB146_150.out _; (with_reducible repeat (first | refine blk_drewN ?_ _ | refine blk_drew ?_ | refine blk_alloc ?_ _)); refine blk_far ?_ NB146_150.out _; (with_reducible repeat (first | refine blk_drewN ?_ _ | refine blk_drew ?_ | refine blk_alloc ?_ _)); exact BK146.out) hg (Kd.R_ne HO_149001.out BK146.out (by decide))); replace BK147 := Aside0.mk (blk_grown (g := gb147) (o := .cells #[.int .i64 0, .slice none 0 0] 30 (0, 0)) (by (with_reducible repeat (first | refine blk_drewN ?_ _ | refine blk_drew ?_ | refine blk_alloc ?_ _)); refine blk_far ?_ NB147_150.out _; (with_reducible repeat (first | refine blk_drewN ?_ _ | refine blk_drew ?_ | refine blk_alloc ?_ _)); refine blk_far ?_ NB147_150.out _; (with_reducible repeat (first | refine blk_drewN ?_ _ | refine blk_drew ?_ | refine blk_alloc ?_ _)); refine blk_far ?_ NB147_150.out _; (with_reducible repeat (first | refine blk_drewN ?_ _ | refine blk_drew ?_ | refine blk_alloc ?_ _)); exact BK147.out) hg (Kd.R_ne HO_149001.out BK147.out (by decide))); replace BK148 := Aside0.mk (blk_grown (g := gb148) (o := .cells #[.int .i64 a0_0, u149001] 30 (0, 0)) (by (with_reducible repeat (first | refine blk_drewN ?_ _ | refine blk_drew ?_ | refine blk_alloc ?_ _)); refine blk_far ?_ NB148_150.out _; (with_reducible repeat (first | refine blk_drewN ?_ _ | refine blk_drew ?_ | refine blk_alloc ?_ _)); refine blk_far ?_ NB148_150.out _; (with_reducible repeat (first | refine blk_drewN ?_ _ | refine blk_drew ?_ | refine blk_alloc ?_ _)); refine blk_far ?_ NB148_150.out _; (with_reducible repeat (first | refine blk_drewN ?_ _ | refine blk_drew ?_ | refine blk_alloc ?_ _)); exact BK148.out) hg (Kd.R_ne HO_149001.out BK148.out (by decide))); replace BK150 := Aside0.mk (blk_grown (g := gb150) (o := .cells #[.int .i64 ((rd_T67 l0_1 x9_1).f0), .int .i64 ((rd_T67 l0_1 x9_1).f1), .int .i64 ((rd_T67 l0_1 x9_1).f2)] 67 (0, 0)) (by (with_reducible repeat (first | refine blk_drewN ?_ _ | refine blk_drew ?_ | refine blk_alloc ?_ _)); refine blk_put (cs := #[.int .i64 ((rd_T67 l0_1 x9_1).f0), .int .i64 ((rd_T67 l0_1 x9_1).f1), .int .i64 0]) ?_ 2 _ rfl; (with_reducible repeat (first | refine blk_drewN ?_ _ | refine blk_drew ?_ | refine blk_alloc ?_ _)); refine blk_put (cs := #[.int .i64 ((rd_T67 l0_1 x9_1).f0), .int .i64 0, .int .i64 0]) ?_ 1 _ rfl; (with_reducible repeat (first | refine blk_drewN ?_ _ | refine blk_drew ?_ | refine blk_alloc ?_ _)); refine blk_put (cs := #[.int .i64 0, .int .i64 0, .int .i64 0]) ?_ 0 _ rfl; (with_reducible repeat (first | refine blk_drewN ?_ _ | refine blk_drew ?_ | refine blk_alloc ?_ _)); exact BK150.out) hg (Kd.R_away HO_149001.out (fun _ hk => hk.2))); replace HB := Aside0.mk (hb); clear HO_149001; clear ho hb hg hat; obtain ⟨Ao98, co98, eo98⟩ := Kd.R_slice HO162.out; subst eo98; have hcz99_0 := cz_ BK148 0 (.int .i64 a0_0); have hcz99_1 := cz_ BK148 1 (u149001); have hfz99_0 := blk_frozen BK148.out 0; have hfz99_1 := blk_frozen BK148.out 1))
        go_roundg k1
        case measure => have := HK1.out; omega
        case rel => exact ⟨(wrap64 (x9_1 + 1)), (y160), (.slice Ao98 y160.length co98), (by first | rfl | (simp; done) | (simp [*]; done)), H', ⟨by have := HK1.out; omega⟩, ⟨by (with_reducible repeat (first | apply Kd.R_alloc | apply Kd.R_drewN | apply Kd.R_drew)); exact Kd.R_mono (Kd.R_far (p := ⟨gb148, 1, none⟩) (Kd.R_types HO162.out BK148.out (by decide)) (fun _ hk => hk.2) (.slice Ao98 y160.length co98)) (fun _ hk => trivial)⟩, ⟨by (with_reducible repeat (first | refine blk_drewN ?_ _ | refine blk_drew ?_ | refine blk_alloc ?_ _)); refine blk_far ?_ NB146_148.out _; (with_reducible repeat (first | refine blk_drewN ?_ _ | refine blk_drew ?_ | refine blk_alloc ?_ _)); exact BK146.out⟩, ⟨by (with_reducible repeat (first | refine blk_drewN ?_ _ | refine blk_drew ?_ | refine blk_alloc ?_ _)); refine blk_far ?_ NB147_148.out _; (with_reducible repeat (first | refine blk_drewN ?_ _ | refine blk_drew ?_ | refine blk_alloc ?_ _)); exact BK147.out⟩, ⟨by (with_reducible repeat (first | refine blk_drewN ?_ _ | refine blk_drew ?_ | refine blk_alloc ?_ _)); refine blk_put (cs := #[.int .i64 a0_0, u149001]) ?_ 1 _ rfl; (with_reducible repeat (first | refine blk_drewN ?_ _ | refine blk_drew ?_ | refine blk_alloc ?_ _)); exact BK148.out⟩, ⟨by repeat (first | (with_reducible first | exact HB.out | apply below_alloc | apply pw_below_drewN | apply below_drew1 | refine below_set ?_ GE146.out | refine below_set ?_ GE147.out | refine below_set ?_ GE148.out | refine below_set ?_ GE150.out) | exact HB.out)⟩⟩
       ·rw [if_neg c86] at H
        exact absurd H (by simp)
    ·rw [if_neg c13] at H
     exact absurd H (by simp)
   ·rw [if_neg c12] at H
    have c12b0 : decide (x9_1 < (l0_1.length : Int)) = false := decide_eq_false c12
    clear c12
    replace H := Option.bind_eq_some_iff.mp H
    obtain ⟨t163, A1000, H⟩ := H
    have A100 := Aside0.mk A1000
    clear A1000
    by_cases c101 : t163 = true
    ·subst c101
     rw [if_pos rfl] at H
     by_cases c102 : (x149001_1.length : Int) = (l0_1.length : Int)
     ·rw [if_pos c102] at H
      have c102b0 : ((x149001_1.length : Int) == (l0_1.length : Int)) = true := beq_iff_eq.mpr c102
      have c102b1 : ((x149001_1.length : Int) != (l0_1.length : Int)) = false := bne_eq_false_iff_eq.mpr c102
      have c102b2 : (x149001_1.length == l0_1.length) = true := by first | simpa using c102 | (simp at c102 ⊢; omega)
      clear c102
      replace H := Option.bind_eq_some_iff.mp H
      obtain ⟨⟨t164, t165⟩, A1030, H⟩ := H
      have A103 := Aside0.mk A1030
      clear A1030
      simp only [Option.some.injEq, Prod.mk.injEq] at H
      obtain ⟨rfl, rfl, rfl⟩ := H
      have hnb104 := NB146_147.out
      have hnc104 := NB147_146.out
      have hnb105 := NB146_148.out
      have hnc105 := NB148_146.out
      have hcz106_0 := cz_ BK146 0 (.int .i64 a0_0)
      have hcz106_1 := cz_ BK146 1 (.slice A0_1 l0_1.length c0_1)
      have hfz106_0 := blk_frozen BK146.out 0
      have hfz106_1 := blk_frozen BK146.out 1
      go_wp2_with (first | ((with_reducible refine gate_callee (f := 52) rfl ?_); refine gl_ (some 57) Try.func52 #[.agg #[.int .i64 a0_0, .slice A0_1 l0_1.length c0_1]] ?_; (with_reducible refine (spec_GraphOk.calls k1 a0_0 _ _ l0_1 true _ ?side1 ?side2 A100.out).mono ?_); (case side1 => exact cb_ HR0_1 HB); (case side2 => exact HC0_1.out); rintro e w107 ⟨rfl, hb⟩; refine ⟨_, rfl, ?_⟩; replace HO_149001 := rb_ HO_149001 hb; replace BK146 := Aside0.mk (bb_ BK146 hb); replace BK147 := Aside0.mk (bb_ BK147 hb); replace BK148 := Aside0.mk (bb_ BK148 hb); replace HB := Aside0.mk (bt_ HB hb); (try clear hb); (try clear hb2); (try clear hk); (try clear hi); have hnb108 := NB148_147.out; have hnc108 := NB147_148.out; have hcz109_0 := cz_ BK148 0 (.int .i64 a0_0); have hcz109_1 := cz_ BK148 1 (u149001); have hfz109_0 := blk_frozen BK148.out 0; have hfz109_1 := blk_frozen BK148.out 1; obtain ⟨Ao110, co110, eo110⟩ := Kd.R_slice HO_149001.out; subst eo110; have hcz111_0 := cz_ BK146 0 (.int .i64 a0_0); have hcz111_1 := cz_ BK146 1 (.slice A0_1 l0_1.length c0_1); have hfz111_0 := blk_frozen BK146.out 0; have hfz111_1 := blk_frozen BK146.out 1) | ((with_reducible refine gate_callee (f := 64) rfl ?_); refine gl_ (some 69) Try.func64 #[.agg #[.int .i64 a0_0, .slice A0_1 l0_1.length c0_1]] ?_; (with_reducible refine (spec_l03Copy.calls k1 a0_0 _ _ l0_1 t164 t165 _ ?side1 ?side2 A103.out).mono ?_); (case side1 => exact cb_ HR0_1 HB); (case side2 => exact HC0_1.out); rintro e w112 ⟨v166, rfl, ho0, hb⟩; refine ⟨_, rfl, ?_⟩; have HO167 := Aside0.mk (Kd.R_lower (Kd.R_new' ho0 (Kd.R_lt (hd_ HO_149001))) (bz_ HB)); replace HO_149001 := Aside0.mk (Kd.R_elder' (hd_ HO_149001) (Kd.R_base ho0) hb); replace BK146 := Aside0.mk (bb_ BK146 hb); replace BK147 := Aside0.mk (bb_ BK147 hb); replace BK148 := Aside0.mk (bb_ BK148 hb); replace HB := Aside0.mk (bt_ HB hb); (try clear hb); (try clear hb2); (try clear hk); (try clear hi); (try clear ho0); have hcz113_0 := cz_ BK147 0 (.int .i64 0); have hcz113_1 := cz_ BK147 1 (.slice none 0 0); have hfz113_0 := blk_frozen BK147.out 0; have hfz113_1 := blk_frozen BK147.out 1; obtain ⟨Ao114, co114, eo114⟩ := Kd.R_slice HO167.out; subst eo114))
      refine bodyPost_ret (results_ct rfl _ _ gb147 30 #[.int .i64 t164, .slice Ao114 t165.length co114] (0, 0) _ rfl (by (with_reducible repeat (first | refine blk_drewN ?_ _ | refine blk_drew ?_ | refine blk_alloc ?_ _)); refine blk_put (cs := #[.int .i64 t164, .slice none 0 0]) ?_ 1 _ rfl; (with_reducible repeat (first | refine blk_drewN ?_ _ | refine blk_drew ?_ | refine blk_alloc ?_ _)); refine blk_put (cs := #[.int .i64 0, .slice none 0 0]) ?_ 0 _ rfl; (with_reducible repeat (first | refine blk_drewN ?_ _ | refine blk_drew ?_ | refine blk_alloc ?_ _)); exact BK147.out) Try.underlying30 rfl (by kernel_rfl)) rfl ?_
      exact ⟨_, by first | rfl | (simp [errW_none, errW_some] <;> rfl) | (simp [*, errW_none, errW_some] <;> rfl), by (with_reducible repeat (first | apply Kd.R_alloc | apply Kd.R_drewN | apply Kd.R_drew)); exact Kd.R_mono (Kd.R_far (p := ⟨gb147, 1, none⟩) (Kd.R_far (p := ⟨gb147, 0, none⟩) (Kd.R_types HO167.out BK147.out (by decide)) (fun _ hk => hk.2) (.int .i64 t164)) (fun _ hk => hk.2) (.slice Ao114 t165.length co114)) (fun _ hk => trivial), by repeat (first | (with_reducible first | exact HB.out | apply below_alloc | apply pw_below_drewN | apply below_drew1 | refine below_set ?_ GE146.out | refine below_set ?_ GE147.out | refine below_set ?_ GE148.out) | exact HB.out)⟩
     ·rw [if_neg c102] at H
      have c102b0 : ((x149001_1.length : Int) == (l0_1.length : Int)) = false := beq_eq_false_iff_ne.mpr c102
      have c102b1 : ((x149001_1.length : Int) != (l0_1.length : Int)) = true := bne_iff_ne.mpr c102
      have c102b2 : (x149001_1.length == l0_1.length) = false := by first | simpa using c102 | (simp at c102 ⊢; omega)
      simp only [Option.some.injEq, Prod.mk.injEq] at H
      obtain ⟨rfl, rfl, rfl⟩ := H
      have hnb115 := NB146_147.out
      have hnc115 := NB147_146.out
      have hnb116 := NB146_148.out
      have hnc116 := NB148_146.out
      have hcz117_0 := cz_ BK146 0 (.int .i64 a0_0)
      have hcz117_1 := cz_ BK146 1 (.slice A0_1 l0_1.length c0_1)
      have hfz117_0 := blk_frozen BK146.out 0
      have hfz117_1 := blk_frozen BK146.out 1
      go_wp2_with (first | ((with_reducible refine gate_callee (f := 52) rfl ?_); refine gl_ (some 57) Try.func52 #[.agg #[.int .i64 a0_0, .slice A0_1 l0_1.length c0_1]] ?_; (with_reducible refine (spec_GraphOk.calls k1 a0_0 _ _ l0_1 true _ ?side1 ?side2 A100.out).mono ?_); (case side1 => exact cb_ HR0_1 HB); (case side2 => exact HC0_1.out); rintro e w118 ⟨rfl, hb⟩; refine ⟨_, rfl, ?_⟩; replace HO_149001 := rb_ HO_149001 hb; replace BK146 := Aside0.mk (bb_ BK146 hb); replace BK147 := Aside0.mk (bb_ BK147 hb); replace BK148 := Aside0.mk (bb_ BK148 hb); replace HB := Aside0.mk (bt_ HB hb); (try clear hb); (try clear hb2); (try clear hk); (try clear hi); have hnb119 := NB148_147.out; have hnc119 := NB147_148.out; have hcz120_0 := cz_ BK148 0 (.int .i64 a0_0); have hcz120_1 := cz_ BK148 1 (u149001); have hfz120_0 := blk_frozen BK148.out 0; have hfz120_1 := blk_frozen BK148.out 1; obtain ⟨Ao121, co121, eo121⟩ := Kd.R_slice HO_149001.out; subst eo121; have hcz122_0 := cz_ BK146 0 (.int .i64 a0_0); have hcz122_1 := cz_ BK146 1 (.slice A0_1 l0_1.length c0_1); have hfz122_0 := blk_frozen BK146.out 0; have hfz122_1 := blk_frozen BK146.out 1; have hcz123_0 := cz_ BK147 0 (.int .i64 0); have hcz123_1 := cz_ BK147 1 (.slice none 0 0); have hfz123_0 := blk_frozen BK147.out 0; have hfz123_1 := blk_frozen BK147.out 1))
      refine bodyPost_ret (results_ct rfl _ _ gb147 30 #[.int .i64 a0_0, .slice Ao121 x149001_1.length co121] (0, 0) _ rfl (by (with_reducible repeat (first | refine blk_drewN ?_ _ | refine blk_drew ?_ | refine blk_alloc ?_ _)); refine blk_put (cs := #[.int .i64 a0_0, .slice none 0 0]) ?_ 1 _ rfl; (with_reducible repeat (first | refine blk_drewN ?_ _ | refine blk_drew ?_ | refine blk_alloc ?_ _)); refine blk_put (cs := #[.int .i64 0, .slice none 0 0]) ?_ 0 _ rfl; (with_reducible repeat (first | refine blk_drewN ?_ _ | refine blk_drew ?_ | refine blk_alloc ?_ _)); exact BK147.out) Try.underlying30 rfl (by kernel_rfl)) rfl ?_
      exact ⟨_, by first | rfl | (simp [errW_none, errW_some] <;> rfl) | (simp [*, errW_none, errW_some] <;> rfl), by (with_reducible repeat (first | apply Kd.R_alloc | apply Kd.R_drewN | apply Kd.R_drew)); exact Kd.R_mono (Kd.R_far (p := ⟨gb147, 1, none⟩) (Kd.R_far (p := ⟨gb147, 0, none⟩) (Kd.R_types HO_149001.out BK147.out (by decide)) (fun _ hk => hk.2) (.int .i64 a0_0)) (fun _ hk => hk.2) (.slice Ao121 x149001_1.length co121)) (fun _ hk => trivial), by repeat (first | (with_reducible first | exact HB.out | apply below_alloc | apply pw_below_drewN | apply below_drew1 | refine below_set ?_ GE146.out | refine below_set ?_ GE147.out | refine below_set ?_ GE148.out) | exact HB.out)⟩
    ·replace c101 := Bool.eq_false_iff.mpr c101
     subst c101
     rw [if_neg (show ¬ (false = true) by decide)] at H
     replace H := Option.bind_eq_some_iff.mp H
     obtain ⟨⟨t168, t169⟩, A1240, H⟩ := H
     have A124 := Aside0.mk A1240
     clear A1240
     simp only [Option.some.injEq, Prod.mk.injEq] at H
     obtain ⟨rfl, rfl, rfl⟩ := H
     have hnb125 := NB146_147.out
     have hnc125 := NB147_146.out
     have hnb126 := NB146_148.out
     have hnc126 := NB148_146.out
     have hcz127_0 := cz_ BK146 0 (.int .i64 a0_0)
     have hcz127_1 := cz_ BK146 1 (.slice A0_1 l0_1.length c0_1)
     have hfz127_0 := blk_frozen BK146.out 0
     have hfz127_1 := blk_frozen BK146.out 1
     go_wp2_with (first | ((with_reducible refine gate_callee (f := 52) rfl ?_); refine gl_ (some 57) Try.func52 #[.agg #[.int .i64 a0_0, .slice A0_1 l0_1.length c0_1]] ?_; (with_reducible refine (spec_GraphOk.calls k1 a0_0 _ _ l0_1 false _ ?side1 ?side2 A100.out).mono ?_); (case side1 => exact cb_ HR0_1 HB); (case side2 => exact HC0_1.out); rintro e w128 ⟨rfl, hb⟩; refine ⟨_, rfl, ?_⟩; replace HO_149001 := rb_ HO_149001 hb; replace BK146 := Aside0.mk (bb_ BK146 hb); replace BK147 := Aside0.mk (bb_ BK147 hb); replace BK148 := Aside0.mk (bb_ BK148 hb); replace HB := Aside0.mk (bt_ HB hb); (try clear hb); (try clear hb2); (try clear hk); (try clear hi); have hcz129_0 := cz_ BK146 0 (.int .i64 a0_0); have hcz129_1 := cz_ BK146 1 (.slice A0_1 l0_1.length c0_1); have hfz129_0 := blk_frozen BK146.out 0; have hfz129_1 := blk_frozen BK146.out 1) | ((with_reducible refine gate_callee (f := 64) rfl ?_); refine gl_ (some 69) Try.func64 #[.agg #[.int .i64 a0_0, .slice A0_1 l0_1.length c0_1]] ?_; (with_reducible refine (spec_l03Copy.calls k1 a0_0 _ _ l0_1 t168 t169 _ ?side1 ?side2 A124.out).mono ?_); (case side1 => exact cb_ HR0_1 HB); (case side2 => exact HC0_1.out); rintro e w130 ⟨v170, rfl, ho0, hb⟩; refine ⟨_, rfl, ?_⟩; have HO171 := Aside0.mk (Kd.R_lower (Kd.R_new' ho0 (Kd.R_lt (hd_ HO_149001))) (bz_ HB)); replace HO_149001 := Aside0.mk (Kd.R_elder' (hd_ HO_149001) (Kd.R_base ho0) hb); replace BK146 := Aside0.mk (bb_ BK146 hb); replace BK147 := Aside0.mk (bb_ BK147 hb); replace BK148 := Aside0.mk (bb_ BK148 hb); replace HB := Aside0.mk (bt_ HB hb); (try clear hb); (try clear hb2); (try clear hk); (try clear hi); (try clear ho0); have hnb131 := NB147_148.out; have hnc131 := NB148_147.out; have hcz132_0 := cz_ BK147 0 (.int .i64 0); have hcz132_1 := cz_ BK147 1 (.slice none 0 0); have hfz132_0 := blk_frozen BK147.out 0; have hfz132_1 := blk_frozen BK147.out 1; obtain ⟨Ao133, co133, eo133⟩ := Kd.R_slice HO171.out; subst eo133))
     refine bodyPost_ret (results_ct rfl _ _ gb147 30 #[.int .i64 t168, .slice Ao133 t169.length co133] (0, 0) _ rfl (by (with_reducible repeat (first | refine blk_drewN ?_ _ | refine blk_drew ?_ | refine blk_alloc ?_ _)); refine blk_put (cs := #[.int .i64 t168, .slice none 0 0]) ?_ 1 _ rfl; (with_reducible repeat (first | refine blk_drewN ?_ _ | refine blk_drew ?_ | refine blk_alloc ?_ _)); refine blk_put (cs := #[.int .i64 0, .slice none 0 0]) ?_ 0 _ rfl; (with_reducible repeat (first | refine blk_drewN ?_ _ | refine blk_drew ?_ | refine blk_alloc ?_ _)); exact BK147.out) Try.underlying30 rfl (by kernel_rfl)) rfl ?_
     exact ⟨_, by first | rfl | (simp [errW_none, errW_some] <;> rfl) | (simp [*, errW_none, errW_some] <;> rfl), by (with_reducible repeat (first | apply Kd.R_alloc | apply Kd.R_drewN | apply Kd.R_drew)); exact Kd.R_mono (Kd.R_far (p := ⟨gb147, 1, none⟩) (Kd.R_far (p := ⟨gb147, 0, none⟩) (Kd.R_types HO171.out BK147.out (by decide)) (fun _ hk => hk.2) (.int .i64 t168)) (fun _ hk => hk.2) (.slice Ao133 t169.length co133)) (fun _ hk => trivial), by repeat (first | (with_reducible first | exact HB.out | apply below_alloc | apply pw_below_drewN | apply below_drew1 | refine below_set ?_ GE146.out | refine below_set ?_ GE147.out | refine below_set ?_ GE148.out) | exact HB.out)⟩

/-! ### impl_within: function 57 -/
def impl_within.f (a0 : Int) (a1 : Int) (a2 : Int) : Option (Bool) := if a0 ≥ a1 then (some (decide (a0 ≤ a2))) else (some false)
set_option maxHeartbeats 8000000 in
set_option maxRecDepth 100000 in
theorem impl_within.calls (a0 : Int) (a1 : Int) (a2 : Int) (r : Bool) (w : World) (h : impl_within.f a0 a1 a2 = some r) :
  Calls Try.prog 57 #[.int .i64 a0, .int .i64 a1, .int .i64 a2] w fun e w' => e = .returned (.bool r) ∧ Drawn0 w w' := by
 have H : (if a0 ≥ a1 then (some (decide (a0 ≤ a2))) else (some false)) = some r := h
 clear h
 by_cases c4 : a0 ≥ a1
 ·rw [if_pos c4] at H
  have c4b0 : decide (a1 ≤ a0) = true := decide_eq_true c4
  clear c4
  obtain rfl := Option.some.inj H
  go_enter Try.func57, Try.ntmps57
  go_wp2
  go_ret
  exact ⟨by first | rfl | (simp; done) | (simp [*]; done), by repeat (first | exact Drawn0.refl _ | apply Drawn0.step)⟩
 ·rw [if_neg c4] at H
  have c4b0 : decide (a1 ≤ a0) = false := decide_eq_false c4
  clear c4
  obtain rfl := Option.some.inj H
  go_enter Try.func57, Try.ntmps57
  go_wp2
  go_ret
  exact ⟨by first | rfl | (simp; done) | (simp [*]; done), by repeat (first | exact Drawn0.refl _ | apply Drawn0.step)⟩

/-! ### impl_Graph_isNode: function 58 -/
def impl_Graph_isNode.f (a0_0 : Int) (l0_1 : List (S67)) (a1 : Int) : Option (Bool) := (impl_within.f a1 0 (wrap64 (a0_0 - 1))).bind fun t173 => (some t173)
set_option maxHeartbeats 8000000 in
set_option maxRecDepth 100000 in
theorem impl_Graph_isNode.calls (a0_0 : Int) (A0_1 : Option Addr) (c0_1 : Nat) (l0_1 : List (S67)) (a1 : Int) (r : Bool) (w : World) (hr0_1 : Kd.C k67 w A0_1 l0_1.length l0_1) (hc0_1 : l0_1.length ≤ c0_1) (h : impl_Graph_isNode.f a0_0 l0_1 a1 = some r) :
  Calls Try.prog 58 #[.agg #[.int .i64 a0_0, .slice A0_1 l0_1.length c0_1], .int .i64 a1] w fun e w' => e = .returned (.bool r) ∧ Below w.heap.size w w' := by
 have hu30 := Try.underlying30
 have HR0_1 := Aside0.mk hr0_1
 have HC0_1 := Aside0.mk hc0_1
 clear hr0_1 hc0_1
 have HB := Aside0.mk (Below.refl w.heap.size w)
 have H : ((impl_within.f a1 0 (wrap64 (a0_0 - 1))).bind fun t173 => (some t173)) = some r := h
 clear h
 replace H := Option.bind_eq_some_iff.mp H
 obtain ⟨t173, A30, H⟩ := H
 have A3 := Aside0.mk A30
 clear A30
 obtain rfl := Option.some.inj H
 go_enter Try.func58, Try.ntmps58
 go_wp2_with (first | ((with_reducible refine gate_dst (N := 2) rfl ?_); refine box_event ?hg (N := 2) ?hd (cs := #[.int .i64 a0_0, .slice A0_1 l0_1.length c0_1]) (t := 30) ?hr ?_; (case hd => rfl); (case hg => rfl); (case hr => first | (go_simp; done) | (go_simp; rfl)); intro gb172 hg w4 hbox hb; have BK172 := Aside0.mk hbox; have GW172 := ge_ HB hg; have GE172 := ge_ HB hg; replace HB := Aside0.mk (bt_ HB hb); clear hb hbox hg; have hcz5_0 := cz_ BK172 0 (.int .i64 a0_0); have hcz5_1 := cz_ BK172 1 (.slice A0_1 l0_1.length c0_1); have hfz5_0 := blk_frozen BK172.out 0; have hfz5_1 := blk_frozen BK172.out 1) | ((with_reducible refine gate_callee (f := 57) rfl ?_); refine gl_ (some 9) Try.func57 #[.int .i64 a1, .int .i64 0, .int .i64 (wrap64 (a0_0 - 1))] ?_; (with_reducible refine (impl_within.calls a1 0 (wrap64 (a0_0 - 1)) t173 _ A3.out).mono ?_); rintro e w' ⟨rfl, ⟨nd, rfl⟩⟩; refine ⟨_, rfl, ?_⟩))
 go_ret
 exact ⟨by first | rfl | (simp [errW_none, errW_some] <;> rfl) | (simp [*, errW_none, errW_some] <;> rfl), by repeat (first | (with_reducible first | exact HB.out | apply below_alloc | apply pw_below_drewN | apply below_drew1 | refine below_set ?_ GE172.out) | exact HB.out)⟩

/-! ### impl_compareEdges: function 82 -/
def impl_compareEdges.f (a0_0 : Int) (a0_1 : Int) (a0_2 : Int) (a1_0 : Int) (a1_1 : Int) (a1_2 : Int) : Option (Int) := if a0_0 = a1_0 then (some (wrap64 (a0_1 - a1_1))) else (some (wrap64 (a0_0 - a1_0)))
set_option maxHeartbeats 8000000 in
set_option maxRecDepth 100000 in
theorem impl_compareEdges.calls (a0_0 : Int) (a0_1 : Int) (a0_2 : Int) (a1_0 : Int) (a1_1 : Int) (a1_2 : Int) (r : Int) (w : World) (h : impl_compareEdges.f a0_0 a0_1 a0_2 a1_0 a1_1 a1_2 = some r) :
  Calls Try.prog 82 #[.agg #[.int .i64 a0_0, .int .i64 a0_1, .int .i64 a0_2], .agg #[.int .i64 a1_0, .int .i64 a1_1, .int .i64 a1_2]] w fun e w' => e = .returned (.int .i64 r) ∧ Below w.heap.size w w' := by
 have hu67 := Try.underlying67
 have HB := Aside0.mk (Below.refl w.heap.size w)
 have H : (if a0_0 = a1_0 then (some (wrap64 (a0_1 - a1_1))) else (some (wrap64 (a0_0 - a1_0)))) = some r := h
 clear h
 by_cases c3 : a0_0 = a1_0
 ·rw [if_pos c3] at H
  have c3b0 : (a0_0 == a1_0) = true := beq_iff_eq.mpr c3
  have c3b1 : (a0_0 != a1_0) = false := bne_eq_false_iff_eq.mpr c3
  clear c3
  obtain rfl := Option.some.inj H
  go_enter Try.func82, Try.ntmps82
  go_wp2_with (first | ((with_reducible refine gate_dst (N := 2) rfl ?_); refine box_event ?hg (N := 2) ?hd (cs := #[.int .i64 a0_0, .int .i64 a0_1, .int .i64 a0_2]) (t := 67) ?hr ?_; (case hd => rfl); (case hg => rfl); (case hr => first | (go_simp; done) | (go_simp; rfl)); intro gb174 hg w4 hbox hb; have BK174 := Aside0.mk hbox; have GW174 := ge_ HB hg; have GE174 := ge_ HB hg; replace HB := Aside0.mk (bt_ HB hb); clear hb hbox hg) | ((with_reducible refine gate_dst (N := 3) rfl ?_); refine box_event ?hg (N := 3) ?hd (cs := #[.int .i64 a1_0, .int .i64 a1_1, .int .i64 a1_2]) (t := 67) ?hr ?_; (case hd => rfl); (case hg => rfl); (case hr => first | (go_simp; done) | (go_simp; rfl)); intro gb175 hg w5 hbox hb; have BK175 := Aside0.mk hbox; have GW175 := ge_ HB hg; have GE175 := ge_ HB hg; have NB174_175 := nl_ BK174 hg; have NB175_174 := ng_ BK174 hg; replace HB := Aside0.mk (bt_ HB hb); replace BK174 := Aside0.mk (bb_ BK174 hb); clear hb hbox hg; have hnb6 := NB174_175.out; have hnc6 := NB175_174.out; have hcz7_0 := cz_ BK174 0 (.int .i64 a0_0); have hcz7_1 := cz_ BK174 1 (.int .i64 a0_1); have hcz7_2 := cz_ BK174 2 (.int .i64 a0_2); have hfz7_0 := blk_frozen BK174.out 0; have hfz7_1 := blk_frozen BK174.out 1; have hfz7_2 := blk_frozen BK174.out 2; have hcz8_0 := cz_ BK175 0 (.int .i64 a1_0); have hcz8_1 := cz_ BK175 1 (.int .i64 a1_1); have hcz8_2 := cz_ BK175 2 (.int .i64 a1_2); have hfz8_0 := blk_frozen BK175.out 0; have hfz8_1 := blk_frozen BK175.out 1; have hfz8_2 := blk_frozen BK175.out 2))
  go_ret
  exact ⟨by first | rfl | (simp [errW_none, errW_some] <;> rfl) | (simp [*, errW_none, errW_some] <;> rfl), by repeat (first | (with_reducible first | exact HB.out | apply below_alloc | apply pw_below_drewN | apply below_drew1 | refine below_set ?_ GE174.out | refine below_set ?_ GE175.out) | exact HB.out)⟩
 ·rw [if_neg c3] at H
  have c3b0 : (a0_0 == a1_0) = false := beq_eq_false_iff_ne.mpr c3
  have c3b1 : (a0_0 != a1_0) = true := bne_iff_ne.mpr c3
  obtain rfl := Option.some.inj H
  go_enter Try.func82, Try.ntmps82
  go_wp2_with (first | ((with_reducible refine gate_dst (N := 2) rfl ?_); refine box_event ?hg (N := 2) ?hd (cs := #[.int .i64 a0_0, .int .i64 a0_1, .int .i64 a0_2]) (t := 67) ?hr ?_; (case hd => rfl); (case hg => rfl); (case hr => first | (go_simp; done) | (go_simp; rfl)); intro gb174 hg w9 hbox hb; have BK174 := Aside0.mk hbox; have GW174 := ge_ HB hg; have GE174 := ge_ HB hg; replace HB := Aside0.mk (bt_ HB hb); clear hb hbox hg) | ((with_reducible refine gate_dst (N := 3) rfl ?_); refine box_event ?hg (N := 3) ?hd (cs := #[.int .i64 a1_0, .int .i64 a1_1, .int .i64 a1_2]) (t := 67) ?hr ?_; (case hd => rfl); (case hg => rfl); (case hr => first | (go_simp; done) | (go_simp; rfl)); intro gb175 hg w10 hbox hb; have BK175 := Aside0.mk hbox; have GW175 := ge_ HB hg; have GE175 := ge_ HB hg; have NB174_175 := nl_ BK174 hg; have NB175_174 := ng_ BK174 hg; replace HB := Aside0.mk (bt_ HB hb); replace BK174 := Aside0.mk (bb_ BK174 hb); clear hb hbox hg; have hnb11 := NB174_175.out; have hnc11 := NB175_174.out; have hcz12_0 := cz_ BK174 0 (.int .i64 a0_0); have hcz12_1 := cz_ BK174 1 (.int .i64 a0_1); have hcz12_2 := cz_ BK174 2 (.int .i64 a0_2); have hfz12_0 := blk_frozen BK174.out 0; have hfz12_1 := blk_frozen BK174.out 1; have hfz12_2 := blk_frozen BK174.out 2; have hcz13_0 := cz_ BK175 0 (.int .i64 a1_0); have hcz13_1 := cz_ BK175 1 (.int .i64 a1_1); have hcz13_2 := cz_ BK175 2 (.int .i64 a1_2); have hfz13_0 := blk_frozen BK175.out 0; have hfz13_1 := blk_frozen BK175.out 1; have hfz13_2 := blk_frozen BK175.out 2))
  go_ret
  exact ⟨by first | rfl | (simp [errW_none, errW_some] <;> rfl) | (simp [*, errW_none, errW_some] <;> rfl), by repeat (first | (with_reducible first | exact HB.out | apply below_alloc | apply pw_below_drewN | apply below_drew1 | refine below_set ?_ GE174.out | refine below_set ?_ GE175.out) | exact HB.out)⟩

end Go.Proofs.Yteopiggdpadolaa.QFnExactWithout
