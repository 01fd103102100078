/- Contracts of functions that the law reaches: what each call returns and what it leaves in memory. Made by this session over the print of the kit. -/
import Derived.Test.YtflfbaofgfandaaQFnExactPutRoutex0
namespace Go.Proofs.Ytflfbaofgfandaa.QFnExactPutRoute
open Go.RowKit Go.Proofs.YtflfbaofgfandaaP.PrintWords Go.Proofs.YtflfbaofgfandaaP.PrintLast Go.Proofs.YtflfbaofgfandaaP.PrintMore
attribute [local go_sem] max2_int min2_int max_two min_two max_three min_three max_four min_four   -- for this text's walks alone
set_option linter.unusedVariables false
set_option linter.unusedSimpArgs false
def ba6_0 : Array Bool := #[false, false, false, false, false, false, false, false, false, false, false]
def ba6_1 : Array Bool := #[true, false, false, false, false, false, false, false, false, false, false]
def ba6_2 : Array Bool := #[true, false, true, false, false, false, false, false, false, false, false]
def ba6_3 : Array Bool := #[true, false, true, false, true, false, false, false, false, false, false]
def ba6_4 : Array Bool := #[true, true, true, false, true, false, false, false, false, false, false]
def ba6_5 : Array Bool := #[true, true, true, true, true, false, false, false, false, false, false]
def ba6_6 : Array Bool := #[true, true, true, true, true, true, false, false, false, false, false]
def ba6_7 : Array Bool := #[true, true, true, true, true, true, true, false, false, false, false]
def ba6_8 : Array Bool := #[true, true, true, true, true, true, true, true, false, false, false]
def ba6_9 : Array Bool := #[true, true, true, true, true, true, true, true, true, false, false]
def ba6_10 : Array Bool := #[true, true, true, true, true, true, true, true, true, true, false]
def ba6_11 : Array Bool := #[true, true, true, true, true, true, true, true, true, true, true]

/-! ### spec_l02Copy: function 28 -/
def spec_l02Copy.l0 : Nat → Int → List (S43) → List (S43) → Option ((List (S43)))
 | 0, _, _, _ => none
 | k + 1, x4, x172000, x174000 => if x4 < (x172000.length : Int) then (if 0 ≤ x4 then (if x174000.length < 5864062014805 then (spec_l02Copy.l0 k (wrap64 (x4 + 1)) x172000 (x174000 ++ [(⟨(⟨(rd_T43 x172000 x4).f0.f0, (rd_T43 x172000 x4).f0.f1⟩ : S34), (rd_T43 x172000 x4).f1⟩ : S43)])) else (none)) else (none)) else (some x174000)
def spec_l02Copy.f (k : Nat) (l0_0 : List (S43)) : Option ((List (S43))) := spec_l02Copy.l0 k 0 l0_0 ([] : List (S43))
theorem spec_l02Copy.mono_l : ∀ k, (∀ y0 y1 y2, LeO (spec_l02Copy.l0 k y0 y1 y2) (spec_l02Copy.l0 (k + 1) y0 y1 y2))
 | 0 => fun _ _ _ r h => by simp [spec_l02Copy.l0] at h
 | k + 1 => by
  have ih0 := spec_l02Copy.mono_l k
  ·intro y0 y1 y2
   unfold spec_l02Copy.l0
   repeat' first
   | (with_reducible exact ih0 _ _ _)
   | (with_reducible exact LeO.refl _)
   | (with_reducible exact LeO.none _)
   | (with_reducible refine LeO.ite ?_ ?_)
   | (with_reducible refine LeO.bind ?_ (fun _ => ?_))
   | exact ih0 _ _ _
   | exact LeO.none _
   | refine LeO.ite ?_ ?_
   | refine LeO.bind ?_ (fun _ => ?_)
theorem spec_l02Copy.mono : ∀ a0 k, LeO (spec_l02Copy.f k a0) (spec_l02Copy.f (k + 1) a0) := by
 intro a0 k
 have ih0 := spec_l02Copy.mono_l k
 unfold spec_l02Copy.f
 repeat' first
   | (with_reducible exact ih0 _ _ _)
   | (with_reducible exact LeO.refl _)
   | (with_reducible exact LeO.none _)
   | (with_reducible refine LeO.ite ?_ ?_)
   | (with_reducible refine LeO.bind ?_ (fun _ => ?_))
   | exact ih0 _ _ _
   | exact LeO.none _
   | refine LeO.ite ?_ ?_
   | refine LeO.bind ?_ (fun _ => ?_)
def spec_l02Copy.T5 : Bool × List (List Nat × List Nat) := (true, [([], []), ([0], [0]), ([], []), ([2], [2]), ([], []), ([3, 4], [3, 4]), ([5], [5]), ([6], [6]), ([1, 7], [1, 7]), ([0, 1, 2, 3, 4, 5, 6, 7, 8], []), ([9, 8, 8, 0, 1, 2, 3, 4, 5, 6, 7, 8], [8, 9])])
def spec_l02Copy.B5 : List Nat := [0, 1, 0, 4, 0, 28, 60, 124, 255, 511, 1023]
theorem spec_l02Copy.tab5 : rtab .any (opsOf Try.f28 5) = spec_l02Copy.T5 := by kernel_rfl
theorem spec_l02Copy.bits5 : waitsOk spec_l02Copy.T5.2 spec_l02Copy.B5 = true := by kernel_rfl
set_option maxHeartbeats 8000000 in
set_option maxRecDepth 100000 in
theorem spec_l02Copy.calls (k : Nat) (A0_0 : Option Addr) (c0_0 : Nat) (l0_0 : List (S43)) (r : List (S43)) (w : World) (hr0_0 : Kd.C k43 w A0_0 l0_0.length l0_0) (hc0_0 : l0_0.length ≤ c0_0) (h : spec_l02Copy.f k l0_0 = some r) :
  Calls Try.prog 28 #[.agg #[.slice A0_0 l0_0.length c0_0]] w fun e w' => ∃ v0_ : Value, e = .returned (.agg #[v0_]) ∧ Kd.R k43 43 w' w.heap.size (fun _ => True) v0_ r ∧ Below w.heap.size w w' := by
 have hu30 := Try.underlying30
 have hu43 := Try.underlying43
 have HR0_0 := Aside0.mk hr0_0
 have HC0_0 := Aside0.mk hc0_0
 clear hr0_0 hc0_0
 have HB := Aside0.mk (Below.refl w.heap.size w)
 have H : (spec_l02Copy.l0 k 0 l0_0 ([] : List (S43))) = some r := h
 clear h
 have H' := Aside0.mk H
 clear H
 go_enter Try.func28, Try.ntmps28
 go_wp2_with (first | ((with_reducible refine gate_dst (N := 1) rfl ?_); refine box_event ?hg (N := 1) ?hd (cs := #[.slice A0_0 l0_0.length c0_0]) (t := 30) ?hr ?_; (case hd => rfl); (case hg => rfl); (case hr => first | (go_simp; done) | (go_simp; rfl)); intro gb171 hg w2 hbox hb; have BK171 := Aside0.mk hbox; have GW171 := ge_ HB hg; have GE171 := ge_ HB hg; replace HB := Aside0.mk (bt_ HB hb); clear hb hbox hg) | ((with_reducible refine gate_dst (N := 2) rfl ?_); refine box_event ?hg (N := 2) ?hd (cs := #[.slice none 0 0]) (t := 30) ?hr ?_; (case hd => rfl); (case hg => rfl); (case hr => first | (go_simp; done) | (go_simp; rfl)); intro gb172 hg w3 hbox hb; have BK172 := Aside0.mk hbox; have GW172 := ge_ HB hg; have GE172 := ge_ HB hg; have NB171_172 := nl_ BK171 hg; have NB172_171 := ng_ BK171 hg; replace HB := Aside0.mk (bt_ HB hb); replace BK171 := Aside0.mk (bb_ BK171 hb); clear hb hbox hg) | ((with_reducible refine gate_dst (N := 3) rfl ?_); refine box_event ?hg (N := 3) ?hd (cs := #[.slice none 0 0]) (t := 30) ?hr ?_; (case hd => rfl); (case hg => rfl); (case hr => first | (go_simp; done) | (go_simp; rfl)); intro gb173 hg w4 hbox hb; have BK173 := Aside0.mk hbox; have GW173 := ge_ HB hg; have GE173 := ge_ HB hg; have NB171_173 := nl_ BK171 hg; have NB173_171 := ng_ BK171 hg; have NB172_173 := nl_ BK172 hg; have NB173_172 := ng_ BK172 hg; replace HB := Aside0.mk (bt_ HB hb); replace BK171 := Aside0.mk (bb_ BK171 hb); replace BK172 := Aside0.mk (bb_ BK172 hb); clear hb hbox hg; have hnb5 := NB173_171.out; have hnc5 := NB171_173.out; have hnb6 := NB173_172.out; have hnc6 := NB172_173.out; have hcz7_0 := cz_ BK173 0 (.slice none 0 0); have hfz7_0 := blk_frozen BK173.out 0))
 go_loopg [4] k (fun kq v4 w' => ∃ (x4_1 : Int) (x174000_1 : List (S43)) (u174000 : Value), v4 = .int .i64 x4_1 ∧ Aside0 (spec_l02Copy.l0 kq x4_1 l0_0 x174000_1 = some r) ∧ Aside0 (kq ≤ k) ∧ Aside0 (Kd.R k43 43 w' w.heap.size (fun _ => True) u174000 x174000_1) ∧ Aside0 (w'.heap[gb171]? = some (.cells #[(.slice A0_0 l0_0.length c0_0)] 30 (0, 0))) ∧ Aside0 (w'.heap[gb172]? = some (.cells #[(.slice none 0 0)] 30 (0, 0))) ∧ Aside0 (w'.heap[gb173]? = some (.cells #[u174000] 30 (0, 0))) ∧ Aside0 (Below w.heap.size w w'))
 case atStart => exact ⟨(0), (([] : List (S43))), (.slice none 0 0), (by first | rfl | (simp; done) | (simp [*]; done)), H', ⟨Nat.le_refl _⟩, ⟨by first | exact Kd.R_nil _ _ _ _ _ | exact Kd.N_nil _ _ _ _ _ | exact Kd.V_nil _ _ _ _ _ | exact Kd.Q_nil _ _ _ _ _ | exact Kd.S_nil _ _ _ _ _⟩, ⟨by (with_reducible repeat (first | refine blk_drewN ?_ _ | refine blk_drew ?_ | refine blk_alloc ?_ _)); refine blk_far ?_ NB171_173.out _; (with_reducible repeat (first | refine blk_drewN ?_ _ | refine blk_drew ?_ | refine blk_alloc ?_ _)); exact BK171.out⟩, ⟨by (with_reducible repeat (first | refine blk_drewN ?_ _ | refine blk_drew ?_ | refine blk_alloc ?_ _)); refine blk_far ?_ NB172_173.out _; (with_reducible repeat (first | refine blk_drewN ?_ _ | refine blk_drew ?_ | refine blk_alloc ?_ _)); exact BK172.out⟩, ⟨by (with_reducible repeat (first | refine blk_drewN ?_ _ | refine blk_drew ?_ | refine blk_alloc ?_ _)); refine blk_put (cs := #[.slice none 0 0]) ?_ 0 _ rfl; (with_reducible repeat (first | refine blk_drewN ?_ _ | refine blk_drew ?_ | refine blk_alloc ?_ _)); exact BK173.out⟩, ⟨by repeat (first | (with_reducible first | exact HB.out | apply below_alloc | apply pw_below_drewN | apply below_drew1 | refine below_set ?_ GE171.out | refine below_set ?_ GE172.out | refine below_set ?_ GE173.out) | exact HB.out)⟩⟩
 case round =>
  clear H'
  try clear c2
  try clear p2
  try clear c5
  try clear c6
  try clear hcz7_0
  try clear hfz7_0
  obtain ⟨x4_1, x174000_1, u174000, rfl, HA, HK1, HO_174000, BK171, BK172, BK173, HB⟩ := hrel
  cases gk with
  | zero => exact absurd HA.out (by simp [spec_l02Copy.l0])
  | succ k1 =>
   have H := HA.out
   clear HA
   simp only [spec_l02Copy.l0] at H
   by_cases c8 : x4_1 < (l0_0.length : Int)
   ·rw [if_pos c8] at H
    have c8b0 : decide (x4_1 < (l0_0.length : Int)) = true := decide_eq_true c8
    clear c8
    by_cases c9 : 0 ≤ x4_1
    ·rw [if_pos c9] at H
     have c9b0 : decide (0 ≤ x4_1) = true := decide_eq_true c9
     clear c9
     by_cases c10 : x174000_1.length < 5864062014805
     ·rw [if_pos c10] at H
      have LMc10 := Aside0.mk c10
      clear c10
      obtain ⟨y175, hy175⟩ : ∃ y_ : List (S43), y_ = (x174000_1 ++ [(⟨(⟨(rd_T43 l0_0 x4_1).f0.f0, (rd_T43 l0_0 x4_1).f0.f1⟩ : S34), (rd_T43 l0_0 x4_1).f1⟩ : S43)]) := ⟨_, rfl⟩
      replace H : (spec_l02Copy.l0 k1 (wrap64 (x4_1 + 1)) l0_0 y175) = some r := by first | (rw [hy175]; with_reducible exact H) | (have H2_ := (Option.bind_some _ _).symm.trans H; rw [hy175]; with_reducible exact H2_) | (have H2_ := (Option.bind_some _ _).symm.trans H; with_reducible exact H2_) | with_reducible exact H | (rw [hy175]; exact H) | exact H
      have Ny175 := Aside0.mk hy175
      clear hy175
      have H' := Aside0.mk H
      clear H
      have hnb11 := NB171_172.out
      have hnc11 := NB172_171.out
      have hnb12 := NB171_173.out
      have hnc12 := NB173_171.out
      have hcz13_0 := cz_ BK171 0 (.slice A0_0 l0_0.length c0_0)
      have hfz13_0 := blk_frozen BK171.out 0
      try go_wp2
      replace HO_174000 := Aside0.mk (Kd.R_drew HO_174000.out)
      replace BK171 := Aside0.mk (blk_drew BK171.out)
      replace BK172 := Aside0.mk (blk_drew BK172.out)
      replace BK173 := Aside0.mk (blk_drew BK173.out)
      replace HB := Aside0.mk (below_drew1 HB.out)
      have p174 : 0 ≤ (x4_1 : Int) := of_decide_eq_true (by first | (with_reducible assumption) | assumption)
      have q174 : x4_1 < (l0_0.length : Int) := of_decide_eq_true (by first | (with_reducible assumption) | assumption)
      obtain ⟨ad174, e174, hx174_0, hx174_1, hx174_2⟩ := at_T43 HR0_0.out x4_1 p174 q174
      have hw174_2 := hx174_2
      have hw174_1 := hx174_1
      have hw174_0 := hx174_0
      cases e174
      replace hx174_0 := (HB.out.cell (World.block_lt_of_cell? w _ hx174_0)).trans hx174_0
      replace hx174_1 := (HB.out.cell (World.block_lt_of_cell? w _ hx174_1)).trans hx174_1
      replace hx174_2 := (HB.out.cell (World.block_lt_of_cell? w _ hx174_2)).trans hx174_2
      replace p174 := eq_true p174
      replace q174 := eq_true q174
      refine start_ (n := 11) (S := fun w' => w'.cell? ⟨gb173, 0, none⟩ = some (u174000) ∧ w'.cell? ⟨gb171, 0, none⟩ = some (.slice (some ad174) l0_0.length c0_0) ∧ w'.cell? (ad174.add ((x4_1).toNat * 3)) = some (.int .i64 ((rd_T43 l0_0 x4_1).f0.f0)) ∧ w'.cell? ⟨(ad174.add ((x4_1).toNat * 3)).block, (ad174.add ((x4_1).toNat * 3)).off + 1, none⟩ = some (.int .i64 ((rd_T43 l0_0 x4_1).f0.f1)) ∧ w'.cell? ⟨(ad174.add ((x4_1).toNat * 3)).block, (ad174.add ((x4_1).toNat * 3)).off + 2, none⟩ = some (.int .i64 ((rd_T43 l0_0 x4_1).f1))) (ds := [10]) ba6_0 (by kernel_rfl) rfl rfl ⟨(blk_cell BK173.out 0).trans rfl, (blk_cell BK171.out 0).trans rfl, (hc_ HB hw174_0), (hc_ HB hw174_1), (hc_ HB hw174_2)⟩ (fun hHeld => ?_); refine with_tabW spec_l02Copy.tab5 spec_l02Copy.bits5 (fun HT_ HW_ => ?_)
      generalize wr.drew = w14 at HO_174000 BK171 BK172 BK173 HB hx174_0 hx174_1 hx174_2 hHeld ⊢
      refine pz_ 0 13 ba6_1 HT_ ?_
      refine pz_ 2 15 ba6_2 HT_ ?_
      refine pz_ 4 17 ba6_3 HT_ ?_
      refine pt_ 1 14 ba6_4 HT_ HW_ hHeld ?_
      refine pt_ 3 16 ba6_5 HT_ HW_ hHeld ?_
      refine pz_ 5 18 ba6_6 HT_ ?_
      refine pt_ 6 19 ba6_7 HT_ HW_ hHeld ?_
      refine one_ (i := 7) (N := some 20) ba6_8 rfl rfl (one_of HT_.out (by kernel_rfl)) (by decide) (fun K hK => ?_)
      refine value_ (w1 := ?_) (v := ?_) (by rfl) rfl ?_ ?_
      rotate_left 2
      ·go_simp
       constructor
       ·rfl
       ·rfl
      refine hK.out _ _ ⟨(blk_cell (blk_alloc BK173.out _) 0).trans rfl, (blk_cell (blk_alloc BK171.out _) 0).trans rfl, (World.cell?_alloc_lt _ _ _ (World.block_lt_of_cell? _ _ ((hc_ HB hw174_0)))).trans ((hc_ HB hw174_0)), (World.cell?_alloc_lt _ _ _ (World.block_lt_of_cell? _ _ ((hc_ HB hw174_1)))).trans ((hc_ HB hw174_1)), (World.cell?_alloc_lt _ _ _ (World.block_lt_of_cell? _ _ ((hc_ HB hw174_2)))).trans ((hc_ HB hw174_2))⟩ (fun hHeld => ?_)
      clear hK K
      refine nz_ 20 ?_
      refine one_ (i := 8) (N := some 21) ba6_9 rfl rfl (one_of HT_.out (by kernel_rfl)) (by decide) (fun K hK => ?_)
      refine Kd.R_append_step k43 (w0 := w) w.heap.size (by rfl) (.tmp 14) (.tmp 20) 28 43 (.agg #[(.int .i64 0), (.int .i64 0), (.int .i64 0)]) 24 rfl Try.underlying28 info43 rfl (by decide) (by omega) u174000 x174000_1 (⟨(⟨(rd_T43 l0_0 x4_1).f0.f0, (rd_T43 l0_0 x4_1).f0.f1⟩ : S34), (rd_T43 l0_0 x4_1).f1⟩ : S43) [.int .i64 ((rd_T43 l0_0 x4_1).f0.f0), .int .i64 ((rd_T43 l0_0 x4_1).f0.f1), .int .i64 ((rd_T43 l0_0 x4_1).f1)] (fun _ => True) (fun _ => False) rfl rfl ?aP (fun _ hk => hk.elim) ?aF ?aO ?aB ?aS ?aL ?_
      (case aP => exact k43_mkM _ _ _ (⟨(⟨(rd_T43 l0_0 x4_1).f0.f0, (rd_T43 l0_0 x4_1).f0.f1⟩ : S34), (rd_T43 l0_0 x4_1).f1⟩ : S43))
      (case aB => exact (by repeat (first | (with_reducible first | exact HB.out | apply below_alloc | apply pw_below_drewN | apply below_drew1 | refine below_set ?_ GE171.out | refine below_set ?_ GE172.out | refine below_set ?_ GE173.out) | exact HB.out)))
      (case aF => exact (fun _ _ => trivial))
      (case aO => exact (hd_ HO_174000))
      (case aS => exact (bz_ HB))
      (case aL => have := LMc10.out; omega)
      intro v176 w15 ho hb hg hat
      rw [← Ny175.out] at ho
      have HO177 := Aside0.mk ho
      replace BK171 := Aside0.mk (blk_grown (g := gb171) (o := .cells #[.slice (some ad174) l0_0.length c0_0] 30 (0, 0)) (by (with_reducible repeat (first | refine blk_drewN ?_ _ | refine blk_drew ?_ | refine blk_alloc ?_ _)); exact BK171.out) hg (Kd.R_ne HO_174000.out BK171.out (by decide)))
      replace BK172 := Aside0.mk (blk_grown (g := gb172) (o := .cells #[.slice none 0 0] 30 (0, 0)) (by (with_reducible repeat (first | refine blk_drewN ?_ _ | refine blk_drew ?_ | refine blk_alloc ?_ _)); exact BK172.out) hg (Kd.R_ne HO_174000.out BK172.out (by decide)))
      replace BK173 := Aside0.mk (blk_grown (g := gb173) (o := .cells #[u174000] 30 (0, 0)) (by (with_reducible repeat (first | refine blk_drewN ?_ _ | refine blk_drew ?_ | refine blk_alloc ?_ _)); exact BK173.out) hg (Kd.R_ne HO_174000.out BK173.out (by decide)))
      replace HB := Aside0.mk (hb)
      clear HO_174000
      clear ho hb hg hat
      obtain ⟨Ao16, co16, eo16⟩ := Kd.R_slice HO177.out
      (first | subst eo16 | (injection eo16 with f1_ f2_ f3_; have f4_ := f1_.symm; have f5_ := f3_.symm; clear f1_ f2_ f3_; subst f4_; subst f5_))
      refine hK.out _ _ ⟨(blk_cell BK173.out 0).trans rfl, (blk_cell BK171.out 0).trans rfl, (hc_ HB hw174_0), (hc_ HB hw174_1), (hc_ HB hw174_2)⟩ (fun hHeld => ?_)
      clear hK K
      refine nz_ 21 ?_
      refine pz_ 9 22 ba6_10 HT_ ?_
      refine last_ (i := 10) (N := none) ba6_11 rfl rfl (one_of HT_.out (by kernel_rfl)) (by decide) (fun K hK => ?_)
      have hs17 : w15.cell? ⟨gb173, 0, none⟩ = some (u174000) := (blk_cell BK173.out 0).trans rfl
      have hfs17 := blk_frozen BK173.out 0
      have hns17_0 := NB171_173.out
      have hns17_1 := NB172_173.out
      have hms17_0 := NB173_171.out
      have hms17_1 := NB173_172.out
      refine skip_ (w1 := ?_) (by rfl) rfl ?_ ?_
      rotate_left; · go_simp; rfl
      refine hK.out _ _ ?_
      clear hK K
      refine done_ (done_of HT_.out (by kernel_rfl)) ?_
      try go_wp2
      go_roundg k1
      case measure => have := HK1.out; omega
      case rel => exact ⟨(wrap64 (x4_1 + 1)), (y175), (.slice Ao16 y175.length co16), (by first | rfl | (simp; done) | (simp [*]; done)), H', ⟨by have := HK1.out; omega⟩, ⟨by (with_reducible repeat (first | apply Kd.R_alloc | apply Kd.R_drewN | apply Kd.R_drew)); exact Kd.R_mono (Kd.R_far (p := ⟨gb173, 0, none⟩) (Kd.R_types HO177.out BK173.out (by decide)) (fun _ hk => hk.2) (.slice Ao16 y175.length co16)) (fun _ hk => trivial)⟩, ⟨by (with_reducible repeat (first | refine blk_drewN ?_ _ | refine blk_drew ?_ | refine blk_alloc ?_ _)); refine blk_far ?_ NB171_173.out _; (with_reducible repeat (first | refine blk_drewN ?_ _ | refine blk_drew ?_ | refine blk_alloc ?_ _)); exact BK171.out⟩, ⟨by (with_reducible repeat (first | refine blk_drewN ?_ _ | refine blk_drew ?_ | refine blk_alloc ?_ _)); refine blk_far ?_ NB172_173.out _; (with_reducible repeat (first | refine blk_drewN ?_ _ | refine blk_drew ?_ | refine blk_alloc ?_ _)); exact BK172.out⟩, ⟨by (with_reducible repeat (first | refine blk_drewN ?_ _ | refine blk_drew ?_ | refine blk_alloc ?_ _)); refine blk_put (cs := #[u174000]) ?_ 0 _ rfl; (with_reducible repeat (first | refine blk_drewN ?_ _ | refine blk_drew ?_ | refine blk_alloc ?_ _)); exact BK173.out⟩, ⟨by repeat (first | (with_reducible first | exact HB.out | apply below_alloc | apply pw_below_drewN | apply below_drew1 | refine below_set ?_ GE171.out | refine below_set ?_ GE172.out | refine below_set ?_ GE173.out) | exact HB.out)⟩⟩
     ·rw [if_neg c10] at H
      exact absurd H (by simp)
    ·rw [if_neg c9] at H
     exact absurd H (by simp)
   ·rw [if_neg c8] at H
    have c8b0 : decide (x4_1 < (l0_0.length : Int)) = false := decide_eq_false c8
    clear c8
    obtain rfl := Option.some.inj H
    have hnb18 := NB171_172.out
    have hnc18 := NB172_171.out
    have hnb19 := NB171_173.out
    have hnc19 := NB173_171.out
    have hcz20_0 := cz_ BK171 0 (.slice A0_0 l0_0.length c0_0)
    have hfz20_0 := blk_frozen BK171.out 0
    have hnb21 := NB173_172.out
    have hnc21 := NB172_173.out
    have hcz22_0 := cz_ BK173 0 (u174000)
    have hfz22_0 := blk_frozen BK173.out 0
    obtain ⟨Ao23, co23, eo23⟩ := Kd.R_slice HO_174000.out
    subst eo23
    have hcz24_0 := cz_ BK172 0 (.slice none 0 0)
    have hfz24_0 := blk_frozen BK172.out 0
    go_wp2
    refine bodyPost_ret (results_cell_row rfl _ _ gb172 30 #[.slice Ao23 x174000_1.length co23] (0, 0) _ rfl (by (with_reducible repeat (first | refine blk_drewN ?_ _ | refine blk_drew ?_ | refine blk_alloc ?_ _)); refine blk_put (cs := #[.slice none 0 0]) ?_ 0 _ rfl; (with_reducible repeat (first | refine blk_drewN ?_ _ | refine blk_drew ?_ | refine blk_alloc ?_ _)); exact BK172.out) Try.underlying30 rfl (by kernel_rfl)) rfl ?_
    exact ⟨_, by first | rfl | (simp [errW_none, errW_some] <;> rfl) | (simp [*, errW_none, errW_some] <;> rfl), by (with_reducible repeat (first | apply Kd.R_alloc | apply Kd.R_drewN | apply Kd.R_drew)); exact Kd.R_mono (Kd.R_far (p := ⟨gb172, 0, none⟩) (Kd.R_types HO_174000.out BK172.out (by decide)) (fun _ hk => hk.2) (.slice Ao23 x174000_1.length co23)) (fun _ hk => trivial), by repeat (first | (with_reducible first | exact HB.out | apply below_alloc | apply pw_below_drewN | apply below_drew1 | refine below_set ?_ GE171.out | refine below_set ?_ GE172.out | refine below_set ?_ GE173.out) | exact HB.out)⟩

end Go.Proofs.Ytflfbaofgfandaa.QFnExactPutRoute
