/- Contracts of functions that the law reaches: what each call returns and what it leaves in memory. Made by this session over the print of the kit. -/
import Derived.Test.YtjepmdngbafonaaQFnRoutesx0
import Derived.Test.YtjepmdngbafonaaQFnRoutesx1
import Derived.Test.YtjepmdngbafonaaQFnRoutesx2
namespace Go.Proofs.Ytjepmdngbafonaa.QFnRoutes
open Go.RowKit Go.Proofs.YtjepmdngbafonaaR.PrintWords Go.Proofs.YtjepmdngbafonaaR.PrintLast Go.Proofs.YtjepmdngbafonaaR.PrintMore
attribute [local go_sem] max2_int min2_int max_two min_two max_three min_three max_four min_four   -- for this text's walks alone
set_option linter.unusedVariables false
set_option linter.unusedSimpArgs false
def ba4_0 : Array Bool := bs_ 11 0
def ba4_1 : Array Bool := bs_ 11 1
def ba4_2 : Array Bool := bs_ 11 5
def ba4_3 : Array Bool := bs_ 11 21
def ba4_4 : Array Bool := bs_ 11 23
def ba4_5 : Array Bool := bs_ 11 31
def ba4_6 : Array Bool := bs_ 11 63
def ba4_7 : Array Bool := bs_ 11 127
def ba4_8 : Array Bool := bs_ 11 255
def ba4_9 : Array Bool := bs_ 11 511
def ba4_10 : Array Bool := bs_ 11 1023
def ba4_11 : Array Bool := bs_ 11 2047
def ba4_12 : Array Bool := bs_ 8 0
def ba4_13 : Array Bool := bs_ 8 1
def ba4_14 : Array Bool := bs_ 8 5
def ba4_15 : Array Bool := bs_ 8 7
def ba4_16 : Array Bool := bs_ 8 15
def ba4_17 : Array Bool := bs_ 8 31
def ba4_18 : Array Bool := bs_ 8 63
def ba4_19 : Array Bool := bs_ 8 127
def ba4_20 : Array Bool := bs_ 8 255

attribute [local go_sem high] eqA28
/-! ### spec_l02Copy: function 45 -/
def spec_l02Copy.l0 : Nat → Int → List (S30) → List (S30) → Option ((List (S30)))
 | 0, _, _, _ => none
 | k + 1, x4, x133000, x135000 => if x4 < (x133000.length : Int) then (if 0 ≤ x4 then (if x135000.length < 5864062014805 then (spec_l02Copy.l0 k (wrap64 (x4 + 1)) x133000 (x135000 ++ [(⟨(⟨(rd_T30 x133000 x4).f0.f0, (rd_T30 x133000 x4).f0.f1⟩ : S28), (rd_T30 x133000 x4).f1⟩ : S30)])) else (none)) else (none)) else (some x135000)
def spec_l02Copy.f (k : Nat) (l0_0 : List (S30)) : Option ((List (S30))) := spec_l02Copy.l0 k 0 l0_0 ([] : List (S30))
theorem spec_l02Copy.mono_l : ∀ k, (∀ y0 y1 y2, LeO (spec_l02Copy.l0 k y0 y1 y2) (spec_l02Copy.l0 (k + 1) y0 y1 y2))
 | 0 => fun _ _ _ r h => by simp [spec_l02Copy.l0] at h
 | k + 1 => by
  have ih0 := spec_l02Copy.mono_l k
  ·intro y0 y1 y2
   unfold spec_l02Copy.l0
   repeat' first | (with_reducible first | exact ih0 _ _ _ | exact LeO.refl _ | exact LeO.none _ | refine LeO.ite ?_ ?_ | refine LeO.bind ?_ (fun _ => ?_)) | exact ih0 _ _ _ | exact LeO.none _ | refine LeO.ite ?_ ?_ | refine LeO.bind ?_ (fun _ => ?_)
theorem spec_l02Copy.mono : ∀ a0 k, LeO (spec_l02Copy.f k a0) (spec_l02Copy.f (k + 1) a0) := by
 intro a0 k
 have ih0 := spec_l02Copy.mono_l k
 unfold spec_l02Copy.f
 repeat' first | (with_reducible first | exact ih0 _ _ _ | exact LeO.refl _ | exact LeO.none _ | refine LeO.ite ?_ ?_ | refine LeO.bind ?_ (fun _ => ?_)) | exact ih0 _ _ _ | exact LeO.none _ | refine LeO.ite ?_ ?_ | refine LeO.bind ?_ (fun _ => ?_)
def spec_l02Copy.T5 : Bool × List (List Nat × List Nat) := (true, [([], []), ([0], [0]), ([], []), ([2], [2]), ([], []), ([3, 4], [3, 4]), ([5], [5]), ([6], [6]), ([1, 7], [1, 7]), ([0, 1, 2, 3, 4, 5, 6, 7, 8], []), ([9, 8, 8, 0, 1, 2, 3, 4, 5, 6, 7, 8], [8, 9])])
def spec_l02Copy.B5 : List Nat := [0, 1, 0, 4, 0, 28, 60, 124, 255, 511, 1023]
theorem spec_l02Copy.tab5 : rtab .any (opsOf Try.f45 5) = spec_l02Copy.T5 := by kernel_rfl
theorem spec_l02Copy.bits5 : waitsOk spec_l02Copy.T5.2 spec_l02Copy.B5 = true := by kernel_rfl
set_option maxHeartbeats 8000000 in
set_option maxRecDepth 100000 in
theorem spec_l02Copy.calls (k : Nat) (A0_0 : Option Addr) (c0_0 : Nat) (l0_0 : List (S30)) (r : List (S30)) (w : World) (hr0_0 : Kd.C k30 w A0_0 l0_0.length l0_0) (hc0_0 : l0_0.length ≤ c0_0) (h : spec_l02Copy.f k l0_0 = some r) :
  Calls Try.prog 45 #[.agg #[.slice A0_0 l0_0.length c0_0]] w fun e w' => ∃ v0_ : Value, e = .returned (.agg #[v0_]) ∧ Kd.R k30 30 w' w.heap.size (fun _ => True) v0_ r ∧ Below w.heap.size w w' := by
 have hu26 := Try.underlying26
 have hu30 := Try.underlying30
 have HR0_0 := Aside0.mk hr0_0
 have HC0_0 := Aside0.mk hc0_0
 clear hr0_0 hc0_0
 have HB := Aside0.mk (Below.refl w.heap.size w)
 have H : (spec_l02Copy.l0 k 0 l0_0 ([] : List (S30))) = some r := h
 clear h
 have H' := Aside0.mk H
 clear H
 go_enter Try.func45, Try.ntmps45
 go_wp2_with (first | ((with_reducible refine gate_dst (N := 1) rfl ?_); refine box_event ?hg (N := 1) ?hd (cs := #[.slice A0_0 l0_0.length c0_0]) (t := 26) ?hr ?_; (case hd => rfl); (case hg => rfl); (case hr => first | (go_simp; done) | (go_simp; rfl)); intro gb132 hg w2 hbox hb; have BK132 := Aside0.mk hbox; have GW132 := ge_ HB hg; have GE132 := ge_ HB hg; replace HB := at_ HB hb; clear hb hbox hg) | ((with_reducible refine gate_dst (N := 2) rfl ?_); refine box_event ?hg (N := 2) ?hd (cs := #[.slice none 0 0]) (t := 26) ?hr ?_; (case hd => rfl); (case hg => rfl); (case hr => first | (go_simp; done) | (go_simp; rfl)); intro gb133 hg w3 hbox hb; have BK133 := Aside0.mk hbox; have GW133 := ge_ HB hg; have GE133 := ge_ HB hg; have NB132_133 := nl_ BK132 hg; have NB133_132 := ng_ BK132 hg; replace HB := at_ HB hb; replace BK132 := ab_ BK132 hb; clear hb hbox hg) | ((with_reducible refine gate_dst (N := 3) rfl ?_); refine box_event ?hg (N := 3) ?hd (cs := #[.slice none 0 0]) (t := 26) ?hr ?_; (case hd => rfl); (case hg => rfl); (case hr => first | (go_simp; done) | (go_simp; rfl)); intro gb134 hg w4 hbox hb; have BK134 := Aside0.mk hbox; have GW134 := ge_ HB hg; have GE134 := ge_ HB hg; have NB132_134 := nl_ BK132 hg; have NB134_132 := ng_ BK132 hg; have NB133_134 := nl_ BK133 hg; have NB134_133 := ng_ BK133 hg; replace HB := at_ HB hb; replace BK132 := ab_ BK132 hb; replace BK133 := ab_ BK133 hb; clear hb hbox hg; have hnb5 := NB134_132.out; have hnc5 := NB132_134.out; have hnb6 := NB134_133.out; have hnc6 := NB133_134.out; have hcz7_0 := cz_ BK134 0 (.slice none 0 0); have hfz7_0 := fz_ BK134 0))
 go_loopg [4] k (fun kq v4 w' => ∃ (x4_1 : Int) (x135000_1 : List (S30)) (u135000 : Value), v4 = .int .i64 x4_1 ∧ Aside0 (spec_l02Copy.l0 kq x4_1 l0_0 x135000_1 = some r) ∧ Aside0 (kq ≤ k) ∧ Aside0 (Kd.R k30 30 w' w.heap.size (fun _ => True) u135000 x135000_1) ∧ Aside0 (w'.heap[gb132]? = some (.cells #[(.slice A0_0 l0_0.length c0_0)] 26 (0, 0))) ∧ Aside0 (w'.heap[gb133]? = some (.cells #[(.slice none 0 0)] 26 (0, 0))) ∧ Aside0 (w'.heap[gb134]? = some (.cells #[u135000] 26 (0, 0))) ∧ Aside0 (Below w.heap.size w w'))
 case atStart => exact ⟨(0), (([] : List (S30))), (.slice none 0 0), er_, H', ⟨Nat.le_refl _⟩, ⟨by first | exact Kd.R_nil _ _ _ _ _ | exact Kd.N_nil _ _ _ _ _ | exact Kd.V_nil _ _ _ _ _ | exact Kd.Q_nil _ _ _ _ _ | exact Kd.S_nil _ _ _ _ _⟩, ⟨bc_ BK132⟩, ⟨bc_ BK133⟩, ⟨by refine bd_ ?_; refine blk_put (cs := #[.slice none 0 0]) ?_ 0 _ rfl; refine bd_ ?_; exact BK134.out⟩, ⟨bw112_⟩⟩
 case round =>
  clear H'
  try clear p2
  try clear c4
  try clear c5
  try clear c6
  try clear hcz7_0
  try clear hfz7_0
  obtain ⟨x4_1, x135000_1, u135000, rfl, HA, HK1, HO_135000, BK132, BK133, BK134, HB⟩ := hrel
  cases gk with
  | zero => exact absurd HA.out (by simp [spec_l02Copy.l0])
  | succ k1 =>
   have H := HA.out
   clear HA
   simp only [spec_l02Copy.l0] at H
   by_cases c8 : x4_1 < (l0_0.length : Int)
   rotate_left
   ·rw [if_neg c8] at H
    have c8b0 : decide (x4_1 < (l0_0.length : Int)) = false := decide_eq_false c8
    clear c8
    obtain rfl := Option.some.inj H
    have hnb18 := NB132_133.out
    have hnc18 := NB133_132.out
    have hnb19 := NB132_134.out
    have hnc19 := NB134_132.out
    have hcz20_0 := cz_ BK132 0 (.slice A0_0 l0_0.length c0_0)
    have hfz20_0 := fz_ BK132 0
    have hnb21 := NB134_133.out
    have hnc21 := NB133_134.out
    have hcz22_0 := cz_ BK134 0 (u135000)
    have hfz22_0 := fz_ BK134 0
    obtain ⟨Ao23, co23, eo23⟩ := Kd.R_slice HO_135000.out
    subst eo23
    have hcz24_0 := cz_ BK133 0 (.slice none 0 0)
    have hfz24_0 := fz_ BK133 0
    go_wp2
    refine bodyPost_ret (results_cell_row rfl _ _ gb133 26 #[.slice Ao23 x135000_1.length co23] (0, 0) _ rfl (by refine bd_ ?_; refine blk_put (cs := #[.slice none 0 0]) ?_ 0 _ rfl; refine bd_ ?_; exact BK133.out) Try.underlying26 rfl (by kernel_rfl)) rfl ?_
    exact ⟨_, by first | rfl | (simp [errW_none, errW_some] <;> rfl) | (simp [*, errW_none, errW_some] <;> rfl), by (with_reducible repeat (first | apply Kd.R_alloc | apply Kd.R_drewN | apply Kd.R_drew)); exact Kd.R_mono (Kd.R_far (p := ⟨gb133, 0, none⟩) (Kd.R_types HO_135000.out BK133.out (by decide)) (fun _ hk => hk.2) (.slice Ao23 x135000_1.length co23)) (fun _ hk => trivial), bw112_⟩
   rw [if_pos c8] at H
   have c8b0 : decide (x4_1 < (l0_0.length : Int)) = true := decide_eq_true c8
   clear c8
   obtain ⟨c9b0, H⟩ := iq_ H
   by_cases c10 : x135000_1.length < 5864062014805
   rotate_left
   ·rw [if_neg c10] at H
    exact absurd H (by simp)
   rw [if_pos c10] at H
   have LMc10 := Aside0.mk c10
   clear c10
   obtain ⟨y136, hy136⟩ : ∃ y_ : List (S30), y_ = (x135000_1 ++ [(⟨(⟨(rd_T30 l0_0 x4_1).f0.f0, (rd_T30 l0_0 x4_1).f0.f1⟩ : S28), (rd_T30 l0_0 x4_1).f1⟩ : S30)]) := ⟨_, rfl⟩
   replace H : (spec_l02Copy.l0 k1 (wrap64 (x4_1 + 1)) l0_0 y136) = some r := by first | (rw [hy136]; with_reducible exact H) | (have H2_ := (Option.bind_some _ _).symm.trans H; rw [hy136]; with_reducible exact H2_) | (have H2_ := (Option.bind_some _ _).symm.trans H; with_reducible exact H2_) | with_reducible exact H | (rw [hy136]; exact H) | exact H
   have Ny136 := Aside0.mk hy136
   clear hy136
   have H' := Aside0.mk H
   clear H
   have hnb11 := NB132_133.out
   have hnc11 := NB133_132.out
   have hnb12 := NB132_134.out
   have hnc12 := NB134_132.out
   have hcz13_0 := cz_ BK132 0 (.slice A0_0 l0_0.length c0_0)
   have hfz13_0 := fz_ BK132 0
   try go_wp2
   replace HO_135000 := Aside0.mk (Kd.R_drew HO_135000.out)
   replace BK132 := ad_ BK132
   replace BK133 := ad_ BK133
   replace BK134 := ad_ BK134
   replace HB := Aside0.mk (below_drew1 HB.out)
   have p135 : 0 ≤ (x4_1 : Int) := oa_
   have q135 : x4_1 < (l0_0.length : Int) := oa_
   obtain ⟨ad135, e135, hx135_0, hx135_1, hx135_2⟩ := at_T30 HR0_0.out x4_1 p135 q135
   have hw135_2 := hx135_2
   have hw135_1 := hx135_1
   have hw135_0 := hx135_0
   cases e135
   replace hx135_0 := (HB.out.cell (World.block_lt_of_cell? w _ hx135_0)).trans hx135_0
   replace hx135_1 := (HB.out.cell (World.block_lt_of_cell? w _ hx135_1)).trans hx135_1
   replace hx135_2 := (HB.out.cell (World.block_lt_of_cell? w _ hx135_2)).trans hx135_2
   replace p135 := eq_true p135
   replace q135 := eq_true q135
   refine start_ (n := 11) (S := fun w' => w'.cell? ⟨gb134, 0, none⟩ = some (u135000) ∧ w'.cell? ⟨gb132, 0, none⟩ = some (.slice (some ad135) l0_0.length c0_0) ∧ w'.cell? (ad135.add ((x4_1).toNat * 3)) = some (.int .i64 ((rd_T30 l0_0 x4_1).f0.f0)) ∧ w'.cell? ⟨(ad135.add ((x4_1).toNat * 3)).block, (ad135.add ((x4_1).toNat * 3)).off + 1, none⟩ = some (.int .i64 ((rd_T30 l0_0 x4_1).f0.f1)) ∧ w'.cell? ⟨(ad135.add ((x4_1).toNat * 3)).block, (ad135.add ((x4_1).toNat * 3)).off + 2, none⟩ = some (.int .i64 ((rd_T30 l0_0 x4_1).f1))) (ds := [10]) ba4_0 (by kernel_rfl) rfl rfl ⟨(blk_cell BK134.out 0).trans rfl, (blk_cell BK132.out 0).trans rfl, (hc_ HB hw135_0), (hc_ HB hw135_1), (hc_ HB hw135_2)⟩ (fun hHeld => ?_); refine with_tabW spec_l02Copy.tab5 spec_l02Copy.bits5 (fun HT_ HW_ => ?_)
   generalize wr.drew = w14 at HO_135000 BK132 BK133 BK134 HB hx135_0 hx135_1 hx135_2 hHeld ⊢
   refine pz_ 0 13 ba4_1 HT_ ?_
   refine pz_ 2 15 ba4_2 HT_ ?_
   refine pz_ 4 17 ba4_3 HT_ ?_
   refine pt_ 1 14 ba4_4 HT_ HW_ hHeld ?_
   refine pt_ 3 16 ba4_5 HT_ HW_ hHeld ?_
   refine pz_ 5 18 ba4_6 HT_ ?_
   refine pt_ 6 19 ba4_7 HT_ HW_ hHeld ?_
   refine one_ (i := 7) (N := some 20) ba4_8 rfl rfl (one_of HT_.out (by kernel_rfl)) (by decide) (fun K hK => ?_)
   refine value_ (w1 := ?_) (v := ?_) (by rfl) rfl ?_ ?_
   rotate_left 2
   ·go_simp
    constructor
    ·rfl
    ·rfl
   refine hK.out _ _ ⟨(blk_cell (blk_alloc BK134.out _) 0).trans rfl, (blk_cell (blk_alloc BK132.out _) 0).trans rfl, (World.cell?_alloc_lt _ _ _ (World.block_lt_of_cell? _ _ ((hc_ HB hw135_0)))).trans ((hc_ HB hw135_0)), (World.cell?_alloc_lt _ _ _ (World.block_lt_of_cell? _ _ ((hc_ HB hw135_1)))).trans ((hc_ HB hw135_1)), (World.cell?_alloc_lt _ _ _ (World.block_lt_of_cell? _ _ ((hc_ HB hw135_2)))).trans ((hc_ HB hw135_2))⟩ (fun hHeld => ?_)
   clear hK K
   refine nz_ 20 ?_
   refine one_ (i := 8) (N := some 21) ba4_9 rfl rfl (one_of HT_.out (by kernel_rfl)) (by decide) (fun K hK => ?_)
   refine Kd.R_append_step k30 (w0 := w) w.heap.size (by rfl) (.tmp 14) (.tmp 20) 24 30 (.agg #[(.int .i64 0), (.int .i64 0), (.int .i64 0)]) 24 rfl Try.underlying24 info30 rfl (by decide) (by omega) u135000 x135000_1 (⟨(⟨(rd_T30 l0_0 x4_1).f0.f0, (rd_T30 l0_0 x4_1).f0.f1⟩ : S28), (rd_T30 l0_0 x4_1).f1⟩ : S30) [.int .i64 ((rd_T30 l0_0 x4_1).f0.f0), .int .i64 ((rd_T30 l0_0 x4_1).f0.f1), .int .i64 ((rd_T30 l0_0 x4_1).f1)] (fun _ => True) (fun _ => False) rfl rfl ?aP (fun _ hk => hk.elim) ?aF ?aO ?aB ?aS ?aL ?_
   (case aP => exact k30_mkM _ _ _ (⟨(⟨(rd_T30 l0_0 x4_1).f0.f0, (rd_T30 l0_0 x4_1).f0.f1⟩ : S28), (rd_T30 l0_0 x4_1).f1⟩ : S30))
   (case aB => exact (bw112_))
   (case aF => exact (fun _ _ => trivial))
   (case aO => exact (hd_ HO_135000))
   (case aS => exact (bz_ HB))
   (case aL => have := LMc10.out; omega)
   intro v137 w15 ho hb hg hat
   rw [← Ny136.out] at ho
   have HO138 := Aside0.mk ho
   replace BK132 := Aside0.mk (blk_grown (g := gb132) (o := .cells #[.slice (some ad135) l0_0.length c0_0] 26 (0, 0)) (bx_ BK132) hg (Kd.R_ne HO_135000.out BK132.out (by decide)))
   replace BK133 := Aside0.mk (blk_grown (g := gb133) (o := .cells #[.slice none 0 0] 26 (0, 0)) (bx_ BK133) hg (Kd.R_ne HO_135000.out BK133.out (by decide)))
   replace BK134 := Aside0.mk (blk_grown (g := gb134) (o := .cells #[u135000] 26 (0, 0)) (bx_ BK134) hg (Kd.R_ne HO_135000.out BK134.out (by decide)))
   replace HB := Aside0.mk (hb)
   clear HO_135000
   clear ho hb hg hat
   obtain ⟨Ao16, co16, eo16⟩ := Kd.R_slice HO138.out
   (first | subst eo16 | (injection eo16 with f1_ f2_ f3_; have f4_ := f1_.symm; have f5_ := f3_.symm; clear f1_ f2_ f3_; subst f4_; subst f5_))
   refine hK.out _ _ ⟨(blk_cell BK134.out 0).trans rfl, (blk_cell BK132.out 0).trans rfl, (hc_ HB hw135_0), (hc_ HB hw135_1), (hc_ HB hw135_2)⟩ (fun hHeld => ?_)
   clear hK K
   refine nz_ 21 ?_
   refine pz_ 9 22 ba4_10 HT_ ?_
   refine last_ (i := 10) (N := none) ba4_11 rfl rfl (one_of HT_.out (by kernel_rfl)) (by decide) (fun K hK => ?_)
   have hs17 : w15.cell? ⟨gb134, 0, none⟩ = some (u135000) := (blk_cell BK134.out 0).trans rfl
   have hfs17 := fz_ BK134 0
   have hns17_0 := NB132_134.out
   have hns17_1 := NB133_134.out
   have hms17_0 := NB134_132.out
   have hms17_1 := NB134_133.out
   refine skip_ (w1 := ?_) (by rfl) rfl ?_ ?_
   rotate_left; · go_simp; rfl
   refine hK.out _ _ ?_
   clear hK K
   refine done_ (done_of HT_.out (by kernel_rfl)) ?_
   try go_wp2
   go_roundg k1
   case measure => have := HK1.out; omega
   case rel => exact ⟨(wrap64 (x4_1 + 1)), (y136), (.slice Ao16 y136.length co16), er_, H', ⟨by have := HK1.out; omega⟩, ⟨by (with_reducible repeat (first | apply Kd.R_alloc | apply Kd.R_drewN | apply Kd.R_drew)); exact Kd.R_mono (Kd.R_far (p := ⟨gb134, 0, none⟩) (Kd.R_types HO138.out BK134.out (by decide)) (fun _ hk => hk.2) (.slice Ao16 y136.length co16)) (fun _ hk => trivial)⟩, ⟨bc_ BK132⟩, ⟨bc_ BK133⟩, ⟨by refine bd_ ?_; refine blk_put (cs := #[u135000]) ?_ 0 _ rfl; refine bd_ ?_; exact BK134.out⟩, ⟨bw112_⟩⟩

/-! ### spec_l02Less: function 46 -/
def spec_l02Less.l0 : Nat → Int → List (S30) → Int → Int → List (S30) → Option ((List (S30)))
 | 0, _, _, _, _, _ => none
 | k + 1, x6, x140000, x141000, x141001, x143000 => if x6 < (x140000.length : Int) then (if 0 ≤ x6 then (if (!(((rd_T30 x140000 x6).f0.f0) == x141000) || (!(((rd_T30 x140000 x6).f0.f1) == x141001))) = true then (if x143000.length < 5864062014805 then (spec_l02Less.l0 k (wrap64 (x6 + 1)) x140000 x141000 x141001 (x143000 ++ [(⟨(⟨(rd_T30 x140000 x6).f0.f0, (rd_T30 x140000 x6).f0.f1⟩ : S28), (rd_T30 x140000 x6).f1⟩ : S30)])) else (none)) else (spec_l02Less.l0 k (wrap64 (x6 + 1)) x140000 x141000 x141001 x143000)) else (none)) else (some x143000)
def spec_l02Less.f (k : Nat) (l0_0 : List (S30)) (a1_0 : Int) (a1_1 : Int) : Option ((List (S30))) := spec_l02Less.l0 k 0 l0_0 a1_0 a1_1 ([] : List (S30))
theorem spec_l02Less.mono_l : ∀ k, (∀ y0 y1 y2 y3 y4, LeO (spec_l02Less.l0 k y0 y1 y2 y3 y4) (spec_l02Less.l0 (k + 1) y0 y1 y2 y3 y4))
 | 0 => fun _ _ _ _ _ r h => by simp [spec_l02Less.l0] at h
 | k + 1 => by
  have ih0 := spec_l02Less.mono_l k
  ·intro y0 y1 y2 y3 y4
   unfold spec_l02Less.l0
   repeat' first | (with_reducible first | exact ih0 _ _ _ _ _ | exact LeO.refl _ | exact LeO.none _ | refine LeO.ite ?_ ?_ | refine LeO.bind ?_ (fun _ => ?_)) | exact ih0 _ _ _ _ _ | exact LeO.none _ | refine LeO.ite ?_ ?_ | refine LeO.bind ?_ (fun _ => ?_)
theorem spec_l02Less.mono : ∀ a0 a1 a2 k, LeO (spec_l02Less.f k a0 a1 a2) (spec_l02Less.f (k + 1) a0 a1 a2) := by
 intro a0 a1 a2 k
 have ih0 := spec_l02Less.mono_l k
 unfold spec_l02Less.f
 repeat' first | (with_reducible first | exact ih0 _ _ _ _ _ | exact LeO.refl _ | exact LeO.none _ | refine LeO.ite ?_ ?_ | refine LeO.bind ?_ (fun _ => ?_)) | exact ih0 _ _ _ _ _ | exact LeO.none _ | refine LeO.ite ?_ ?_ | refine LeO.bind ?_ (fun _ => ?_)
def spec_l02Less.T5 : Bool × List (List Nat × List Nat) := (true, [([], []), ([0], [0]), ([], []), ([1, 2], [1, 2]), ([3], [3]), ([4], [4]), ([], []), ([5, 6], [5, 6])])
def spec_l02Less.B5 : List Nat := [0, 1, 0, 7, 15, 31, 0, 127]
theorem spec_l02Less.tab5 : rtab .any (opsOf Try.f46 5) = spec_l02Less.T5 := by kernel_rfl
theorem spec_l02Less.bits5 : waitsOk spec_l02Less.T5.2 spec_l02Less.B5 = true := by kernel_rfl
def spec_l02Less.T6 : Bool × List (List Nat × List Nat) := (true, [([], []), ([0], [0]), ([], []), ([2], [2]), ([], []), ([3, 4], [3, 4]), ([5], [5]), ([6], [6]), ([1, 7], [1, 7]), ([0, 1, 2, 3, 4, 5, 6, 7, 8], []), ([9, 8, 8, 0, 1, 2, 3, 4, 5, 6, 7, 8], [8, 9])])
def spec_l02Less.B6 : List Nat := [0, 1, 0, 4, 0, 28, 60, 124, 255, 511, 1023]
theorem spec_l02Less.tab6 : rtab .any (opsOf Try.f46 6) = spec_l02Less.T6 := by kernel_rfl
theorem spec_l02Less.bits6 : waitsOk spec_l02Less.T6.2 spec_l02Less.B6 = true := by kernel_rfl
set_option maxHeartbeats 8000000 in
set_option maxRecDepth 100000 in
theorem spec_l02Less.calls (k : Nat) (A0_0 : Option Addr) (c0_0 : Nat) (l0_0 : List (S30)) (a1_0 : Int) (a1_1 : Int) (r : List (S30)) (w : World) (hr0_0 : Kd.C k30 w A0_0 l0_0.length l0_0) (hc0_0 : l0_0.length ≤ c0_0) (h : spec_l02Less.f k l0_0 a1_0 a1_1 = some r) :
  Calls Try.prog 46 #[.agg #[.slice A0_0 l0_0.length c0_0], .agg #[.int .i64 a1_0, .int .i64 a1_1]] w fun e w' => ∃ v0_ : Value, e = .returned (.agg #[v0_]) ∧ Kd.R k30 30 w' w.heap.size (fun _ => True) v0_ r ∧ Below w.heap.size w w' := by
 have hu26 := Try.underlying26
 have hu28 := Try.underlying28
 have hu30 := Try.underlying30
 have HR0_0 := Aside0.mk hr0_0
 have HC0_0 := Aside0.mk hc0_0
 clear hr0_0 hc0_0
 have HB := Aside0.mk (Below.refl w.heap.size w)
 have H : (spec_l02Less.l0 k 0 l0_0 a1_0 a1_1 ([] : List (S30))) = some r := h
 clear h
 have H' := Aside0.mk H
 clear H
 go_enter Try.func46, Try.ntmps46
 go_wp2_with (first | ((with_reducible refine gate_dst (N := 2) rfl ?_); refine box_event ?hg (N := 2) ?hd (cs := #[.slice A0_0 l0_0.length c0_0]) (t := 26) ?hr ?_; (case hd => rfl); (case hg => rfl); (case hr => first | (go_simp; done) | (go_simp; rfl)); intro gb139 hg w3 hbox hb; have BK139 := Aside0.mk hbox; have GW139 := ge_ HB hg; have GE139 := ge_ HB hg; replace HB := at_ HB hb; clear hb hbox hg) | ((with_reducible refine gate_dst (N := 3) rfl ?_); refine box_event ?hg (N := 3) ?hd (cs := #[.int .i64 a1_0, .int .i64 a1_1]) (t := 28) ?hr ?_; (case hd => rfl); (case hg => rfl); (case hr => first | (go_simp; done) | (go_simp; rfl)); intro gb140 hg w4 hbox hb; have BK140 := Aside0.mk hbox; have GW140 := ge_ HB hg; have GE140 := ge_ HB hg; have NB139_140 := nl_ BK139 hg; have NB140_139 := ng_ BK139 hg; replace HB := at_ HB hb; replace BK139 := ab_ BK139 hb; clear hb hbox hg) | ((with_reducible refine gate_dst (N := 4) rfl ?_); refine box_event ?hg (N := 4) ?hd (cs := #[.slice none 0 0]) (t := 26) ?hr ?_; (case hd => rfl); (case hg => rfl); (case hr => first | (go_simp; done) | (go_simp; rfl)); intro gb141 hg w5 hbox hb; have BK141 := Aside0.mk hbox; have GW141 := ge_ HB hg; have GE141 := ge_ HB hg; have NB139_141 := nl_ BK139 hg; have NB141_139 := ng_ BK139 hg; have NB140_141 := nl_ BK140 hg; have NB141_140 := ng_ BK140 hg; replace HB := at_ HB hb; replace BK139 := ab_ BK139 hb; replace BK140 := ab_ BK140 hb; clear hb hbox hg) | ((with_reducible refine gate_dst (N := 5) rfl ?_); refine box_event ?hg (N := 5) ?hd (cs := #[.slice none 0 0]) (t := 26) ?hr ?_; (case hd => rfl); (case hg => rfl); (case hr => first | (go_simp; done) | (go_simp; rfl)); intro gb142 hg w6 hbox hb; have BK142 := Aside0.mk hbox; have GW142 := ge_ HB hg; have GE142 := ge_ HB hg; have NB139_142 := nl_ BK139 hg; have NB142_139 := ng_ BK139 hg; have NB140_142 := nl_ BK140 hg; have NB142_140 := ng_ BK140 hg; have NB141_142 := nl_ BK141 hg; have NB142_141 := ng_ BK141 hg; replace HB := at_ HB hb; replace BK139 := ab_ BK139 hb; replace BK140 := ab_ BK140 hb; replace BK141 := ab_ BK141 hb; clear hb hbox hg; have hnb7 := NB142_139.out; have hnc7 := NB139_142.out; have hnb8 := NB142_140.out; have hnc8 := NB140_142.out; have hnb9 := NB142_141.out; have hnc9 := NB141_142.out; have hcz10_0 := cz_ BK142 0 (.slice none 0 0); have hfz10_0 := fz_ BK142 0))
 go_loopg [6] k (fun kq v6 w' => ∃ (x6_1 : Int) (x143000_1 : List (S30)) (u143000 : Value), v6 = .int .i64 x6_1 ∧ Aside0 (spec_l02Less.l0 kq x6_1 l0_0 a1_0 a1_1 x143000_1 = some r) ∧ Aside0 (kq ≤ k) ∧ Aside0 (Kd.R k30 30 w' w.heap.size (fun _ => True) u143000 x143000_1) ∧ Aside0 (w'.heap[gb139]? = some (.cells #[(.slice A0_0 l0_0.length c0_0)] 26 (0, 0))) ∧ Aside0 (w'.heap[gb140]? = some (.cells #[.int .i64 a1_0, .int .i64 a1_1] 28 (0, 0))) ∧ Aside0 (w'.heap[gb141]? = some (.cells #[(.slice none 0 0)] 26 (0, 0))) ∧ Aside0 (w'.heap[gb142]? = some (.cells #[u143000] 26 (0, 0))) ∧ Aside0 (Below w.heap.size w w'))
 case atStart => exact ⟨(0), (([] : List (S30))), (.slice none 0 0), er_, H', ⟨Nat.le_refl _⟩, ⟨by first | exact Kd.R_nil _ _ _ _ _ | exact Kd.N_nil _ _ _ _ _ | exact Kd.V_nil _ _ _ _ _ | exact Kd.Q_nil _ _ _ _ _ | exact Kd.S_nil _ _ _ _ _⟩, ⟨bc_ BK139⟩, ⟨bc_ BK140⟩, ⟨bc_ BK141⟩, ⟨by refine bd_ ?_; refine blk_put (cs := #[.slice none 0 0]) ?_ 0 _ rfl; refine bd_ ?_; exact BK142.out⟩, ⟨bw112_⟩⟩
 case round =>
  clear H'
  try clear p2
  try clear c4
  try clear c7
  try clear c8
  try clear c9
  try clear hcz10_0
  try clear hfz10_0
  obtain ⟨x6_1, x143000_1, u143000, rfl, HA, HK1, HO_143000, BK139, BK140, BK141, BK142, HB⟩ := hrel
  cases gk with
  | zero => exact absurd HA.out (by simp [spec_l02Less.l0])
  | succ k1 =>
   have H := HA.out
   clear HA
   simp only [spec_l02Less.l0] at H
   by_cases c11 : x6_1 < (l0_0.length : Int)
   rotate_left
   ·rw [if_neg c11] at H
    have c11b0 : decide (x6_1 < (l0_0.length : Int)) = false := decide_eq_false c11
    clear c11
    obtain rfl := Option.some.inj H
    have hnb29 := NB139_140.out
    have hnc29 := NB140_139.out
    have hnb30 := NB139_141.out
    have hnc30 := NB141_139.out
    have hnb31 := NB139_142.out
    have hnc31 := NB142_139.out
    have hcz32_0 := cz_ BK139 0 (.slice A0_0 l0_0.length c0_0)
    have hfz32_0 := fz_ BK139 0
    have hnb33 := NB142_140.out
    have hnc33 := NB140_142.out
    have hnb34 := NB142_141.out
    have hnc34 := NB141_142.out
    have hcz35_0 := cz_ BK142 0 (u143000)
    have hfz35_0 := fz_ BK142 0
    obtain ⟨Ao36, co36, eo36⟩ := Kd.R_slice HO_143000.out
    subst eo36
    have hnb37 := NB141_140.out
    have hnc37 := NB140_141.out
    have hcz38_0 := cz_ BK141 0 (.slice none 0 0)
    have hfz38_0 := fz_ BK141 0
    go_wp2
    refine bodyPost_ret (results_cell_row rfl _ _ gb141 26 #[.slice Ao36 x143000_1.length co36] (0, 0) _ rfl (by refine bd_ ?_; refine blk_put (cs := #[.slice none 0 0]) ?_ 0 _ rfl; refine bd_ ?_; exact BK141.out) Try.underlying26 rfl (by kernel_rfl)) rfl ?_
    exact ⟨_, by first | rfl | (simp [errW_none, errW_some] <;> rfl) | (simp [*, errW_none, errW_some] <;> rfl), by (with_reducible repeat (first | apply Kd.R_alloc | apply Kd.R_drewN | apply Kd.R_drew)); exact Kd.R_mono (Kd.R_far (p := ⟨gb141, 0, none⟩) (Kd.R_types HO_143000.out BK141.out (by decide)) (fun _ hk => hk.2) (.slice Ao36 x143000_1.length co36)) (fun _ hk => trivial), bw112_⟩
   rw [if_pos c11] at H
   have c11b0 : decide (x6_1 < (l0_0.length : Int)) = true := decide_eq_true c11
   clear c11
   obtain ⟨c12b0, H⟩ := iq_ H
   by_cases c13 : (!(((rd_T30 l0_0 x6_1).f0.f0) == a1_0) || (!(((rd_T30 l0_0 x6_1).f0.f1) == a1_1))) = true
   rotate_left
   ·rw [if_neg c13] at H
    have c13b0 : (!(((rd_T30 l0_0 x6_1).f0.f0) == a1_0) || (!(((rd_T30 l0_0 x6_1).f0.f1) == a1_1))) = false := by simpa using c13
    clear c13
    have H' := Aside0.mk H
    clear H
    have hnb24 := NB139_140.out
    have hnc24 := NB140_139.out
    have hnb25 := NB139_141.out
    have hnc25 := NB141_139.out
    have hnb26 := NB139_142.out
    have hnc26 := NB142_139.out
    have hcz27_0 := cz_ BK139 0 (.slice A0_0 l0_0.length c0_0)
    have hfz27_0 := fz_ BK139 0
    try go_wp2
    replace HO_143000 := Aside0.mk (Kd.R_drew HO_143000.out)
    replace BK139 := ad_ BK139
    replace BK140 := ad_ BK140
    replace BK141 := ad_ BK141
    replace BK142 := ad_ BK142
    replace HB := Aside0.mk (below_drew1 HB.out)
    have p143 : 0 ≤ (x6_1 : Int) := oa_
    have q143 : x6_1 < (l0_0.length : Int) := oa_
    obtain ⟨ad143, e143, hx143_0, hx143_1, hx143_2⟩ := at_T30 HR0_0.out x6_1 p143 q143
    have hw143_2 := hx143_2
    have hw143_1 := hx143_1
    have hw143_0 := hx143_0
    cases e143
    replace hx143_0 := (HB.out.cell (World.block_lt_of_cell? w _ hx143_0)).trans hx143_0
    replace hx143_1 := (HB.out.cell (World.block_lt_of_cell? w _ hx143_1)).trans hx143_1
    replace hx143_2 := (HB.out.cell (World.block_lt_of_cell? w _ hx143_2)).trans hx143_2
    replace p143 := eq_true p143
    replace q143 := eq_true q143
    refine start_ (n := 8) (S := fun w' => w'.cell? ⟨gb139, 0, none⟩ = some (.slice (some ad143) l0_0.length c0_0) ∧ w'.cell? ⟨gb140, 0, none⟩ = some (.int .i64 a1_0) ∧ w'.cell? ⟨gb140, 1, none⟩ = some (.int .i64 a1_1) ∧ w'.cell? (ad143.add ((x6_1).toNat * 3)) = some (.int .i64 ((rd_T30 l0_0 x6_1).f0.f0)) ∧ w'.cell? ⟨(ad143.add ((x6_1).toNat * 3)).block, (ad143.add ((x6_1).toNat * 3)).off + 1, none⟩ = some (.int .i64 ((rd_T30 l0_0 x6_1).f0.f1)) ∧ w'.cell? ⟨(ad143.add ((x6_1).toNat * 3)).block, (ad143.add ((x6_1).toNat * 3)).off + 2, none⟩ = some (.int .i64 ((rd_T30 l0_0 x6_1).f1))) (ds := []) ba4_12 (by kernel_rfl) rfl rfl ⟨(blk_cell BK139.out 0).trans rfl, (blk_cell BK140.out 0).trans rfl, (blk_cell BK140.out 1).trans rfl, (hc_ HB hw143_0), (hc_ HB hw143_1), (hc_ HB hw143_2)⟩ (fun hHeld => ?_); refine with_tabW spec_l02Less.tab5 spec_l02Less.bits5 (fun HT_ HW_ => ?_)
    generalize wr.drew = w28 at HO_143000 BK139 BK140 BK141 BK142 HB hx143_0 hx143_1 hx143_2 hHeld ⊢
    refine pz_ 0 15 ba4_13 HT_ ?_
    refine pz_ 2 17 ba4_14 HT_ ?_
    refine pt_ 1 16 ba4_15 HT_ HW_ hHeld ?_
    refine pz_ 3 18 ba4_16 HT_ ?_
    refine pz_ 4 19 ba4_17 HT_ ?_
    refine pt_ 5 20 ba4_18 HT_ HW_ hHeld ?_
    refine pt_ 6 21 ba4_19 HT_ HW_ hHeld ?_
    refine pz_ 7 22 ba4_20 HT_ ?_
    refine done_ (done_of HT_.out (by kernel_rfl)) ?_
    try go_wp2
    go_roundg k1
    case measure => have := HK1.out; omega
    case rel => exact ⟨(wrap64 (x6_1 + 1)), (x143000_1), (u143000), er_, H', ⟨by have := HK1.out; omega⟩, ⟨hd_ HO_143000⟩, ⟨bx_ BK139⟩, ⟨bx_ BK140⟩, ⟨bx_ BK141⟩, ⟨bx_ BK142⟩, ⟨bw112_⟩⟩
   rw [if_pos c13] at H
   have c13b0 : (!(((rd_T30 l0_0 x6_1).f0.f0) == a1_0) || (!(((rd_T30 l0_0 x6_1).f0.f1) == a1_1))) = true := c13
   clear c13
   by_cases c14 : x143000_1.length < 5864062014805
   rotate_left
   ·rw [if_neg c14] at H
    exact absurd H (by simp)
   rw [if_pos c14] at H
   have LMc14 := Aside0.mk c14
   clear c14
   obtain ⟨y145, hy145⟩ : ∃ y_ : List (S30), y_ = (x143000_1 ++ [(⟨(⟨(rd_T30 l0_0 x6_1).f0.f0, (rd_T30 l0_0 x6_1).f0.f1⟩ : S28), (rd_T30 l0_0 x6_1).f1⟩ : S30)]) := ⟨_, rfl⟩
   replace H : (spec_l02Less.l0 k1 (wrap64 (x6_1 + 1)) l0_0 a1_0 a1_1 y145) = some r := by first | (rw [hy145]; with_reducible exact H) | (have H2_ := (Option.bind_some _ _).symm.trans H; rw [hy145]; with_reducible exact H2_) | (have H2_ := (Option.bind_some _ _).symm.trans H; with_reducible exact H2_) | with_reducible exact H | (rw [hy145]; exact H) | exact H
   have Ny145 := Aside0.mk hy145
   clear hy145
   have H' := Aside0.mk H
   clear H
   have hnb15 := NB139_140.out
   have hnc15 := NB140_139.out
   have hnb16 := NB139_141.out
   have hnc16 := NB141_139.out
   have hnb17 := NB139_142.out
   have hnc17 := NB142_139.out
   have hcz18_0 := cz_ BK139 0 (.slice A0_0 l0_0.length c0_0)
   have hfz18_0 := fz_ BK139 0
   try go_wp2
   replace HO_143000 := Aside0.mk (Kd.R_drew HO_143000.out)
   replace BK139 := ad_ BK139
   replace BK140 := ad_ BK140
   replace BK141 := ad_ BK141
   replace BK142 := ad_ BK142
   replace HB := Aside0.mk (below_drew1 HB.out)
   have p143 : 0 ≤ (x6_1 : Int) := oa_
   have q143 : x6_1 < (l0_0.length : Int) := oa_
   obtain ⟨ad143, e143, hx143_0, hx143_1, hx143_2⟩ := at_T30 HR0_0.out x6_1 p143 q143
   have hw143_2 := hx143_2
   have hw143_1 := hx143_1
   have hw143_0 := hx143_0
   cases e143
   replace hx143_0 := (HB.out.cell (World.block_lt_of_cell? w _ hx143_0)).trans hx143_0
   replace hx143_1 := (HB.out.cell (World.block_lt_of_cell? w _ hx143_1)).trans hx143_1
   replace hx143_2 := (HB.out.cell (World.block_lt_of_cell? w _ hx143_2)).trans hx143_2
   replace p143 := eq_true p143
   replace q143 := eq_true q143
   refine start_ (n := 8) (S := fun w' => w'.cell? ⟨gb139, 0, none⟩ = some (.slice (some ad143) l0_0.length c0_0) ∧ w'.cell? ⟨gb140, 0, none⟩ = some (.int .i64 a1_0) ∧ w'.cell? ⟨gb140, 1, none⟩ = some (.int .i64 a1_1) ∧ w'.cell? (ad143.add ((x6_1).toNat * 3)) = some (.int .i64 ((rd_T30 l0_0 x6_1).f0.f0)) ∧ w'.cell? ⟨(ad143.add ((x6_1).toNat * 3)).block, (ad143.add ((x6_1).toNat * 3)).off + 1, none⟩ = some (.int .i64 ((rd_T30 l0_0 x6_1).f0.f1)) ∧ w'.cell? ⟨(ad143.add ((x6_1).toNat * 3)).block, (ad143.add ((x6_1).toNat * 3)).off + 2, none⟩ = some (.int .i64 ((rd_T30 l0_0 x6_1).f1))) (ds := []) ba4_12 (by kernel_rfl) rfl rfl ⟨(blk_cell BK139.out 0).trans rfl, (blk_cell BK140.out 0).trans rfl, (blk_cell BK140.out 1).trans rfl, (hc_ HB hw143_0), (hc_ HB hw143_1), (hc_ HB hw143_2)⟩ (fun hHeld => ?_); refine with_tabW spec_l02Less.tab5 spec_l02Less.bits5 (fun HT_ HW_ => ?_)
   generalize wr.drew = w19 at HO_143000 BK139 BK140 BK141 BK142 HB hx143_0 hx143_1 hx143_2 hHeld ⊢
   refine pz_ 0 15 ba4_13 HT_ ?_
   refine pz_ 2 17 ba4_14 HT_ ?_
   refine pt_ 1 16 ba4_15 HT_ HW_ hHeld ?_
   refine pz_ 3 18 ba4_16 HT_ ?_
   refine pz_ 4 19 ba4_17 HT_ ?_
   refine pt_ 5 20 ba4_18 HT_ HW_ hHeld ?_
   refine pt_ 6 21 ba4_19 HT_ HW_ hHeld ?_
   refine pz_ 7 22 ba4_20 HT_ ?_
   refine done_ (done_of HT_.out (by kernel_rfl)) ?_
   try go_wp2
   replace HO_143000 := Aside0.mk (Kd.R_drew HO_143000.out)
   replace BK139 := ad_ BK139
   replace BK140 := ad_ BK140
   replace BK141 := ad_ BK141
   replace BK142 := ad_ BK142
   replace HB := Aside0.mk (below_drew1 HB.out)
   have p144 : 0 ≤ (x6_1 : Int) := oa_
   have q144 : x6_1 < (l0_0.length : Int) := oa_
   obtain ⟨ad144, e144, hx144_0, hx144_1, hx144_2⟩ := at_T30 HR0_0.out x6_1 p144 q144
   have hw144_2 := hx144_2
   have hw144_1 := hx144_1
   have hw144_0 := hx144_0
   obtain rfl : ad143 = ad144 := (by injection e144)
   replace hx144_0 := (HB.out.cell (World.block_lt_of_cell? w _ hx144_0)).trans hx144_0
   replace hx144_1 := (HB.out.cell (World.block_lt_of_cell? w _ hx144_1)).trans hx144_1
   replace hx144_2 := (HB.out.cell (World.block_lt_of_cell? w _ hx144_2)).trans hx144_2
   replace p144 := eq_true p144
   replace q144 := eq_true q144
   refine start_ (n := 11) (S := fun w' => w'.cell? ⟨gb142, 0, none⟩ = some (u143000) ∧ w'.cell? ⟨gb139, 0, none⟩ = some (.slice (some ad143) l0_0.length c0_0) ∧ w'.cell? (ad143.add ((x6_1).toNat * 3)) = some (.int .i64 ((rd_T30 l0_0 x6_1).f0.f0)) ∧ w'.cell? ⟨(ad143.add ((x6_1).toNat * 3)).block, (ad143.add ((x6_1).toNat * 3)).off + 1, none⟩ = some (.int .i64 ((rd_T30 l0_0 x6_1).f0.f1)) ∧ w'.cell? ⟨(ad143.add ((x6_1).toNat * 3)).block, (ad143.add ((x6_1).toNat * 3)).off + 2, none⟩ = some (.int .i64 ((rd_T30 l0_0 x6_1).f1))) (ds := [10]) ba4_0 (by kernel_rfl) rfl rfl ⟨(blk_cell BK142.out 0).trans rfl, (blk_cell BK139.out 0).trans rfl, (hc_ HB hw144_0), (hc_ HB hw144_1), (hc_ HB hw144_2)⟩ (fun hHeld => ?_); refine with_tabW spec_l02Less.tab6 spec_l02Less.bits6 (fun HT_ HW_ => ?_)
   generalize w19.drew = w20 at HO_143000 BK139 BK140 BK141 BK142 HB hx144_0 hx144_1 hx144_2 hHeld ⊢
   refine pz_ 0 23 ba4_1 HT_ ?_
   refine pz_ 2 25 ba4_2 HT_ ?_
   refine pz_ 4 27 ba4_3 HT_ ?_
   refine pt_ 1 24 ba4_4 HT_ HW_ hHeld ?_
   refine pt_ 3 26 ba4_5 HT_ HW_ hHeld ?_
   refine pz_ 5 28 ba4_6 HT_ ?_
   refine pt_ 6 29 ba4_7 HT_ HW_ hHeld ?_
   refine one_ (i := 7) (N := some 30) ba4_8 rfl rfl (one_of HT_.out (by kernel_rfl)) (by decide) (fun K hK => ?_)
   refine value_ (w1 := ?_) (v := ?_) (by rfl) rfl ?_ ?_
   rotate_left 2
   ·go_simp
    constructor
    ·rfl
    ·rfl
   refine hK.out _ _ ⟨(blk_cell (blk_alloc BK142.out _) 0).trans rfl, (blk_cell (blk_alloc BK139.out _) 0).trans rfl, (World.cell?_alloc_lt _ _ _ (World.block_lt_of_cell? _ _ ((hc_ HB hw144_0)))).trans ((hc_ HB hw144_0)), (World.cell?_alloc_lt _ _ _ (World.block_lt_of_cell? _ _ ((hc_ HB hw144_1)))).trans ((hc_ HB hw144_1)), (World.cell?_alloc_lt _ _ _ (World.block_lt_of_cell? _ _ ((hc_ HB hw144_2)))).trans ((hc_ HB hw144_2))⟩ (fun hHeld => ?_)
   clear hK K
   refine nz_ 30 ?_
   refine one_ (i := 8) (N := some 31) ba4_9 rfl rfl (one_of HT_.out (by kernel_rfl)) (by decide) (fun K hK => ?_)
   refine Kd.R_append_step k30 (w0 := w) w.heap.size (by rfl) (.tmp 24) (.tmp 30) 24 30 (.agg #[(.int .i64 0), (.int .i64 0), (.int .i64 0)]) 24 rfl Try.underlying24 info30 rfl (by decide) (by omega) u143000 x143000_1 (⟨(⟨(rd_T30 l0_0 x6_1).f0.f0, (rd_T30 l0_0 x6_1).f0.f1⟩ : S28), (rd_T30 l0_0 x6_1).f1⟩ : S30) [.int .i64 ((rd_T30 l0_0 x6_1).f0.f0), .int .i64 ((rd_T30 l0_0 x6_1).f0.f1), .int .i64 ((rd_T30 l0_0 x6_1).f1)] (fun _ => True) (fun _ => False) rfl rfl ?aP (fun _ hk => hk.elim) ?aF ?aO ?aB ?aS ?aL ?_
   (case aP => exact k30_mkM _ _ _ (⟨(⟨(rd_T30 l0_0 x6_1).f0.f0, (rd_T30 l0_0 x6_1).f0.f1⟩ : S28), (rd_T30 l0_0 x6_1).f1⟩ : S30))
   (case aB => exact (bw112_))
   (case aF => exact (fun _ _ => trivial))
   (case aO => exact (hd_ HO_143000))
   (case aS => exact (bz_ HB))
   (case aL => have := LMc14.out; omega)
   intro v146 w21 ho hb hg hat
   rw [← Ny145.out] at ho
   have HO147 := Aside0.mk ho
   replace BK139 := Aside0.mk (blk_grown (g := gb139) (o := .cells #[.slice (some ad143) l0_0.length c0_0] 26 (0, 0)) (bx_ BK139) hg (Kd.R_ne HO_143000.out BK139.out (by decide)))
   replace BK140 := Aside0.mk (blk_grown (g := gb140) (o := .cells #[.int .i64 a1_0, .int .i64 a1_1] 28 (0, 0)) (bx_ BK140) hg (Kd.R_ne HO_143000.out BK140.out (by decide)))
   replace BK141 := Aside0.mk (blk_grown (g := gb141) (o := .cells #[.slice none 0 0] 26 (0, 0)) (bx_ BK141) hg (Kd.R_ne HO_143000.out BK141.out (by decide)))
   replace BK142 := Aside0.mk (blk_grown (g := gb142) (o := .cells #[u143000] 26 (0, 0)) (bx_ BK142) hg (Kd.R_ne HO_143000.out BK142.out (by decide)))
   replace HB := Aside0.mk (hb)
   clear HO_143000
   clear ho hb hg hat
   obtain ⟨Ao22, co22, eo22⟩ := Kd.R_slice HO147.out
   (first | subst eo22 | (injection eo22 with f1_ f2_ f3_; have f4_ := f1_.symm; have f5_ := f3_.symm; clear f1_ f2_ f3_; subst f4_; subst f5_))
   refine hK.out _ _ ⟨(blk_cell BK142.out 0).trans rfl, (blk_cell BK139.out 0).trans rfl, (hc_ HB hw144_0), (hc_ HB hw144_1), (hc_ HB hw144_2)⟩ (fun hHeld => ?_)
   clear hK K
   refine nz_ 31 ?_
   refine pz_ 9 32 ba4_10 HT_ ?_
   refine last_ (i := 10) (N := none) ba4_11 rfl rfl (one_of HT_.out (by kernel_rfl)) (by decide) (fun K hK => ?_)
   have hs23 : w21.cell? ⟨gb142, 0, none⟩ = some (u143000) := (blk_cell BK142.out 0).trans rfl
   have hfs23 := fz_ BK142 0
   have hns23_0 := NB139_142.out
   have hns23_1 := NB140_142.out
   have hns23_2 := NB141_142.out
   have hms23_0 := NB142_139.out
   have hms23_1 := NB142_140.out
   have hms23_2 := NB142_141.out
   refine skip_ (w1 := ?_) (by rfl) rfl ?_ ?_
   rotate_left; · go_simp; rfl
   refine hK.out _ _ ?_
   clear hK K
   refine done_ (done_of HT_.out (by kernel_rfl)) ?_
   try go_wp2
   go_roundg k1
   case measure => have := HK1.out; omega
   case rel => exact ⟨(wrap64 (x6_1 + 1)), (y145), (.slice Ao22 y145.length co22), er_, H', ⟨by have := HK1.out; omega⟩, ⟨by (with_reducible repeat (first | apply Kd.R_alloc | apply Kd.R_drewN | apply Kd.R_drew)); exact Kd.R_mono (Kd.R_far (p := ⟨gb142, 0, none⟩) (Kd.R_types HO147.out BK142.out (by decide)) (fun _ hk => hk.2) (.slice Ao22 y145.length co22)) (fun _ hk => trivial)⟩, ⟨bc_ BK139⟩, ⟨bc_ BK140⟩, ⟨bc_ BK141⟩, ⟨by refine bd_ ?_; refine blk_put (cs := #[u143000]) ?_ 0 _ rfl; refine bd_ ?_; exact BK142.out⟩, ⟨bw112_⟩⟩

end Go.Proofs.Ytjepmdngbafonaa.QFnRoutes
