/- Contracts of functions that the law reaches: what each call returns and what it leaves in memory. Made by this session over the print of the kit. -/
import Derived.Test.YtjepmdngbafonaaQFnSqueezedx0
import Derived.Test.YtjepmdngbafonaaQFnSqueezedx6
namespace Go.Proofs.Ytjepmdngbafonaa.QFnSqueezed
open Go.RowKit Go.Proofs.YtjepmdngbafonaaZ.PrintWords Go.Proofs.YtjepmdngbafonaaZ.PrintLast Go.Proofs.YtjepmdngbafonaaZ.PrintMore
attribute [local go_sem] max2_int min2_int max_two min_two max_three min_three max_four min_four   -- for this text's walks alone
set_option linter.unusedVariables false
set_option linter.unusedSimpArgs false
def ba8_0 := bs_ 11 0
def ba8_1 := bs_ 11 1
def ba8_2 := bs_ 11 5
def ba8_3 := bs_ 11 21
def ba8_4 := bs_ 11 23
def ba8_5 := bs_ 11 31
def ba8_6 := bs_ 11 63
def ba8_7 := bs_ 11 127
def ba8_8 := bs_ 11 255
def ba8_9 := bs_ 11 511
def ba8_10 := bs_ 11 1023
def ba8_11 := bs_ 11 2047
def ba8_12 := bs_ 8 0
def ba8_13 := bs_ 8 1
def ba8_14 := bs_ 8 5
def ba8_15 := bs_ 8 7
def ba8_16 := bs_ 8 15
def ba8_17 := bs_ 8 31
def ba8_18 := bs_ 8 63
def ba8_19 := bs_ 8 127
def ba8_20 := bs_ 8 255

attribute [local go_sem high] eqA28
/-! ### spec_l02Copy: function 45 -/
def spec_l02Copy.l0 : Nat → Int → List (S30) → List (S30) → Option ((List (S30)))
 | 0, _, _, _ => none
 | k + 1, x4, x179000, x181000 => if x4 < (x179000.length : Int) then (if 0 ≤ x4 then (if x181000.length < 5864062014805 then (spec_l02Copy.l0 k (wrap64 (x4 + 1)) x179000 (x181000 ++ [(⟨(⟨(rd_T30 x179000 x4).f0.f0, (rd_T30 x179000 x4).f0.f1⟩ : S28), (rd_T30 x179000 x4).f1⟩ : S30)])) else (none)) else (none)) else (some x181000)
def spec_l02Copy.f (k : Nat) (l0_0 : List (S30)) : Option ((List (S30))) := spec_l02Copy.l0 k 0 l0_0 ([] : List (S30))
def spec_l02Copy.T5 : Bool × List (List Nat × List Nat) := (true, [([], []), ([0], [0]), ([], []), ([2], [2]), ([], []), ([3, 4], [3, 4]), ([5], [5]), ([6], [6]), ([1, 7], [1, 7]), ([0, 1, 2, 3, 4, 5, 6, 7, 8], []), ([9, 8, 8, 0, 1, 2, 3, 4, 5, 6, 7, 8], [8, 9])])
def spec_l02Copy.B5 : List Nat := [0, 1, 0, 4, 0, 28, 60, 124, 255, 511, 1023]
theorem spec_l02Copy.tab5 : rtab .any (opsOf Try.f45 5) = spec_l02Copy.T5 := by kernel_rfl
theorem spec_l02Copy.bits5 : waitsOk spec_l02Copy.T5.2 spec_l02Copy.B5 = true := by kernel_rfl
set_option maxHeartbeats 8000000 in
set_option maxRecDepth 100000 in
theorem spec_l02Copy.calls (k : Nat) (A0_0 : Option Addr) (c0_0 : Nat) (l0_0 : List (S30)) (r : List (S30)) (w : World) (hr0_0 : Kd.C k30 w A0_0 l0_0.length l0_0) (hc0_0 : l0_0.length ≤ c0_0) (h : spec_l02Copy.f k l0_0 = some r) :
  Calls Try.prog 45 #[.agg #[.slice A0_0 l0_0.length c0_0]] w fun e w' => ∃ v0_ : Value, e = .returned (.agg #[v0_]) ∧ Kd.R k30 30 w' w.heap.size (fun _ => True) v0_ r ∧ Below w.heap.size w w' := by
 have hu26 := Try.underlying26
 have hu30 := Try.underlying30
 have HR0_0 := Aside0.mk hr0_0
 have HC0_0 := Aside0.mk hc0_0
 clear hr0_0 hc0_0
 have HB := Aside0.mk (Below.refl w.heap.size w)
 have H : (spec_l02Copy.l0 k 0 l0_0 ([] : List (S30))) = some r := h
 clear h
 have H' := Aside0.mk H
 clear H
 go_enter Try.func45, Try.ntmps45
 go_wp2_with (first | ((with_reducible refine gate_dst (N := 1) rfl ?_); refine be_ 1 #[.slice A0_0 l0_0.length c0_0] 26 ?_; intro gb178 hg w2 BK178 hb; have GW178 := ge_ HB hg; have GE178 := ge_ HB hg; replace HB := at_ HB hb; clear hb hg) | ((with_reducible refine gate_dst (N := 2) rfl ?_); refine be_ 2 #[.slice none 0 0] 26 ?_; intro gb179 hg w3 BK179 hb; have GW179 := ge_ HB hg; have GE179 := ge_ HB hg; have NB178_179 := nl_ BK178 hg; have NB179_178 := ng_ BK178 hg; replace HB := at_ HB hb; replace BK178 := ab_ BK178 hb; clear hb hg) | ((with_reducible refine gate_dst (N := 3) rfl ?_); refine be_ 3 #[.slice none 0 0] 26 ?_; intro gb180 hg w4 BK180 hb; have GW180 := ge_ HB hg; have GE180 := ge_ HB hg; have NB178_180 := nl_ BK178 hg; have NB180_178 := ng_ BK178 hg; have NB179_180 := nl_ BK179 hg; have NB180_179 := ng_ BK179 hg; replace HB := at_ HB hb; replace BK178 := ab_ BK178 hb; replace BK179 := ab_ BK179 hb; clear hb hg; have hnb5 := NB180_178.out; have hnc5 := NB178_180.out; have hnb6 := NB180_179.out; have hnc6 := NB179_180.out; have hcz7_0 := cz_ BK180 0 (.slice none 0 0); have hfz7_0 := fz_ BK180 0))
 go_loopg [4] k (fun kq v4 w' => ∃ (x4_1 : Int) (x181000_1 : List (S30)) (u181000 : Value), v4 = .int .i64 x4_1 ∧ Aside0 (spec_l02Copy.l0 kq x4_1 l0_0 x181000_1 = some r) ∧ Aside0 (kq ≤ k) ∧ Aside0 (Kd.R k30 30 w' w.heap.size (fun _ => True) u181000 x181000_1) ∧ Aside0 (w'.heap[gb178]? = some (.cells #[(.slice A0_0 l0_0.length c0_0)] 26 (0, 0))) ∧ Aside0 (w'.heap[gb179]? = some (.cells #[(.slice none 0 0)] 26 (0, 0))) ∧ Aside0 (w'.heap[gb180]? = some (.cells #[u181000] 26 (0, 0))) ∧ Aside0 (Below w.heap.size w w'))
 case atStart => exact ⟨(0), (([] : List (S30))), (.slice none 0 0), er_, H', ⟨Nat.le_refl _⟩, ⟨by first | exact Kd.R_nil _ _ _ _ _ | exact Kd.N_nil _ _ _ _ _ | exact Kd.V_nil _ _ _ _ _ | exact Kd.Q_nil _ _ _ _ _ | exact Kd.S_nil _ _ _ _ _⟩, ⟨bc_ BK178⟩, ⟨bc_ BK179⟩, ⟨by refine bd_ ?_; refine blk_put (cs := #[.slice none 0 0]) ?_ 0 _ rfl; refine bd_ ?_; exact BK180.out⟩, ⟨bw112_⟩⟩
 case round =>
  clear H' hcz7_0 hfz7_0
  obtain ⟨x4_1, x181000_1, u181000, rfl, HA, HK1, HO_181000, BK178, BK179, BK180, HB⟩ := hrel
  cases gk with
  | zero => exact absurd HA.out (by simp [spec_l02Copy.l0])
  | succ k1 =>
   have H := HA.out
   clear HA
   simp only [spec_l02Copy.l0] at H
   by_cases c8 : x4_1 < (l0_0.length : Int)
   rotate_left
   ·rw [if_neg c8] at H
    have c8b0 : decide (x4_1 < (l0_0.length : Int)) = false := decide_eq_false c8
    clear c8
    obtain rfl := Option.some.inj H
    have hnb18 := NB178_179.out
    have hnc18 := NB179_178.out
    have hnb19 := NB178_180.out
    have hnc19 := NB180_178.out
    have hcz20_0 := cz_ BK178 0 (.slice A0_0 l0_0.length c0_0)
    have hfz20_0 := fz_ BK178 0
    have hnb21 := NB180_179.out
    have hnc21 := NB179_180.out
    have hcz22_0 := cz_ BK180 0 (u181000)
    have hfz22_0 := fz_ BK180 0
    obtain ⟨Ao23, co23, eo23⟩ := Kd.R_slice HO_181000.out
    subst eo23
    have hcz24_0 := cz_ BK179 0 (.slice none 0 0)
    have hfz24_0 := fz_ BK179 0
    go_wp2
    refine bodyPost_ret (results_cell_row rfl _ _ gb179 26 #[.slice Ao23 x181000_1.length co23] (0, 0) _ rfl (by refine bd_ ?_; refine blk_put (cs := #[.slice none 0 0]) ?_ 0 _ rfl; refine bd_ ?_; exact BK179.out) Try.underlying26 rfl (by kernel_rfl)) rfl ?_
    exact ⟨_, by first | rfl | (simp [errW_none, errW_some] <;> rfl) | (simp [*, errW_none, errW_some] <;> rfl), by (with_reducible repeat (first | apply Kd.R_alloc | apply Kd.R_drewN | apply Kd.R_drew)); exact Kd.R_mono (Kd.R_far (Kd.R_types HO_181000.out BK179.out (by decide)) (fun _ hk => hk.2) _) (fun _ hk => trivial), bw112_⟩
   rw [if_pos c8] at H
   have c8b0 : decide (x4_1 < (l0_0.length : Int)) = true := decide_eq_true c8
   clear c8
   obtain ⟨c9b0, H⟩ := iq_ H
   by_cases c10 : x181000_1.length < 5864062014805
   rotate_left
   ·rw [if_neg c10] at H
    exact absurd H (by simp)
   rw [if_pos c10] at H
   have LMc10 := Aside0.mk c10
   clear c10
   obtain ⟨y182, hy182⟩ : ∃ y_ : List (S30), y_ = (x181000_1 ++ [(⟨(⟨(rd_T30 l0_0 x4_1).f0.f0, (rd_T30 l0_0 x4_1).f0.f1⟩ : S28), (rd_T30 l0_0 x4_1).f1⟩ : S30)]) := ⟨_, rfl⟩
   replace H : (spec_l02Copy.l0 k1 (wrap64 (x4_1 + 1)) l0_0 y182) = some r := by first | (rw [hy182]; with_reducible exact H) | (have H2_ := (Option.bind_some _ _).symm.trans H; rw [hy182]; with_reducible exact H2_) | (have H2_ := (Option.bind_some _ _).symm.trans H; with_reducible exact H2_) | with_reducible exact H | (rw [hy182]; exact H) | exact H
   have Ny182 := Aside0.mk hy182
   clear hy182
   have H' := Aside0.mk H
   clear H
   have hnb11 := NB178_179.out
   have hnc11 := NB179_178.out
   have hnb12 := NB178_180.out
   have hnc12 := NB180_178.out
   have hcz13_0 := cz_ BK178 0 (.slice A0_0 l0_0.length c0_0)
   have hfz13_0 := fz_ BK178 0
   go_wp2
   replace HO_181000 := Aside0.mk (Kd.R_drew HO_181000.out)
   replace BK178 := ad_ BK178
   replace BK179 := ad_ BK179
   replace BK180 := ad_ BK180
   replace HB := Aside0.mk (below_drew1 HB.out)
   have p181 : 0 ≤ (x4_1 : Int) := oa_
   have q181 : x4_1 < (l0_0.length : Int) := oa_
   obtain ⟨ad181, e181, hx181_0, hx181_1, hx181_2⟩ := at_T30 HR0_0.out x4_1 p181 q181
   have hw181_2 := hx181_2
   have hw181_1 := hx181_1
   have hw181_0 := hx181_0
   cases e181
   replace hx181_0 := hc5_ HB hx181_0
   replace hx181_1 := hc5_ HB hx181_1
   replace hx181_2 := hc5_ HB hx181_2
   obtain ⟨p181, q181⟩ := et_ p181 q181
   refine start_ (n := 11) (S := fun w' => w'.cell? ⟨gb180, 0, none⟩ = some (u181000) ∧ w'.cell? ⟨gb178, 0, none⟩ = some (.slice (some ad181) l0_0.length c0_0) ∧ w'.cell? (ad181.add ((x4_1).toNat * 3)) = some (.int .i64 ((rd_T30 l0_0 x4_1).f0.f0)) ∧ w'.cell? ⟨(ad181.add ((x4_1).toNat * 3)).block, (ad181.add ((x4_1).toNat * 3)).off + 1, none⟩ = some (.int .i64 ((rd_T30 l0_0 x4_1).f0.f1)) ∧ w'.cell? ⟨(ad181.add ((x4_1).toNat * 3)).block, (ad181.add ((x4_1).toNat * 3)).off + 2, none⟩ = some (.int .i64 ((rd_T30 l0_0 x4_1).f1))) (ds := [10]) ba8_0 (by kernel_rfl) rfl rfl ⟨bq5_ BK180 0, bq5_ BK178 0, (hc_ HB hw181_0), (hc_ HB hw181_1), (hc_ HB hw181_2)⟩ (fun hHeld => ?_); refine with_tabW spec_l02Copy.tab5 spec_l02Copy.bits5 (fun HT_ HW_ => ?_)
   generalize wr.drew = w14 at HO_181000 BK178 BK179 BK180 HB hx181_0 hx181_1 hx181_2 hHeld ⊢
   refine pz_ 0 13 ba8_1 HT_ ?_
   refine pz_ 2 15 ba8_2 HT_ ?_
   refine pz_ 4 17 ba8_3 HT_ ?_
   refine pt_ 1 14 ba8_4 HT_ HW_ hHeld ?_
   refine pt_ 3 16 ba8_5 HT_ HW_ hHeld ?_
   refine pz_ 5 18 ba8_6 HT_ ?_
   refine pt_ 6 19 ba8_7 HT_ HW_ hHeld ?_
   refine on_ 7 (some 20) ba8_8 HT_ (fun K hK => ?_)
   refine value_ (w1 := ?_) (v := ?_) (by rfl) rfl ?_ ?_
   rotate_left 2
   ·go_simp
    constructor
    ·rfl
    ·rfl
   refine hK.out _ _ ⟨(blk_cell (blk_alloc BK180.out _) 0).trans rfl, (blk_cell (blk_alloc BK178.out _) 0).trans rfl, (World.cell?_alloc_lt _ _ _ (World.block_lt_of_cell? _ _ ((hc_ HB hw181_0)))).trans ((hc_ HB hw181_0)), (World.cell?_alloc_lt _ _ _ (World.block_lt_of_cell? _ _ ((hc_ HB hw181_1)))).trans ((hc_ HB hw181_1)), (World.cell?_alloc_lt _ _ _ (World.block_lt_of_cell? _ _ ((hc_ HB hw181_2)))).trans ((hc_ HB hw181_2))⟩ (fun hHeld => ?_)
   clear hK K
   refine nz_ 20 ?_
   refine on_ 8 (some 21) ba8_9 HT_ (fun K hK => ?_)
   refine Kd.R_append_step k30 (w0 := w) w.heap.size (by rfl) (.tmp 14) (.tmp 20) 24 30 (.agg #[(.int .i64 0), (.int .i64 0), (.int .i64 0)]) 24 rfl Try.underlying24 info30 rfl (by decide) (by omega) u181000 x181000_1 (⟨(⟨(rd_T30 l0_0 x4_1).f0.f0, (rd_T30 l0_0 x4_1).f0.f1⟩ : S28), (rd_T30 l0_0 x4_1).f1⟩ : S30) [.int .i64 ((rd_T30 l0_0 x4_1).f0.f0), .int .i64 ((rd_T30 l0_0 x4_1).f0.f1), .int .i64 ((rd_T30 l0_0 x4_1).f1)] (fun _ => True) (fun _ => False) rfl rfl ?aP (fun _ hk => hk.elim) ?aF ?aO ?aB ?aS ?aL ?_
   (case aP => exact k30_mkM _ _ _ (⟨(⟨(rd_T30 l0_0 x4_1).f0.f0, (rd_T30 l0_0 x4_1).f0.f1⟩ : S28), (rd_T30 l0_0 x4_1).f1⟩ : S30))
   (case aB => exact (bw112_))
   (case aF => exact (fun _ _ => trivial))
   (case aO => exact (hd_ HO_181000))
   (case aS => exact (bz_ HB))
   (case aL => have := LMc10.out; omega)
   intro v183 w15 ho hb hg hat
   rw [← Ny182.out] at ho
   have HO184 := Aside0.mk ho
   replace BK178 := Aside0.mk (blk_grown (g := gb178) (o := .cells #[.slice (some ad181) l0_0.length c0_0] 26 (0, 0)) (bx_ BK178) hg (Kd.R_ne HO_181000.out BK178.out (by decide)))
   replace BK179 := Aside0.mk (blk_grown (g := gb179) (o := .cells #[.slice none 0 0] 26 (0, 0)) (bx_ BK179) hg (Kd.R_ne HO_181000.out BK179.out (by decide)))
   replace BK180 := Aside0.mk (blk_grown (g := gb180) (o := .cells #[u181000] 26 (0, 0)) (bx_ BK180) hg (Kd.R_ne HO_181000.out BK180.out (by decide)))
   replace HB := Aside0.mk (hb)
   clear HO_181000 ho hb hg hat
   obtain ⟨Ao16, co16, eo16⟩ := Kd.R_slice HO184.out
   subst eo16
   refine hK.out _ _ ⟨bq5_ BK180 0, bq5_ BK178 0, (hc_ HB hw181_0), (hc_ HB hw181_1), (hc_ HB hw181_2)⟩ (fun hHeld => ?_)
   clear hK K
   refine nz_ 21 ?_
   refine pz_ 9 22 ba8_10 HT_ ?_
   refine last_ (i := 10) (N := none) ba8_11 rfl rfl (one_of HT_.out (by kernel_rfl)) (by decide) (fun K hK => ?_)
   have hs17 : w15.cell? ⟨gb180, 0, none⟩ = some (u181000) := bq5_ BK180 0
   have hfs17 := fz_ BK180 0
   have hns17_0 := NB178_180.out
   have hns17_1 := NB179_180.out
   have hms17_0 := NB180_178.out
   have hms17_1 := NB180_179.out
   refine skip_ (w1 := ?_) (by rfl) rfl ?_ ?_
   rotate_left; · go_simp; rfl
   refine hK.out _ _ ?_
   clear hK K
   refine done_ (done_of HT_.out (by kernel_rfl)) ?_
   go_wp2
   go_roundg k1
   case measure => have := HK1.out; omega
   case rel => exact ⟨(wrap64 (x4_1 + 1)), (y182), (.slice Ao16 y182.length co16), er_, H', ⟨by have := HK1.out; omega⟩, ⟨by (with_reducible repeat (first | apply Kd.R_alloc | apply Kd.R_drewN | apply Kd.R_drew)); exact Kd.R_mono (Kd.R_far (Kd.R_types HO184.out BK180.out (by decide)) (fun _ hk => hk.2) _) (fun _ hk => trivial)⟩, ⟨bc_ BK178⟩, ⟨bc_ BK179⟩, ⟨by refine bd_ ?_; refine blk_put (cs := #[u181000]) ?_ 0 _ rfl; refine bd_ ?_; exact BK180.out⟩, ⟨bw112_⟩⟩

/-! ### spec_l02Less: function 46 -/
def spec_l02Less.l0 : Nat → Int → List (S30) → Int → Int → List (S30) → Option ((List (S30)))
 | 0, _, _, _, _, _ => none
 | k + 1, x6, x186000, x187000, x187001, x189000 => if x6 < (x186000.length : Int) then (if 0 ≤ x6 then (if (!(((rd_T30 x186000 x6).f0.f0) == x187000) || (!(((rd_T30 x186000 x6).f0.f1) == x187001))) = true then (if x189000.length < 5864062014805 then (spec_l02Less.l0 k (wrap64 (x6 + 1)) x186000 x187000 x187001 (x189000 ++ [(⟨(⟨(rd_T30 x186000 x6).f0.f0, (rd_T30 x186000 x6).f0.f1⟩ : S28), (rd_T30 x186000 x6).f1⟩ : S30)])) else (none)) else (spec_l02Less.l0 k (wrap64 (x6 + 1)) x186000 x187000 x187001 x189000)) else (none)) else (some x189000)
def spec_l02Less.f (k : Nat) (l0_0 : List (S30)) (a1_0 : Int) (a1_1 : Int) : Option ((List (S30))) := spec_l02Less.l0 k 0 l0_0 a1_0 a1_1 ([] : List (S30))
def spec_l02Less.T5 : Bool × List (List Nat × List Nat) := (true, [([], []), ([0], [0]), ([], []), ([1, 2], [1, 2]), ([3], [3]), ([4], [4]), ([], []), ([5, 6], [5, 6])])
def spec_l02Less.B5 : List Nat := [0, 1, 0, 7, 15, 31, 0, 127]
theorem spec_l02Less.tab5 : rtab .any (opsOf Try.f46 5) = spec_l02Less.T5 := by kernel_rfl
theorem spec_l02Less.bits5 : waitsOk spec_l02Less.T5.2 spec_l02Less.B5 = true := by kernel_rfl
def spec_l02Less.T6 : Bool × List (List Nat × List Nat) := (true, [([], []), ([0], [0]), ([], []), ([2], [2]), ([], []), ([3, 4], [3, 4]), ([5], [5]), ([6], [6]), ([1, 7], [1, 7]), ([0, 1, 2, 3, 4, 5, 6, 7, 8], []), ([9, 8, 8, 0, 1, 2, 3, 4, 5, 6, 7, 8], [8, 9])])
def spec_l02Less.B6 : List Nat := [0, 1, 0, 4, 0, 28, 60, 124, 255, 511, 1023]
theorem spec_l02Less.tab6 : rtab .any (opsOf Try.f46 6) = spec_l02Less.T6 := by kernel_rfl
theorem spec_l02Less.bits6 : waitsOk spec_l02Less.T6.2 spec_l02Less.B6 = true := by kernel_rfl
set_option maxHeartbeats 8000000 in
set_option maxRecDepth 100000 in
theorem spec_l02Less.calls (k : Nat) (A0_0 : Option Addr) (c0_0 : Nat) (l0_0 : List (S30)) (a1_0 : Int) (a1_1 : Int) (r : List (S30)) (w : World) (hr0_0 : Kd.C k30 w A0_0 l0_0.length l0_0) (hc0_0 : l0_0.length ≤ c0_0) (h : spec_l02Less.f k l0_0 a1_0 a1_1 = some r) :
  Calls Try.prog 46 #[.agg #[.slice A0_0 l0_0.length c0_0], .agg #[.int .i64 a1_0, .int .i64 a1_1]] w fun e w' => ∃ v0_ : Value, e = .returned (.agg #[v0_]) ∧ Kd.R k30 30 w' w.heap.size (fun _ => True) v0_ r ∧ Below w.heap.size w w' := by
 have hu26 := Try.underlying26
 have hu28 := Try.underlying28
 have hu30 := Try.underlying30
 have HR0_0 := Aside0.mk hr0_0
 have HC0_0 := Aside0.mk hc0_0
 clear hr0_0 hc0_0
 have HB := Aside0.mk (Below.refl w.heap.size w)
 have H : (spec_l02Less.l0 k 0 l0_0 a1_0 a1_1 ([] : List (S30))) = some r := h
 clear h
 have H' := Aside0.mk H
 clear H
 go_enter Try.func46, Try.ntmps46
 go_wp2_with (first | ((with_reducible refine gate_dst (N := 2) rfl ?_); refine be_ 2 #[.slice A0_0 l0_0.length c0_0] 26 ?_; intro gb185 hg w3 BK185 hb; have GW185 := ge_ HB hg; have GE185 := ge_ HB hg; replace HB := at_ HB hb; clear hb hg) | ((with_reducible refine gate_dst (N := 3) rfl ?_); refine be_ 3 #[.int .i64 a1_0, .int .i64 a1_1] 28 ?_; intro gb186 hg w4 BK186 hb; have GW186 := ge_ HB hg; have GE186 := ge_ HB hg; have NB185_186 := nl_ BK185 hg; have NB186_185 := ng_ BK185 hg; replace HB := at_ HB hb; replace BK185 := ab_ BK185 hb; clear hb hg) | ((with_reducible refine gate_dst (N := 4) rfl ?_); refine be_ 4 #[.slice none 0 0] 26 ?_; intro gb187 hg w5 BK187 hb; have GW187 := ge_ HB hg; have GE187 := ge_ HB hg; have NB185_187 := nl_ BK185 hg; have NB187_185 := ng_ BK185 hg; have NB186_187 := nl_ BK186 hg; have NB187_186 := ng_ BK186 hg; replace HB := at_ HB hb; replace BK185 := ab_ BK185 hb; replace BK186 := ab_ BK186 hb; clear hb hg) | ((with_reducible refine gate_dst (N := 5) rfl ?_); refine be_ 5 #[.slice none 0 0] 26 ?_; intro gb188 hg w6 BK188 hb; have GW188 := ge_ HB hg; have GE188 := ge_ HB hg; have NB185_188 := nl_ BK185 hg; have NB188_185 := ng_ BK185 hg; have NB186_188 := nl_ BK186 hg; have NB188_186 := ng_ BK186 hg; have NB187_188 := nl_ BK187 hg; have NB188_187 := ng_ BK187 hg; replace HB := at_ HB hb; replace BK185 := ab_ BK185 hb; replace BK186 := ab_ BK186 hb; replace BK187 := ab_ BK187 hb; clear hb hg; have hnb7 := NB188_185.out; have hnc7 := NB185_188.out; have hnb8 := NB188_186.out; have hnc8 := NB186_188.out; have hnb9 := NB188_187.out; have hnc9 := NB187_188.out; have hcz10_0 := cz_ BK188 0 (.slice none 0 0); have hfz10_0 := fz_ BK188 0))
 go_loopg [6] k (fun kq v6 w' => ∃ (x6_1 : Int) (x189000_1 : List (S30)) (u189000 : Value), v6 = .int .i64 x6_1 ∧ Aside0 (spec_l02Less.l0 kq x6_1 l0_0 a1_0 a1_1 x189000_1 = some r) ∧ Aside0 (kq ≤ k) ∧ Aside0 (Kd.R k30 30 w' w.heap.size (fun _ => True) u189000 x189000_1) ∧ Aside0 (w'.heap[gb185]? = some (.cells #[(.slice A0_0 l0_0.length c0_0)] 26 (0, 0))) ∧ Aside0 (w'.heap[gb186]? = some (.cells #[.int .i64 a1_0, .int .i64 a1_1] 28 (0, 0))) ∧ Aside0 (w'.heap[gb187]? = some (.cells #[(.slice none 0 0)] 26 (0, 0))) ∧ Aside0 (w'.heap[gb188]? = some (.cells #[u189000] 26 (0, 0))) ∧ Aside0 (Below w.heap.size w w'))
 case atStart => exact ⟨(0), (([] : List (S30))), (.slice none 0 0), er_, H', ⟨Nat.le_refl _⟩, ⟨by first | exact Kd.R_nil _ _ _ _ _ | exact Kd.N_nil _ _ _ _ _ | exact Kd.V_nil _ _ _ _ _ | exact Kd.Q_nil _ _ _ _ _ | exact Kd.S_nil _ _ _ _ _⟩, ⟨bc_ BK185⟩, ⟨bc_ BK186⟩, ⟨bc_ BK187⟩, ⟨by refine bd_ ?_; refine blk_put (cs := #[.slice none 0 0]) ?_ 0 _ rfl; refine bd_ ?_; exact BK188.out⟩, ⟨bw112_⟩⟩
 case round =>
  clear H' hcz10_0 hfz10_0
  obtain ⟨x6_1, x189000_1, u189000, rfl, HA, HK1, HO_189000, BK185, BK186, BK187, BK188, HB⟩ := hrel
  cases gk with
  | zero => exact absurd HA.out (by simp [spec_l02Less.l0])
  | succ k1 =>
   have H := HA.out
   clear HA
   simp only [spec_l02Less.l0] at H
   by_cases c11 : x6_1 < (l0_0.length : Int)
   rotate_left
   ·rw [if_neg c11] at H
    have c11b0 : decide (x6_1 < (l0_0.length : Int)) = false := decide_eq_false c11
    clear c11
    obtain rfl := Option.some.inj H
    have hnb29 := NB185_186.out
    have hnc29 := NB186_185.out
    have hnb30 := NB185_187.out
    have hnc30 := NB187_185.out
    have hnb31 := NB185_188.out
    have hnc31 := NB188_185.out
    have hcz32_0 := cz_ BK185 0 (.slice A0_0 l0_0.length c0_0)
    have hfz32_0 := fz_ BK185 0
    have hnb33 := NB188_186.out
    have hnc33 := NB186_188.out
    have hnb34 := NB188_187.out
    have hnc34 := NB187_188.out
    have hcz35_0 := cz_ BK188 0 (u189000)
    have hfz35_0 := fz_ BK188 0
    obtain ⟨Ao36, co36, eo36⟩ := Kd.R_slice HO_189000.out
    subst eo36
    have hnb37 := NB187_186.out
    have hnc37 := NB186_187.out
    have hcz38_0 := cz_ BK187 0 (.slice none 0 0)
    have hfz38_0 := fz_ BK187 0
    go_wp2
    refine bodyPost_ret (results_cell_row rfl _ _ gb187 26 #[.slice Ao36 x189000_1.length co36] (0, 0) _ rfl (by refine bd_ ?_; refine blk_put (cs := #[.slice none 0 0]) ?_ 0 _ rfl; refine bd_ ?_; exact BK187.out) Try.underlying26 rfl (by kernel_rfl)) rfl ?_
    exact ⟨_, by first | rfl | (simp [errW_none, errW_some] <;> rfl) | (simp [*, errW_none, errW_some] <;> rfl), by (with_reducible repeat (first | apply Kd.R_alloc | apply Kd.R_drewN | apply Kd.R_drew)); exact Kd.R_mono (Kd.R_far (Kd.R_types HO_189000.out BK187.out (by decide)) (fun _ hk => hk.2) _) (fun _ hk => trivial), bw112_⟩
   rw [if_pos c11] at H
   have c11b0 : decide (x6_1 < (l0_0.length : Int)) = true := decide_eq_true c11
   clear c11
   obtain ⟨c12b0, H⟩ := iq_ H
   by_cases c13 : (!(((rd_T30 l0_0 x6_1).f0.f0) == a1_0) || (!(((rd_T30 l0_0 x6_1).f0.f1) == a1_1))) = true
   rotate_left
   ·rw [if_neg c13] at H
    have c13b0 : (!(((rd_T30 l0_0 x6_1).f0.f0) == a1_0) || (!(((rd_T30 l0_0 x6_1).f0.f1) == a1_1))) = false := by simpa using c13
    clear c13
    have H' := Aside0.mk H
    clear H
    have hnb24 := NB185_186.out
    have hnc24 := NB186_185.out
    have hnb25 := NB185_187.out
    have hnc25 := NB187_185.out
    have hnb26 := NB185_188.out
    have hnc26 := NB188_185.out
    have hcz27_0 := cz_ BK185 0 (.slice A0_0 l0_0.length c0_0)
    have hfz27_0 := fz_ BK185 0
    go_wp2
    replace HO_189000 := Aside0.mk (Kd.R_drew HO_189000.out)
    replace BK185 := ad_ BK185
    replace BK186 := ad_ BK186
    replace BK187 := ad_ BK187
    replace BK188 := ad_ BK188
    replace HB := Aside0.mk (below_drew1 HB.out)
    have p189 : 0 ≤ (x6_1 : Int) := oa_
    have q189 : x6_1 < (l0_0.length : Int) := oa_
    obtain ⟨ad189, e189, hx189_0, hx189_1, hx189_2⟩ := at_T30 HR0_0.out x6_1 p189 q189
    have hw189_2 := hx189_2
    have hw189_1 := hx189_1
    have hw189_0 := hx189_0
    cases e189
    replace hx189_0 := hc5_ HB hx189_0
    replace hx189_1 := hc5_ HB hx189_1
    replace hx189_2 := hc5_ HB hx189_2
    obtain ⟨p189, q189⟩ := et_ p189 q189
    refine start_ (n := 8) (S := fun w' => w'.cell? ⟨gb185, 0, none⟩ = some (.slice (some ad189) l0_0.length c0_0) ∧ w'.cell? ⟨gb186, 0, none⟩ = some (.int .i64 a1_0) ∧ w'.cell? ⟨gb186, 1, none⟩ = some (.int .i64 a1_1) ∧ w'.cell? (ad189.add ((x6_1).toNat * 3)) = some (.int .i64 ((rd_T30 l0_0 x6_1).f0.f0)) ∧ w'.cell? ⟨(ad189.add ((x6_1).toNat * 3)).block, (ad189.add ((x6_1).toNat * 3)).off + 1, none⟩ = some (.int .i64 ((rd_T30 l0_0 x6_1).f0.f1)) ∧ w'.cell? ⟨(ad189.add ((x6_1).toNat * 3)).block, (ad189.add ((x6_1).toNat * 3)).off + 2, none⟩ = some (.int .i64 ((rd_T30 l0_0 x6_1).f1))) (ds := []) ba8_12 (by kernel_rfl) rfl rfl ⟨bq5_ BK185 0, bq5_ BK186 0, bq5_ BK186 1, (hc_ HB hw189_0), (hc_ HB hw189_1), (hc_ HB hw189_2)⟩ (fun hHeld => ?_); refine with_tabW spec_l02Less.tab5 spec_l02Less.bits5 (fun HT_ HW_ => ?_)
    generalize wr.drew = w28 at HO_189000 BK185 BK186 BK187 BK188 HB hx189_0 hx189_1 hx189_2 hHeld ⊢
    refine pz_ 0 15 ba8_13 HT_ ?_
    refine pz_ 2 17 ba8_14 HT_ ?_
    refine pt_ 1 16 ba8_15 HT_ HW_ hHeld ?_
    refine pz_ 3 18 ba8_16 HT_ ?_
    refine pz_ 4 19 ba8_17 HT_ ?_
    refine pt_ 5 20 ba8_18 HT_ HW_ hHeld ?_
    refine pt_ 6 21 ba8_19 HT_ HW_ hHeld ?_
    refine pz_ 7 22 ba8_20 HT_ ?_
    refine done_ (done_of HT_.out (by kernel_rfl)) ?_
    go_wp2
    go_roundg k1
    case measure => have := HK1.out; omega
    case rel => exact ⟨(wrap64 (x6_1 + 1)), (x189000_1), (u189000), er_, H', ⟨by have := HK1.out; omega⟩, ⟨hd_ HO_189000⟩, ⟨bx_ BK185⟩, ⟨bx_ BK186⟩, ⟨bx_ BK187⟩, ⟨bx_ BK188⟩, ⟨bw112_⟩⟩
   rw [if_pos c13] at H
   have c13b0 : (!(((rd_T30 l0_0 x6_1).f0.f0) == a1_0) || (!(((rd_T30 l0_0 x6_1).f0.f1) == a1_1))) = true := c13
   clear c13
   by_cases c14 : x189000_1.length < 5864062014805
   rotate_left
   ·rw [if_neg c14] at H
    exact absurd H (by simp)
   rw [if_pos c14] at H
   have LMc14 := Aside0.mk c14
   clear c14
   obtain ⟨y191, hy191⟩ : ∃ y_ : List (S30), y_ = (x189000_1 ++ [(⟨(⟨(rd_T30 l0_0 x6_1).f0.f0, (rd_T30 l0_0 x6_1).f0.f1⟩ : S28), (rd_T30 l0_0 x6_1).f1⟩ : S30)]) := ⟨_, rfl⟩
   replace H : (spec_l02Less.l0 k1 (wrap64 (x6_1 + 1)) l0_0 a1_0 a1_1 y191) = some r := by first | (rw [hy191]; with_reducible exact H) | (have H2_ := (Option.bind_some _ _).symm.trans H; rw [hy191]; with_reducible exact H2_) | (have H2_ := (Option.bind_some _ _).symm.trans H; with_reducible exact H2_) | with_reducible exact H | (rw [hy191]; exact H) | exact H
   have Ny191 := Aside0.mk hy191
   clear hy191
   have H' := Aside0.mk H
   clear H
   have hnb15 := NB185_186.out
   have hnc15 := NB186_185.out
   have hnb16 := NB185_187.out
   have hnc16 := NB187_185.out
   have hnb17 := NB185_188.out
   have hnc17 := NB188_185.out
   have hcz18_0 := cz_ BK185 0 (.slice A0_0 l0_0.length c0_0)
   have hfz18_0 := fz_ BK185 0
   go_wp2
   replace HO_189000 := Aside0.mk (Kd.R_drew HO_189000.out)
   replace BK185 := ad_ BK185
   replace BK186 := ad_ BK186
   replace BK187 := ad_ BK187
   replace BK188 := ad_ BK188
   replace HB := Aside0.mk (below_drew1 HB.out)
   have p189 : 0 ≤ (x6_1 : Int) := oa_
   have q189 : x6_1 < (l0_0.length : Int) := oa_
   obtain ⟨ad189, e189, hx189_0, hx189_1, hx189_2⟩ := at_T30 HR0_0.out x6_1 p189 q189
   have hw189_2 := hx189_2
   have hw189_1 := hx189_1
   have hw189_0 := hx189_0
   cases e189
   replace hx189_0 := hc5_ HB hx189_0
   replace hx189_1 := hc5_ HB hx189_1
   replace hx189_2 := hc5_ HB hx189_2
   obtain ⟨p189, q189⟩ := et_ p189 q189
   refine start_ (n := 8) (S := fun w' => w'.cell? ⟨gb185, 0, none⟩ = some (.slice (some ad189) l0_0.length c0_0) ∧ w'.cell? ⟨gb186, 0, none⟩ = some (.int .i64 a1_0) ∧ w'.cell? ⟨gb186, 1, none⟩ = some (.int .i64 a1_1) ∧ w'.cell? (ad189.add ((x6_1).toNat * 3)) = some (.int .i64 ((rd_T30 l0_0 x6_1).f0.f0)) ∧ w'.cell? ⟨(ad189.add ((x6_1).toNat * 3)).block, (ad189.add ((x6_1).toNat * 3)).off + 1, none⟩ = some (.int .i64 ((rd_T30 l0_0 x6_1).f0.f1)) ∧ w'.cell? ⟨(ad189.add ((x6_1).toNat * 3)).block, (ad189.add ((x6_1).toNat * 3)).off + 2, none⟩ = some (.int .i64 ((rd_T30 l0_0 x6_1).f1))) (ds := []) ba8_12 (by kernel_rfl) rfl rfl ⟨bq5_ BK185 0, bq5_ BK186 0, bq5_ BK186 1, (hc_ HB hw189_0), (hc_ HB hw189_1), (hc_ HB hw189_2)⟩ (fun hHeld => ?_); refine with_tabW spec_l02Less.tab5 spec_l02Less.bits5 (fun HT_ HW_ => ?_)
   generalize wr.drew = w19 at HO_189000 BK185 BK186 BK187 BK188 HB hx189_0 hx189_1 hx189_2 hHeld ⊢
   refine pz_ 0 15 ba8_13 HT_ ?_
   refine pz_ 2 17 ba8_14 HT_ ?_
   refine pt_ 1 16 ba8_15 HT_ HW_ hHeld ?_
   refine pz_ 3 18 ba8_16 HT_ ?_
   refine pz_ 4 19 ba8_17 HT_ ?_
   refine pt_ 5 20 ba8_18 HT_ HW_ hHeld ?_
   refine pt_ 6 21 ba8_19 HT_ HW_ hHeld ?_
   refine pz_ 7 22 ba8_20 HT_ ?_
   refine done_ (done_of HT_.out (by kernel_rfl)) ?_
   go_wp2
   replace HO_189000 := Aside0.mk (Kd.R_drew HO_189000.out)
   replace BK185 := ad_ BK185
   replace BK186 := ad_ BK186
   replace BK187 := ad_ BK187
   replace BK188 := ad_ BK188
   replace HB := Aside0.mk (below_drew1 HB.out)
   have p190 : 0 ≤ (x6_1 : Int) := oa_
   have q190 : x6_1 < (l0_0.length : Int) := oa_
   obtain ⟨ad190, e190, hx190_0, hx190_1, hx190_2⟩ := at_T30 HR0_0.out x6_1 p190 q190
   have hw190_2 := hx190_2
   have hw190_1 := hx190_1
   have hw190_0 := hx190_0
   obtain rfl : ad189 = ad190 := (by injection e190)
   replace hx190_0 := hc5_ HB hx190_0
   replace hx190_1 := hc5_ HB hx190_1
   replace hx190_2 := hc5_ HB hx190_2
   obtain ⟨p190, q190⟩ := et_ p190 q190
   refine start_ (n := 11) (S := fun w' => w'.cell? ⟨gb188, 0, none⟩ = some (u189000) ∧ w'.cell? ⟨gb185, 0, none⟩ = some (.slice (some ad189) l0_0.length c0_0) ∧ w'.cell? (ad189.add ((x6_1).toNat * 3)) = some (.int .i64 ((rd_T30 l0_0 x6_1).f0.f0)) ∧ w'.cell? ⟨(ad189.add ((x6_1).toNat * 3)).block, (ad189.add ((x6_1).toNat * 3)).off + 1, none⟩ = some (.int .i64 ((rd_T30 l0_0 x6_1).f0.f1)) ∧ w'.cell? ⟨(ad189.add ((x6_1).toNat * 3)).block, (ad189.add ((x6_1).toNat * 3)).off + 2, none⟩ = some (.int .i64 ((rd_T30 l0_0 x6_1).f1))) (ds := [10]) ba8_0 (by kernel_rfl) rfl rfl ⟨bq5_ BK188 0, bq5_ BK185 0, (hc_ HB hw190_0), (hc_ HB hw190_1), (hc_ HB hw190_2)⟩ (fun hHeld => ?_); refine with_tabW spec_l02Less.tab6 spec_l02Less.bits6 (fun HT_ HW_ => ?_)
   generalize w19.drew = w20 at HO_189000 BK185 BK186 BK187 BK188 HB hx190_0 hx190_1 hx190_2 hHeld ⊢
   refine pz_ 0 23 ba8_1 HT_ ?_
   refine pz_ 2 25 ba8_2 HT_ ?_
   refine pz_ 4 27 ba8_3 HT_ ?_
   refine pt_ 1 24 ba8_4 HT_ HW_ hHeld ?_
   refine pt_ 3 26 ba8_5 HT_ HW_ hHeld ?_
   refine pz_ 5 28 ba8_6 HT_ ?_
   refine pt_ 6 29 ba8_7 HT_ HW_ hHeld ?_
   refine on_ 7 (some 30) ba8_8 HT_ (fun K hK => ?_)
   refine value_ (w1 := ?_) (v := ?_) (by rfl) rfl ?_ ?_
   rotate_left 2
   ·go_simp
    constructor
    ·rfl
    ·rfl
   refine hK.out _ _ ⟨(blk_cell (blk_alloc BK188.out _) 0).trans rfl, (blk_cell (blk_alloc BK185.out _) 0).trans rfl, (World.cell?_alloc_lt _ _ _ (World.block_lt_of_cell? _ _ ((hc_ HB hw190_0)))).trans ((hc_ HB hw190_0)), (World.cell?_alloc_lt _ _ _ (World.block_lt_of_cell? _ _ ((hc_ HB hw190_1)))).trans ((hc_ HB hw190_1)), (World.cell?_alloc_lt _ _ _ (World.block_lt_of_cell? _ _ ((hc_ HB hw190_2)))).trans ((hc_ HB hw190_2))⟩ (fun hHeld => ?_)
   clear hK K
   refine nz_ 30 ?_
   refine on_ 8 (some 31) ba8_9 HT_ (fun K hK => ?_)
   refine Kd.R_append_step k30 (w0 := w) w.heap.size (by rfl) (.tmp 24) (.tmp 30) 24 30 (.agg #[(.int .i64 0), (.int .i64 0), (.int .i64 0)]) 24 rfl Try.underlying24 info30 rfl (by decide) (by omega) u189000 x189000_1 (⟨(⟨(rd_T30 l0_0 x6_1).f0.f0, (rd_T30 l0_0 x6_1).f0.f1⟩ : S28), (rd_T30 l0_0 x6_1).f1⟩ : S30) [.int .i64 ((rd_T30 l0_0 x6_1).f0.f0), .int .i64 ((rd_T30 l0_0 x6_1).f0.f1), .int .i64 ((rd_T30 l0_0 x6_1).f1)] (fun _ => True) (fun _ => False) rfl rfl ?aP (fun _ hk => hk.elim) ?aF ?aO ?aB ?aS ?aL ?_
   (case aP => exact k30_mkM _ _ _ (⟨(⟨(rd_T30 l0_0 x6_1).f0.f0, (rd_T30 l0_0 x6_1).f0.f1⟩ : S28), (rd_T30 l0_0 x6_1).f1⟩ : S30))
   (case aB => exact (bw112_))
   (case aF => exact (fun _ _ => trivial))
   (case aO => exact (hd_ HO_189000))
   (case aS => exact (bz_ HB))
   (case aL => have := LMc14.out; omega)
   intro v192 w21 ho hb hg hat
   rw [← Ny191.out] at ho
   have HO193 := Aside0.mk ho
   replace BK185 := Aside0.mk (blk_grown (g := gb185) (o := .cells #[.slice (some ad189) l0_0.length c0_0] 26 (0, 0)) (bx_ BK185) hg (Kd.R_ne HO_189000.out BK185.out (by decide)))
   replace BK186 := Aside0.mk (blk_grown (g := gb186) (o := .cells #[.int .i64 a1_0, .int .i64 a1_1] 28 (0, 0)) (bx_ BK186) hg (Kd.R_ne HO_189000.out BK186.out (by decide)))
   replace BK187 := Aside0.mk (blk_grown (g := gb187) (o := .cells #[.slice none 0 0] 26 (0, 0)) (bx_ BK187) hg (Kd.R_ne HO_189000.out BK187.out (by decide)))
   replace BK188 := Aside0.mk (blk_grown (g := gb188) (o := .cells #[u189000] 26 (0, 0)) (bx_ BK188) hg (Kd.R_ne HO_189000.out BK188.out (by decide)))
   replace HB := Aside0.mk (hb)
   clear HO_189000 ho hb hg hat
   obtain ⟨Ao22, co22, eo22⟩ := Kd.R_slice HO193.out
   subst eo22
   refine hK.out _ _ ⟨bq5_ BK188 0, bq5_ BK185 0, (hc_ HB hw190_0), (hc_ HB hw190_1), (hc_ HB hw190_2)⟩ (fun hHeld => ?_)
   clear hK K
   refine nz_ 31 ?_
   refine pz_ 9 32 ba8_10 HT_ ?_
   refine last_ (i := 10) (N := none) ba8_11 rfl rfl (one_of HT_.out (by kernel_rfl)) (by decide) (fun K hK => ?_)
   have hs23 : w21.cell? ⟨gb188, 0, none⟩ = some (u189000) := bq5_ BK188 0
   have hfs23 := fz_ BK188 0
   have hns23_0 := NB185_188.out
   have hns23_1 := NB186_188.out
   have hns23_2 := NB187_188.out
   have hms23_0 := NB188_185.out
   have hms23_1 := NB188_186.out
   have hms23_2 := NB188_187.out
   refine skip_ (w1 := ?_) (by rfl) rfl ?_ ?_
   rotate_left; · go_simp; rfl
   refine hK.out _ _ ?_
   clear hK K
   refine done_ (done_of HT_.out (by kernel_rfl)) ?_
   go_wp2
   go_roundg k1
   case measure => have := HK1.out; omega
   case rel => exact ⟨(wrap64 (x6_1 + 1)), (y191), (.slice Ao22 y191.length co22), er_, H', ⟨by have := HK1.out; omega⟩, ⟨by (with_reducible repeat (first | apply Kd.R_alloc | apply Kd.R_drewN | apply Kd.R_drew)); exact Kd.R_mono (Kd.R_far (Kd.R_types HO193.out BK188.out (by decide)) (fun _ hk => hk.2) _) (fun _ hk => trivial)⟩, ⟨bc_ BK185⟩, ⟨bc_ BK186⟩, ⟨bc_ BK187⟩, ⟨by refine bd_ ?_; refine blk_put (cs := #[u189000]) ?_ 0 _ rfl; refine bd_ ?_; exact BK188.out⟩, ⟨bw112_⟩⟩

end Go.Proofs.Ytjepmdngbafonaa.QFnSqueezed
