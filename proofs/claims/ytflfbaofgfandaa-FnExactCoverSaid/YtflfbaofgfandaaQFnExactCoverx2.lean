/- Contracts of functions that the law reaches: what each call returns and what it leaves in memory. Made by this session over the print of the kit. -/
import Derived.Test.YtflfbaofgfandaaQFnExactCoverx0
import Derived.Test.YtflfbaofgfandaaQFnExactCoverx1
namespace Go.Proofs.Ytflfbaofgfandaa.QFnExactCover
open Go.RowKit Go.Proofs.YtflfbaofgfandaaC.PrintWords Go.Proofs.YtflfbaofgfandaaC.PrintLast Go.Proofs.YtflfbaofgfandaaC.PrintMore
attribute [local go_sem] max2_int min2_int max_two min_two max_three min_three max_four min_four   -- for this text's walks alone
set_option linter.unusedVariables false
set_option linter.unusedSimpArgs false
abbrev tb2 : Bool := true
abbrev fb2 : Bool := false
def ba2_0 : Array Bool := #[fb2,fb2,fb2,fb2,fb2,fb2,fb2,fb2,fb2,fb2,fb2,fb2,fb2,fb2,fb2,fb2,fb2,fb2]
def ba2_1 : Array Bool := #[tb2,fb2,fb2,fb2,fb2,fb2,fb2,fb2,fb2,fb2,fb2,fb2,fb2,fb2,fb2,fb2,fb2,fb2]
def ba2_2 : Array Bool := #[tb2,fb2,tb2,fb2,fb2,fb2,fb2,fb2,fb2,fb2,fb2,fb2,fb2,fb2,fb2,fb2,fb2,fb2]
def ba2_3 : Array Bool := #[tb2,fb2,tb2,fb2,fb2,fb2,tb2,fb2,fb2,fb2,fb2,fb2,fb2,fb2,fb2,fb2,fb2,fb2]
def ba2_4 : Array Bool := #[tb2,fb2,tb2,fb2,fb2,fb2,tb2,fb2,fb2,fb2,fb2,fb2,tb2,fb2,fb2,fb2,fb2,fb2]
def ba2_5 : Array Bool := #[tb2,tb2,tb2,fb2,fb2,fb2,tb2,fb2,fb2,fb2,fb2,fb2,tb2,fb2,fb2,fb2,fb2,fb2]
def ba2_6 : Array Bool := #[tb2,tb2,tb2,tb2,fb2,fb2,tb2,fb2,fb2,fb2,fb2,fb2,tb2,fb2,fb2,fb2,fb2,fb2]
def ba2_7 : Array Bool := #[tb2,tb2,tb2,tb2,tb2,fb2,tb2,fb2,fb2,fb2,fb2,fb2,tb2,fb2,fb2,fb2,fb2,fb2]
def ba2_8 : Array Bool := #[tb2,tb2,tb2,tb2,tb2,tb2,tb2,fb2,fb2,fb2,fb2,fb2,tb2,fb2,fb2,fb2,fb2,fb2]
def ba2_9 : Array Bool := #[tb2,tb2,tb2,tb2,tb2,tb2,tb2,tb2,fb2,fb2,fb2,fb2,tb2,fb2,fb2,fb2,fb2,fb2]
def ba2_10 : Array Bool := #[tb2,tb2,tb2,tb2,tb2,tb2,tb2,tb2,tb2,fb2,fb2,fb2,tb2,fb2,fb2,fb2,fb2,fb2]
def ba2_11 : Array Bool := #[tb2,tb2,tb2,tb2,tb2,tb2,tb2,tb2,tb2,fb2,fb2,fb2,tb2,tb2,fb2,fb2,fb2,fb2]
def ba2_12 : Array Bool := #[tb2,tb2,tb2,tb2,tb2,tb2,tb2,tb2,tb2,fb2,fb2,fb2,tb2,tb2,tb2,fb2,fb2,fb2]
def ba2_13 : Array Bool := #[tb2,tb2,tb2,tb2,tb2,tb2,tb2,tb2,tb2,tb2,fb2,fb2,tb2,tb2,tb2,fb2,fb2,fb2]
def ba2_14 : Array Bool := #[tb2,tb2,tb2,tb2,tb2,tb2,tb2,tb2,tb2,tb2,tb2,fb2,tb2,tb2,tb2,fb2,fb2,fb2]
def ba2_15 : Array Bool := #[tb2,tb2,tb2,tb2,tb2,tb2,tb2,tb2,tb2,tb2,tb2,tb2,tb2,tb2,tb2,fb2,fb2,fb2]
def ba2_16 : Array Bool := #[tb2,tb2,tb2,tb2,tb2,tb2,tb2,tb2,tb2,tb2,tb2,tb2,tb2,tb2,tb2,tb2,fb2,fb2]
def ba2_17 : Array Bool := #[tb2,tb2,tb2,tb2,tb2,tb2,tb2,tb2,tb2,tb2,tb2,tb2,tb2,tb2,tb2,tb2,tb2,fb2]
def ba2_18 : Array Bool := #[tb2,tb2,tb2,tb2,tb2,tb2,tb2,tb2,tb2,tb2,tb2,tb2,tb2,tb2,tb2,tb2,tb2,tb2]
def ba2_19 : Array Bool := #[fb2,fb2,fb2,fb2,fb2,fb2,fb2,fb2]
def ba2_20 : Array Bool := #[fb2,tb2,fb2,fb2,fb2,fb2,fb2,fb2]
def ba2_21 : Array Bool := #[fb2,tb2,fb2,tb2,fb2,fb2,fb2,fb2]
def ba2_22 : Array Bool := #[fb2,tb2,fb2,tb2,tb2,fb2,fb2,fb2]
def ba2_23 : Array Bool := #[tb2,tb2,fb2,tb2,tb2,fb2,fb2,fb2]
def ba2_24 : Array Bool := #[tb2,tb2,tb2,tb2,tb2,fb2,fb2,fb2]
def ba2_25 : Array Bool := #[tb2,tb2,tb2,tb2,tb2,tb2,fb2,fb2]
def ba2_26 : Array Bool := #[tb2,tb2,tb2,tb2,tb2,tb2,tb2,fb2]
def ba2_27 : Array Bool := #[tb2,tb2,tb2,tb2,tb2,tb2,tb2,tb2]

/-! ### impl_Prefix_halves: function 66 -/
def impl_Prefix_halves.f (a0_0 : Int) (a0_1 : Int) : Option (Int × Int × Int × Int) := (impl_Prefix_size.f a0_0 a0_1).bind fun t122 => (some (a0_0, wrap64 (a0_1 + 1), wrap64 (a0_0 + (wrap64 (Int.tdiv t122 2))), wrap64 (a0_1 + 1)))
def impl_Prefix_halves.T1 : Bool × List (List Nat × List Nat) := (true, [([], []), ([0], [0]), ([], []), ([2], [2]), ([3], [3]), ([1, 4], [1, 4]), ([], []), ([6], [6]), ([], []), ([8], [8]), ([9], [9]), ([7, 10], [7, 10]), ([], []), ([12], [12]), ([13], [13]), ([11, 14], [11, 14]), ([5, 9, 0, 1, 2, 3, 4, 5], [5]), ([15, 16, 0, 1, 2, 3, 4, 5, 6, 7, 8, 9, 10, 11, 12, 13, 14, 15, 16], [15])])
def impl_Prefix_halves.B1 : List Nat := [0, 1, 0, 4, 12, 31, 0, 64, 0, 256, 768, 1984, 0, 4096, 12288, 32704, 831, 131071]
theorem impl_Prefix_halves.tab1 : rtab .any (opsOf Try.f66 1) = impl_Prefix_halves.T1 := by kernel_rfl
theorem impl_Prefix_halves.bits1 : waitsOk impl_Prefix_halves.T1.2 impl_Prefix_halves.B1 = true := by kernel_rfl
set_option maxHeartbeats 8000000 in
set_option maxRecDepth 100000 in
theorem impl_Prefix_halves.calls (a0_0 : Int) (a0_1 : Int) (r1 : Int) (r2 : Int) (r3 : Int) (r4 : Int) (w : World) (h : impl_Prefix_halves.f a0_0 a0_1 = some (r1, r2, r3, r4)) :
  Calls Try.prog 66 #[.agg #[.int .i64 a0_0, .int .i64 a0_1]] w fun e w' => e = .returned (.tuple #[.agg #[.int .i64 r1, .int .i64 r2], .agg #[.int .i64 r3, .int .i64 r4]]) ∧ Below w.heap.size w w' := by
 have hu34 := Try.underlying34
 have HB := Aside0.mk (Below.refl w.heap.size w)
 have H : ((impl_Prefix_size.f a0_0 a0_1).bind fun t122 => (some (a0_0, wrap64 (a0_1 + 1), wrap64 (a0_0 + (wrap64 (Int.tdiv t122 2))), wrap64 (a0_1 + 1)))) = some (r1, r2, r3, r4) := h
 clear h
 replace H := Option.bind_eq_some_iff.mp H
 obtain ⟨t122, A20, H⟩ := H
 have A2 := Aside0.mk A20
 clear A20
 simp only [Option.some.injEq, Prod.mk.injEq] at H
 obtain ⟨rfl, rfl, rfl, rfl⟩ := H
 go_enter Try.func66, Try.ntmps66
 try go_wp2_with (first | ((with_reducible refine gate_dst (N := 1) rfl ?_); refine box_event ?hg (N := 1) ?hd (cs := #[.int .i64 a0_0, .int .i64 a0_1]) (t := 34) ?hr ?_; (case hd => rfl); (case hg => rfl); (case hr => first | (go_simp; done) | (go_simp; rfl)); intro gb119 hg w3 hbox hb; have BK119 := Aside0.mk hbox; have GW119 := ge_ HB hg; have GE119 := ge_ HB hg; replace HB := Aside0.mk (bt_ HB hb); clear hb hbox hg) | ((with_reducible refine gate_dst (N := 2) rfl ?_); refine box_event ?hg (N := 2) ?hd (cs := #[.int .i64 0, .int .i64 0]) (t := 34) ?hr ?_; (case hd => rfl); (case hg => rfl); (case hr => first | (go_simp; done) | (go_simp; rfl)); intro gb120 hg w4 hbox hb; have BK120 := Aside0.mk hbox; have GW120 := ge_ HB hg; have GE120 := ge_ HB hg; have NB119_120 := nl_ BK119 hg; have NB120_119 := ng_ BK119 hg; replace HB := Aside0.mk (bt_ HB hb); replace BK119 := Aside0.mk (bb_ BK119 hb); clear hb hbox hg) | ((with_reducible refine gate_dst (N := 3) rfl ?_); refine box_event ?hg (N := 3) ?hd (cs := #[.int .i64 0, .int .i64 0]) (t := 34) ?hr ?_; (case hd => rfl); (case hg => rfl); (case hr => first | (go_simp; done) | (go_simp; rfl)); intro gb121 hg w5 hbox hb; have BK121 := Aside0.mk hbox; have GW121 := ge_ HB hg; have GE121 := ge_ HB hg; have NB119_121 := nl_ BK119 hg; have NB121_119 := ng_ BK119 hg; have NB120_121 := nl_ BK120 hg; have NB121_120 := ng_ BK120 hg; replace HB := Aside0.mk (bt_ HB hb); replace BK119 := Aside0.mk (bb_ BK119 hb); replace BK120 := Aside0.mk (bb_ BK120 hb); clear hb hbox hg))
 replace BK119 := Aside0.mk (blk_drew BK119.out)
 replace BK120 := Aside0.mk (blk_drew BK120.out)
 replace BK121 := Aside0.mk (blk_drew BK121.out)
 replace HB := Aside0.mk (below_drew1 HB.out)
 refine start_ (n := 18) (S := fun w' => w'.cell? ⟨gb119, 0, none⟩ = some (.int .i64 a0_0) ∧ w'.cell? ⟨gb119, 1, none⟩ = some (.int .i64 a0_1)) (ds := []) ba2_0 (by kernel_rfl) rfl rfl ⟨(blk_cell BK119.out 0).trans rfl, (blk_cell BK119.out 1).trans rfl⟩ (fun hHeld => ?_); refine with_tabW impl_Prefix_halves.tab1 impl_Prefix_halves.bits1 (fun HT_ HW_ => ?_)
 generalize w5.drew = w6 at BK119 BK120 BK121 HB hHeld ⊢
 refine pz_ 0 4 ba2_1 HT_ ?_
 refine pz_ 2 6 ba2_2 HT_ ?_
 refine pz_ 6 10 ba2_3 HT_ ?_
 refine pz_ 12 16 ba2_4 HT_ ?_
 refine pt_ 1 5 ba2_5 HT_ HW_ hHeld ?_
 refine pt_ 3 7 ba2_6 HT_ HW_ hHeld ?_
 refine pz_ 4 8 ba2_7 HT_ ?_
 refine pz_ 5 9 ba2_8 HT_ ?_
 refine pt_ 7 11 ba2_9 HT_ HW_ hHeld ?_
 refine pt_ 8 12 ba2_10 HT_ HW_ hHeld ?_
 refine pt_ 13 17 ba2_11 HT_ HW_ hHeld ?_
 refine pz_ 14 18 ba2_12 HT_ ?_
 refine one_ (i := 9) (N := some 13) ba2_13 rfl rfl (one_of HT_.out (by kernel_rfl)) (by decide) (fun K hK => ?_)
 refine gz_ Try.func47 #[.agg #[.int .i64 a0_0, .int .i64 a0_1]] ?_
 with_reducible refine (impl_Prefix_size.calls a0_0 a0_1 t122 _ A2.out).mono ?_
 rintro e w7 ⟨rfl, hb⟩
 refine ⟨_, rfl, ?_⟩
 replace BK119 := Aside0.mk (bb_ BK119 hb)
 replace BK120 := Aside0.mk (bb_ BK120 hb)
 replace BK121 := Aside0.mk (bb_ BK121 hb)
 replace HB := Aside0.mk (bt_ HB hb)
 (try clear hb)
 (try clear hb2)
 (try clear hk)
 (try clear hi)
 refine hK.out _ _ ⟨(blk_cell BK119.out 0).trans rfl, (blk_cell BK119.out 1).trans rfl⟩ (fun hHeld => ?_)
 clear hK K
 refine nz_ 13 ?_
 refine pz_ 10 14 ba2_14 HT_ ?_
 refine pz_ 11 15 ba2_15 HT_ ?_
 refine pz_ 15 19 ba2_16 HT_ ?_
 refine one_ (i := 16) (N := none) ba2_17 rfl rfl (one_of HT_.out (by kernel_rfl)) (by decide) (fun K hK => ?_)
 have hs8 : w7.cell? ⟨gb120, 0, none⟩ = some (.int .i64 0) := (blk_cell BK120.out 0).trans rfl
 have hfs8 := blk_frozen BK120.out 0
 have hns8_0 := NB119_120.out
 have hns8_2 := NB121_120.out
 have hms8_0 := NB120_119.out
 have hms8_2 := NB120_121.out
 have hs9 : w7.cell? ⟨gb120, 1, none⟩ = some (.int .i64 0) := (blk_cell BK120.out 1).trans rfl
 have hfs9 := blk_frozen BK120.out 1
 have hns9_0 := NB119_120.out
 have hns9_2 := NB121_120.out
 have hms9_0 := NB120_119.out
 have hms9_2 := NB120_121.out
 refine skip_ (w1 := ?_) (by rfl) rfl ?_ ?_
 rotate_left; · go_simp; rfl
 refine hK.out _ _ ⟨((cell_far (p := ⟨gb120, _, none⟩) NB119_120.out _).trans (((cell_far (p := ⟨gb120, _, none⟩) NB119_120.out _).trans (hHeld.1)))), ((cell_far (p := ⟨gb120, _, none⟩) NB119_120.out _).trans (((cell_far (p := ⟨gb120, _, none⟩) NB119_120.out _).trans (hHeld.2))))⟩ (fun hHeld => ?_)
 clear hK K
 refine one_ (i := 17) (N := none) ba2_18 rfl rfl (one_of HT_.out (by kernel_rfl)) (by decide) (fun K hK => ?_)
 have hs10 : w7.cell? ⟨gb121, 0, none⟩ = some (.int .i64 0) := (blk_cell BK121.out 0).trans rfl
 have hfs10 := blk_frozen BK121.out 0
 have hns10_0 := NB119_121.out
 have hns10_1 := NB120_121.out
 have hms10_0 := NB121_119.out
 have hms10_1 := NB121_120.out
 have hs11 : w7.cell? ⟨gb121, 1, none⟩ = some (.int .i64 0) := (blk_cell BK121.out 1).trans rfl
 have hfs11 := blk_frozen BK121.out 1
 have hns11_0 := NB119_121.out
 have hns11_1 := NB120_121.out
 have hms11_0 := NB121_119.out
 have hms11_1 := NB121_120.out
 refine skip_ (w1 := ?_) (by rfl) rfl ?_ ?_
 rotate_left; · go_simp; rfl
 refine hK.out _ _ ⟨((cell_far (p := ⟨gb121, _, none⟩) NB119_121.out _).trans (((cell_far (p := ⟨gb121, _, none⟩) NB119_121.out _).trans (hHeld.1)))), ((cell_far (p := ⟨gb121, _, none⟩) NB119_121.out _).trans (((cell_far (p := ⟨gb121, _, none⟩) NB119_121.out _).trans (hHeld.2))))⟩ (fun hHeld => ?_)
 clear hK K
 refine done_ (done_of HT_.out (by kernel_rfl)) ?_
 try go_wp2
 refine bodyPost_ret (results_cc rfl _ _ gb120 gb121 34 34 #[.int .i64 a0_0, .int .i64 (wrap64 (a0_1 + 1))] #[.int .i64 (wrap64 (a0_0 + (wrap64 (Int.tdiv t122 2)))), .int .i64 (wrap64 (a0_1 + 1))] (0, 0) (0, 0) _ _ rfl (by (with_reducible repeat (first | refine blk_drewN ?_ _ | refine blk_drew ?_ | refine blk_alloc ?_ _)); refine blk_far ?_ NB120_121.out _; (with_reducible repeat (first | refine blk_drewN ?_ _ | refine blk_drew ?_ | refine blk_alloc ?_ _)); refine blk_far ?_ NB120_121.out _; (with_reducible repeat (first | refine blk_drewN ?_ _ | refine blk_drew ?_ | refine blk_alloc ?_ _)); refine blk_put (cs := #[.int .i64 a0_0, .int .i64 0]) ?_ 1 _ rfl; (with_reducible repeat (first | refine blk_drewN ?_ _ | refine blk_drew ?_ | refine blk_alloc ?_ _)); refine blk_put (cs := #[.int .i64 0, .int .i64 0]) ?_ 0 _ rfl; (with_reducible repeat (first | refine blk_drewN ?_ _ | refine blk_drew ?_ | refine blk_alloc ?_ _)); exact BK120.out) Try.underlying34 rfl (by kernel_rfl) rfl (by (with_reducible repeat (first | refine blk_drewN ?_ _ | refine blk_drew ?_ | refine blk_alloc ?_ _)); refine blk_put (cs := #[.int .i64 (wrap64 (a0_0 + (wrap64 (Int.tdiv t122 2)))), .int .i64 0]) ?_ 1 _ rfl; (with_reducible repeat (first | refine blk_drewN ?_ _ | refine blk_drew ?_ | refine blk_alloc ?_ _)); refine blk_put (cs := #[.int .i64 0, .int .i64 0]) ?_ 0 _ rfl; (with_reducible repeat (first | refine blk_drewN ?_ _ | refine blk_drew ?_ | refine blk_alloc ?_ _)); refine blk_far ?_ NB121_120.out _; (with_reducible repeat (first | refine blk_drewN ?_ _ | refine blk_drew ?_ | refine blk_alloc ?_ _)); refine blk_far ?_ NB121_120.out _; (with_reducible repeat (first | refine blk_drewN ?_ _ | refine blk_drew ?_ | refine blk_alloc ?_ _)); exact BK121.out) Try.underlying34 rfl (by kernel_rfl)) rfl ?_
 exact ⟨by first | rfl | (simp [errW_none, errW_some] <;> rfl) | (simp [*, errW_none, errW_some] <;> rfl), by repeat (first | (with_reducible first | exact HB.out | apply below_alloc | apply pw_below_drewN | apply below_drew1 | refine below_set ?_ GE119.out | refine below_set ?_ GE120.out | refine below_set ?_ GE121.out) | exact HB.out)⟩

/-! ### impl_shortest: function 45 -/
def impl_shortest.f : Nat → Int → Int → List Int → List Int → List (S34) → Option ((List (S34)))
 | 0, _, _, _, _, _ => none
 | k + 1, a0_0, a0_1, l1_0, l1_1, l2 => (impl_Cover_1.f a0_0 a0_1 l1_0 l1_1).bind fun t124 => (if t124 = 0 then (some l2) else ((impl_Prefix_size.f a0_0 a0_1).bind fun t125 => (if t124 = t125 then (if l2.length < 8796093022208 then (some (l2 ++ [(⟨a0_0, a0_1⟩ : S34)])) else (none)) else ((impl_Prefix_halves.f a0_0 a0_1).bind fun bt129 => ((impl_shortest.f k bt129.1 bt129.2.1 l1_0 l1_1 l2).bind fun t135 => ((impl_shortest.f k bt129.2.2.1 bt129.2.2.2 l1_0 l1_1 t135).bind fun t138 => (some t138)))))))
theorem impl_shortest.mono_l : ∀ k, (∀ y0 y1 y2 y3 y4, LeO (impl_shortest.f k y0 y1 y2 y3 y4) (impl_shortest.f (k + 1) y0 y1 y2 y3 y4))
 | 0 => fun _ _ _ _ _ r h => by simp [impl_shortest.f] at h
 | k + 1 => by
  have ih0 := impl_shortest.mono_l k
  ·intro y0 y1 y2 y3 y4
   unfold impl_shortest.f
   repeat' first
   | (with_reducible exact ih0 _ _ _ _ _)
   | (with_reducible exact LeO.refl _)
   | (with_reducible exact LeO.none _)
   | (with_reducible refine LeO.ite ?_ ?_)
   | (with_reducible refine LeO.bind ?_ (fun _ => ?_))
   | exact ih0 _ _ _ _ _
   | exact LeO.none _
   | refine LeO.ite ?_ ?_
   | refine LeO.bind ?_ (fun _ => ?_)
theorem impl_shortest.mono : ∀ a0 a1 a2 a3 a4 k, LeO (impl_shortest.f k a0 a1 a2 a3 a4) (impl_shortest.f (k + 1) a0 a1 a2 a3 a4) := by
 intro a0 a1 a2 a3 a4 k
 have ih0 := impl_shortest.mono_l k
 exact ih0 a0 a1 a2 a3 a4
def impl_shortest.T7 : Bool × List (List Nat × List Nat) := (true, [([], []), ([], []), ([], []), ([], []), ([], []), ([2, 3, 4], [2, 3, 4]), ([0, 1, 5, 5], [0, 1, 5]), ([6, 6, 0, 1, 2, 3, 4, 5, 6], [6])])
def impl_shortest.B7 : List Nat := [0, 0, 0, 0, 0, 28, 63, 127]
theorem impl_shortest.tab7 : rtab .any (opsOf Try.f45 7) = impl_shortest.T7 := by kernel_rfl
theorem impl_shortest.bits7 : waitsOk impl_shortest.T7.2 impl_shortest.B7 = true := by kernel_rfl
set_option maxHeartbeats 8000000 in
set_option maxRecDepth 100000 in
theorem impl_shortest.calls (k : Nat) : ∀ (a0_0 : Int) (a0_1 : Int) (A1_0 : Option Addr) (l1_0 : List Int) (A1_1 : Option Addr) (l1_1 : List Int) (P2_ : Nat → Prop) (u9000_ : Value) (l2 : List (S34)) (r : List (S34)) (w0 w : World) (hB : Below w0.heap.size w0 w) (hr1_0 : ∀ W_, Kept w W_ (fun k_ => P2_ k_) → Kd.C (Kd.int .i64) W_ A1_0 l1_0.length l1_0) (hr1_1 : ∀ W_, Kept w W_ (fun k_ => P2_ k_) → Kd.C (Kd.int .i64) W_ A1_1 l1_1.length l1_1) (ho2 : Kd.R k34 34 w w0.heap.size P2_ u9000_ l2) (h : impl_shortest.f k a0_0 a0_1 l1_0 l1_1 l2 = some r),
  Calls Try.prog 45 #[.agg #[.int .i64 a0_0, .int .i64 a0_1], .func (.func 46) #[] #[.pointer A1_0, .pointer A1_1], u9000_] w fun e w' => ∃ v0_ : Value, e = .returned (v0_) ∧ Kd.R k34 34 w' w0.heap.size (fun k_ => (P2_ k_ ∨ w.heap.size ≤ k_)) v0_ r ∧ Below w0.heap.size w0 w' ∧ Kept w w' (fun k_ => P2_ k_) := by
 induction k using Nat.strongRecOn with
 | _ k ih =>
 intro a0_0 a0_1 A1_0 l1_0 A1_1 l1_1 P2_ u9000_ l2 r w0 w hB hr1_0 hr1_1 ho2 h
 cases k with
 | zero => exact absurd h (by simp [impl_shortest.f])
 | succ k =>
 simp only [impl_shortest.f] at h
 have hu34 := Try.underlying34
 have HR1_0 := Aside0.mk hr1_0
 clear hr1_0
 have HR1_1 := Aside0.mk hr1_1
 clear hr1_1
 have HO2 := Aside0.mk (show Kd.R k34 34 w w0.heap.size (fun k_ => (P2_ k_ ∨ w.heap.size ≤ k_)) u9000_ l2 from Kd.R_mono ho2 (fun k_ hk => (.inl hk)))
 have HK := Aside0.mk (Kept.refl w (fun k_ => P2_ k_))
 have HW0 := Aside0.mk hB.size
 have HB := Aside0.mk hB
 clear hB
 have H : ((impl_Cover_1.f a0_0 a0_1 l1_0 l1_1).bind fun t124 => (if t124 = 0 then (some l2) else ((impl_Prefix_size.f a0_0 a0_1).bind fun t125 => (if t124 = t125 then (if l2.length < 8796093022208 then (some (l2 ++ [(⟨a0_0, a0_1⟩ : S34)])) else (none)) else ((impl_Prefix_halves.f a0_0 a0_1).bind fun bt129 => ((impl_shortest.f k bt129.1 bt129.2.1 l1_0 l1_1 l2).bind fun t135 => ((impl_shortest.f k bt129.2.2.1 bt129.2.2.2 l1_0 l1_1 t135).bind fun t138 => (some t138)))))))) = some r := h
 clear h
 replace H := Option.bind_eq_some_iff.mp H
 obtain ⟨t124, A40, H⟩ := H
 have A4 := Aside0.mk A40
 clear A40
 by_cases c5 : t124 = 0
 ·rw [if_pos c5] at H
  have c5b0 : (t124 == 0) = true := beq_iff_eq.mpr c5
  have c5b1 : (t124 != 0) = false := bne_eq_false_iff_eq.mpr c5
  clear c5
  obtain rfl := Option.some.inj H
  go_enter Try.func45, Try.ntmps45
  go_wp2_with (first | ((with_reducible refine gate_dst (N := 3) rfl ?_); refine box_event ?hg (N := 3) ?hd (cs := #[.int .i64 a0_0, .int .i64 a0_1]) (t := 34) ?hr ?_; (case hd => rfl); (case hg => rfl); (case hr => first | (go_simp; done) | (go_simp; rfl)); intro gb123 hg w6 hbox hb; have BK123 := Aside0.mk hbox; have GW123 := Aside0.mk ((by rw [hg]; exact (by first | exact HK.out.1 | exact (show Kept w _ (fun k_ => P2_ k_) from by repeat (first | (with_reducible first | exact HK.out | apply Kept.alloc | apply Kept.drewN | apply Kept.drew) | exact HK.out)).1) : w.heap.size ≤ gb123)); have GE123 := Aside0.mk ((by rw [hg]; exact (bz_ HB) : w0.heap.size ≤ gb123)); replace HO2 := Aside0.mk (Kd.R_below (Kd.R_elderB (hd_ HO2) gb123 (Nat.le_of_eq hg.symm)) hb); replace HK := Aside0.mk (Kept.below (S := (fun k_ => P2_ k_)) (by repeat (first | (with_reducible first | exact HK.out | apply Kept.alloc | apply Kept.drewN | apply Kept.drew) | exact HK.out)) hb); replace HB := Aside0.mk (bt_ HB hb); clear hb hbox hg; have hcz7_0 := cz_ BK123 0 (.int .i64 a0_0); have hcz7_1 := cz_ BK123 1 (.int .i64 a0_1); have hfz7_0 := blk_frozen BK123.out 0; have hfz7_1 := blk_frozen BK123.out 1) | ((with_reducible refine gate_dst (N := 11) rfl ?_); refine goesTc_ (some 11) rfl rfl Try.func46 (by kernel_rfl) rfl #[.agg #[.int .i64 a0_0, .int .i64 a0_1], .pointer A1_0, .pointer A1_1] rfl (by (try simp only [List.map_toArray, List.map_cons, List.map_nil]); first | done | rfl | (simp only [List.length_drop, List.length_take]; rfl)) ?_; (with_reducible refine (impl_Cover_1.calls a0_0 a0_1 _ l1_0 _ l1_1 t124 _ ?side1 ?side2 A4.out).mono ?_); (case side1 => exact Kd.C_kept_now HR1_0.out (by repeat (first | (with_reducible first | exact HK.out | apply Kept.alloc | apply Kept.drewN | apply Kept.drew | refine Kept.setCell ?_ (.inr GW123.out) _) | exact HK.out))); (case side2 => exact Kd.C_kept_now HR1_1.out (by repeat (first | (with_reducible first | exact HK.out | apply Kept.alloc | apply Kept.drewN | apply Kept.drew | refine Kept.setCell ?_ (.inr GW123.out) _) | exact HK.out))); rintro e w8 ⟨rfl, hb⟩; refine ⟨_, rfl, ?_⟩; replace HO2 := rb_ HO2 hb; replace BK123 := Aside0.mk (bb_ BK123 hb); replace HK := Aside0.mk (Kept.below (S := (fun k_ => P2_ k_)) (by repeat (first | (with_reducible first | exact HK.out | apply Kept.alloc | apply Kept.drewN | apply Kept.drew | refine Kept.setCell ?_ (.inr GW123.out) _) | exact HK.out)) hb); replace HB := Aside0.mk (bt_ HB hb); (try clear hb); (try clear hb2); (try clear hk); (try clear hi)))
  go_ret
  exact ⟨_, by first | rfl | (simp [errW_none, errW_some] <;> rfl) | (simp [*, errW_none, errW_some] <;> rfl), by (with_reducible repeat (first | apply Kd.R_alloc | apply Kd.R_drewN | apply Kd.R_drew)); exact Kd.R_mono HO2.out (fun _ hk => hk.1), by repeat (first | (with_reducible first | exact HB.out | apply below_alloc | apply pw_below_drewN | apply below_drew1 | refine below_set ?_ GE123.out) | exact HB.out), by repeat (first | (with_reducible first | exact HK.out | apply Kept.alloc | apply Kept.drewN | apply Kept.drew | refine Kept.setCell ?_ (.inr GW123.out) _) | exact HK.out)⟩
 rw [if_neg c5] at H
 have c5b0 : (t124 == 0) = false := beq_eq_false_iff_ne.mpr c5
 have c5b1 : (t124 != 0) = true := bne_iff_ne.mpr c5
 replace H := Option.bind_eq_some_iff.mp H
 obtain ⟨t125, A90, H⟩ := H
 have A9 := Aside0.mk A90
 clear A90
 by_cases c10 : t124 = t125
 ·rw [if_pos c10] at H
  have c10b0 : (t124 == t125) = true := beq_iff_eq.mpr c10
  have c10b1 : (t124 != t125) = false := bne_eq_false_iff_eq.mpr c10
  clear c10
  by_cases c11 : l2.length < 8796093022208
  rotate_left
  ·rw [if_neg c11] at H
   exact absurd H (by simp)
  rw [if_pos c11] at H
  have LMc11 := Aside0.mk c11
  clear c11
  obtain ⟨y126, hy126⟩ : ∃ y_ : List (S34), y_ = (l2 ++ [(⟨a0_0, a0_1⟩ : S34)]) := ⟨_, rfl⟩
  replace H : (some y126) = some r := by first | (rw [hy126]; with_reducible exact H) | (have H2_ := (Option.bind_some _ _).symm.trans H; rw [hy126]; with_reducible exact H2_) | (have H2_ := (Option.bind_some _ _).symm.trans H; with_reducible exact H2_) | with_reducible exact H | (rw [hy126]; exact H) | exact H
  have Ny126 := Aside0.mk hy126
  clear hy126
  obtain rfl := Option.some.inj H
  go_enter Try.func45, Try.ntmps45
  go_wp2_with (first | ((with_reducible refine gate_dst (N := 3) rfl ?_); refine box_event ?hg (N := 3) ?hd (cs := #[.int .i64 a0_0, .int .i64 a0_1]) (t := 34) ?hr ?_; (case hd => rfl); (case hg => rfl); (case hr => first | (go_simp; done) | (go_simp; rfl)); intro gb123 hg w12 hbox hb; have BK123 := Aside0.mk hbox; have GW123 := Aside0.mk ((by rw [hg]; exact (by first | exact HK.out.1 | exact (show Kept w _ (fun k_ => P2_ k_) from by repeat (first | (with_reducible first | exact HK.out | apply Kept.alloc | apply Kept.drewN | apply Kept.drew) | exact HK.out)).1) : w.heap.size ≤ gb123)); have GE123 := Aside0.mk ((by rw [hg]; exact (bz_ HB) : w0.heap.size ≤ gb123)); replace HO2 := Aside0.mk (Kd.R_below (Kd.R_elderB (hd_ HO2) gb123 (Nat.le_of_eq hg.symm)) hb); replace HK := Aside0.mk (Kept.below (S := (fun k_ => P2_ k_)) (by repeat (first | (with_reducible first | exact HK.out | apply Kept.alloc | apply Kept.drewN | apply Kept.drew) | exact HK.out)) hb); replace HB := Aside0.mk (bt_ HB hb); clear hb hbox hg; have hcz13_0 := cz_ BK123 0 (.int .i64 a0_0); have hcz13_1 := cz_ BK123 1 (.int .i64 a0_1); have hfz13_0 := blk_frozen BK123.out 0; have hfz13_1 := blk_frozen BK123.out 1) | ((with_reducible refine gate_dst (N := 11) rfl ?_); refine goesTc_ (some 11) rfl rfl Try.func46 (by kernel_rfl) rfl #[.agg #[.int .i64 a0_0, .int .i64 a0_1], .pointer A1_0, .pointer A1_1] rfl (by (try simp only [List.map_toArray, List.map_cons, List.map_nil]); first | done | rfl | (simp only [List.length_drop, List.length_take]; rfl)) ?_; (with_reducible refine (impl_Cover_1.calls a0_0 a0_1 _ l1_0 _ l1_1 t124 _ ?side1 ?side2 A4.out).mono ?_); (case side1 => exact Kd.C_kept_now HR1_0.out (by repeat (first | (with_reducible first | exact HK.out | apply Kept.alloc | apply Kept.drewN | apply Kept.drew | refine Kept.setCell ?_ (.inr GW123.out) _) | exact HK.out))); (case side2 => exact Kd.C_kept_now HR1_1.out (by repeat (first | (with_reducible first | exact HK.out | apply Kept.alloc | apply Kept.drewN | apply Kept.drew | refine Kept.setCell ?_ (.inr GW123.out) _) | exact HK.out))); rintro e w14 ⟨rfl, hb⟩; refine ⟨_, rfl, ?_⟩; replace HO2 := rb_ HO2 hb; replace BK123 := Aside0.mk (bb_ BK123 hb); replace HK := Aside0.mk (Kept.below (S := (fun k_ => P2_ k_)) (by repeat (first | (with_reducible first | exact HK.out | apply Kept.alloc | apply Kept.drewN | apply Kept.drew | refine Kept.setCell ?_ (.inr GW123.out) _) | exact HK.out)) hb); replace HB := Aside0.mk (bt_ HB hb); (try clear hb); (try clear hb2); (try clear hk); (try clear hi); have hcz15_0 := cz_ BK123 0 (.int .i64 a0_0); have hcz15_1 := cz_ BK123 1 (.int .i64 a0_1); have hfz15_0 := blk_frozen BK123.out 0; have hfz15_1 := blk_frozen BK123.out 1) | ((with_reducible refine gate_callee (f := 47) rfl ?_); refine gl_ (some 17) Try.func47 #[.agg #[.int .i64 a0_0, .int .i64 a0_1]] ?_; (with_reducible refine (impl_Prefix_size.calls a0_0 a0_1 t125 _ A9.out).mono ?_); rintro e w16 ⟨rfl, hb⟩; refine ⟨_, rfl, ?_⟩; replace HO2 := rb_ HO2 hb; replace BK123 := Aside0.mk (bb_ BK123 hb); replace HK := Aside0.mk (Kept.below (S := (fun k_ => P2_ k_)) (by repeat (first | (with_reducible first | exact HK.out | apply Kept.alloc | apply Kept.drewN | apply Kept.drew | refine Kept.setCell ?_ (.inr GW123.out) _) | exact HK.out)) hb); replace HB := Aside0.mk (bt_ HB hb); (try clear hb); (try clear hb2); (try clear hk); (try clear hi); have hcz17_0 := cz_ BK123 0 (.int .i64 a0_0); have hcz17_1 := cz_ BK123 1 (.int .i64 a0_1); have hfz17_0 := blk_frozen BK123.out 0; have hfz17_1 := blk_frozen BK123.out 1) | ((with_reducible refine gate_builtin (b := .append) (xs := #[.tmp 19, .tmp 21]) rfl ?_); at_builtin; refine Kd.R_append k34 (w0 := w0) w0.heap.size rfl (.tmp 19) (.tmp 21) 48 34 (.agg #[(.int .i64 0), (.int .i64 0)]) 16 rfl Try.underlying48 info34 rfl (by decide) (by omega) u9000_ l2 (⟨a0_0, a0_1⟩ : S34) [.int .i64 a0_0, .int .i64 a0_1] (fun k_ => (P2_ k_ ∨ w.heap.size ≤ k_) ∧ k_ ≠ gb123) (fun _ => False) rfl rfl ?aP (fun _ hk => hk.elim) ?aF ?aO ?aB ?aS ?aL ?_; (case aP => exact k34_mkM _ _ _ (⟨a0_0, a0_1⟩ : S34)); (case aB => exact (by repeat (first | (with_reducible first | exact HB.out | apply below_alloc | apply pw_below_drewN | apply below_drew1 | refine below_set ?_ GE123.out) | exact HB.out))); (case aF => exact (fun k_ hk => ⟨(.inr (Nat.le_trans (by first | exact HK.out.1 | exact (show Kept w _ (fun k_ => P2_ k_) from by repeat (first | (with_reducible first | exact HK.out | apply Kept.alloc | apply Kept.drewN | apply Kept.drew | refine Kept.setCell ?_ (.inr GW123.out) _) | exact HK.out)).1) hk)), Kd.freshB (g := gb123) (o := .cells #[.int .i64 a0_0, .int .i64 a0_1] 34 (0, 0)) (by (with_reducible repeat (first | refine blk_drewN ?_ _ | refine blk_drew ?_ | refine blk_alloc ?_ _)); exact BK123.out) k_ hk⟩)); (case aO => exact (hd_ HO2)); (case aS => exact (bz_ HB)); (case aL => have := LMc11.out; omega); intro v127 w18 ho hb hg hat; rw [← Ny126.out] at ho; have HO128 := Aside0.mk ho; replace BK123 := Aside0.mk (blk_grown (g := gb123) (o := .cells #[.int .i64 a0_0, .int .i64 a0_1] 34 (0, 0)) (by (with_reducible repeat (first | refine blk_drewN ?_ _ | refine blk_drew ?_ | refine blk_alloc ?_ _)); exact BK123.out) hg (Kd.R_away HO2.out (fun _ hk => hk.2))); replace HB := Aside0.mk (hb); replace HK := Aside0.mk (Kept.of_grown (S := (fun k_ => P2_ k_)) hg (by repeat (first | (with_reducible first | exact HK.out | apply Kept.alloc | apply Kept.drewN | apply Kept.drew | refine Kept.setCell ?_ (.inr GW123.out) _) | exact HK.out)) (fun k_ e_ => (HO2.out.1 k_ e_).1)); clear HO2; clear ho hb hg hat))
  go_ret
  exact ⟨_, by first | rfl | (simp [errW_none, errW_some] <;> rfl) | (simp [*, errW_none, errW_some] <;> rfl), by (with_reducible repeat (first | apply Kd.R_alloc | apply Kd.R_drewN | apply Kd.R_drew)); exact Kd.R_mono HO128.out (fun _ hk => hk.1), by repeat (first | (with_reducible first | exact HB.out | apply below_alloc | apply pw_below_drewN | apply below_drew1 | refine below_set ?_ GE123.out) | exact HB.out), by repeat (first | (with_reducible first | exact HK.out | apply Kept.alloc | apply Kept.drewN | apply Kept.drew | refine Kept.setCell ?_ (.inr GW123.out) _) | exact HK.out)⟩
 rw [if_neg c10] at H
 have c10b0 : (t124 == t125) = false := beq_eq_false_iff_ne.mpr c10
 have c10b1 : (t124 != t125) = true := bne_iff_ne.mpr c10
 replace H := Option.bind_eq_some_iff.mp H
 obtain ⟨⟨t129, t130, t131, t132⟩, A190, H⟩ := H
 have A19 := Aside0.mk A190
 clear A190
 replace H := Option.bind_eq_some_iff.mp H
 obtain ⟨t135, A200, H⟩ := H
 have A20 := Aside0.mk A200
 clear A200
 replace H := Option.bind_eq_some_iff.mp H
 obtain ⟨t138, A210, H⟩ := H
 have A21 := Aside0.mk A210
 clear A210
 obtain rfl := Option.some.inj H
 go_enter Try.func45, Try.ntmps45
 try go_wp2_with (first | ((with_reducible refine gate_dst (N := 3) rfl ?_); refine box_event ?hg (N := 3) ?hd (cs := #[.int .i64 a0_0, .int .i64 a0_1]) (t := 34) ?hr ?_; (case hd => rfl); (case hg => rfl); (case hr => first | (go_simp; done) | (go_simp; rfl)); intro gb123 hg w22 hbox hb; have BK123 := Aside0.mk hbox; have GW123 := Aside0.mk ((by rw [hg]; exact (by first | exact HK.out.1 | exact (show Kept w _ (fun k_ => P2_ k_) from by repeat (first | (with_reducible first | exact HK.out | apply Kept.alloc | apply Kept.drewN | apply Kept.drew) | exact HK.out)).1) : w.heap.size ≤ gb123)); have GE123 := Aside0.mk ((by rw [hg]; exact (bz_ HB) : w0.heap.size ≤ gb123)); replace HO2 := Aside0.mk (Kd.R_below (Kd.R_elderB (hd_ HO2) gb123 (Nat.le_of_eq hg.symm)) hb); replace HK := Aside0.mk (Kept.below (S := (fun k_ => P2_ k_)) (by repeat (first | (with_reducible first | exact HK.out | apply Kept.alloc | apply Kept.drewN | apply Kept.drew) | exact HK.out)) hb); replace HB := Aside0.mk (bt_ HB hb); clear hb hbox hg; have hcz23_0 := cz_ BK123 0 (.int .i64 a0_0); have hcz23_1 := cz_ BK123 1 (.int .i64 a0_1); have hfz23_0 := blk_frozen BK123.out 0; have hfz23_1 := blk_frozen BK123.out 1) | ((with_reducible refine gate_dst (N := 11) rfl ?_); refine goesTc_ (some 11) rfl rfl Try.func46 (by kernel_rfl) rfl #[.agg #[.int .i64 a0_0, .int .i64 a0_1], .pointer A1_0, .pointer A1_1] rfl (by (try simp only [List.map_toArray, List.map_cons, List.map_nil]); first | done | rfl | (simp only [List.length_drop, List.length_take]; rfl)) ?_; (with_reducible refine (impl_Cover_1.calls a0_0 a0_1 _ l1_0 _ l1_1 t124 _ ?side1 ?side2 A4.out).mono ?_); (case side1 => exact Kd.C_kept_now HR1_0.out (by repeat (first | (with_reducible first | exact HK.out | apply Kept.alloc | apply Kept.drewN | apply Kept.drew | refine Kept.setCell ?_ (.inr GW123.out) _) | exact HK.out))); (case side2 => exact Kd.C_kept_now HR1_1.out (by repeat (first | (with_reducible first | exact HK.out | apply Kept.alloc | apply Kept.drewN | apply Kept.drew | refine Kept.setCell ?_ (.inr GW123.out) _) | exact HK.out))); rintro e w24 ⟨rfl, hb⟩; refine ⟨_, rfl, ?_⟩; replace HO2 := rb_ HO2 hb; replace BK123 := Aside0.mk (bb_ BK123 hb); replace HK := Aside0.mk (Kept.below (S := (fun k_ => P2_ k_)) (by repeat (first | (with_reducible first | exact HK.out | apply Kept.alloc | apply Kept.drewN | apply Kept.drew | refine Kept.setCell ?_ (.inr GW123.out) _) | exact HK.out)) hb); replace HB := Aside0.mk (bt_ HB hb); (try clear hb); (try clear hb2); (try clear hk); (try clear hi); have hcz25_0 := cz_ BK123 0 (.int .i64 a0_0); have hcz25_1 := cz_ BK123 1 (.int .i64 a0_1); have hfz25_0 := blk_frozen BK123.out 0; have hfz25_1 := blk_frozen BK123.out 1) | ((with_reducible refine gate_callee (f := 47) rfl ?_); refine gl_ (some 17) Try.func47 #[.agg #[.int .i64 a0_0, .int .i64 a0_1]] ?_; (with_reducible refine (impl_Prefix_size.calls a0_0 a0_1 t125 _ A9.out).mono ?_); rintro e w26 ⟨rfl, hb⟩; refine ⟨_, rfl, ?_⟩; replace HO2 := rb_ HO2 hb; replace BK123 := Aside0.mk (bb_ BK123 hb); replace HK := Aside0.mk (Kept.below (S := (fun k_ => P2_ k_)) (by repeat (first | (with_reducible first | exact HK.out | apply Kept.alloc | apply Kept.drewN | apply Kept.drew | refine Kept.setCell ?_ (.inr GW123.out) _) | exact HK.out)) hb); replace HB := Aside0.mk (bt_ HB hb); (try clear hb); (try clear hb2); (try clear hk); (try clear hi); have hcz27_0 := cz_ BK123 0 (.int .i64 a0_0); have hcz27_1 := cz_ BK123 1 (.int .i64 a0_1); have hfz27_0 := blk_frozen BK123.out 0; have hfz27_1 := blk_frozen BK123.out 1) | ((with_reducible refine gate_callee (f := 66) rfl ?_); refine gl_ (some 25) Try.func66 #[.agg #[.int .i64 a0_0, .int .i64 a0_1]] ?_; (with_reducible refine (impl_Prefix_halves.calls a0_0 a0_1 t129 t130 t131 t132 _ A19.out).mono ?_); rintro e w28 ⟨rfl, hb⟩; refine ⟨_, rfl, ?_⟩; replace HO2 := rb_ HO2 hb; replace BK123 := Aside0.mk (bb_ BK123 hb); replace HK := Aside0.mk (Kept.below (S := (fun k_ => P2_ k_)) (by repeat (first | (with_reducible first | exact HK.out | apply Kept.alloc | apply Kept.drewN | apply Kept.drew | refine Kept.setCell ?_ (.inr GW123.out) _) | exact HK.out)) hb); replace HB := Aside0.mk (bt_ HB hb); (try clear hb); (try clear hb2); (try clear hk); (try clear hi)) | ((with_reducible refine gate_dst (N := 7) rfl ?_); refine box_event ?hg (N := 7) ?hd (cs := #[.int .i64 0, .int .i64 0]) (t := 34) ?hr ?_; (case hd => rfl); (case hg => rfl); (case hr => first | (go_simp; done) | (go_simp; rfl)); intro gb133 hg w29 hbox hb; have BK133 := Aside0.mk hbox; have GW133 := Aside0.mk ((by rw [hg]; exact (by first | exact HK.out.1 | exact (show Kept w _ (fun k_ => P2_ k_) from by repeat (first | (with_reducible first | exact HK.out | apply Kept.alloc | apply Kept.drewN | apply Kept.drew | refine Kept.setCell ?_ (.inr GW123.out) _) | exact HK.out)).1) : w.heap.size ≤ gb133)); have GE133 := Aside0.mk ((by rw [hg]; exact (bz_ HB) : w0.heap.size ≤ gb133)); have NB123_133 := nl_ BK123 hg; have NB133_123 := ng_ BK123 hg; replace HO2 := Aside0.mk (Kd.R_below (Kd.R_elderB (hd_ HO2) gb133 (Nat.le_of_eq hg.symm)) hb); replace HK := Aside0.mk (Kept.below (S := (fun k_ => P2_ k_)) (by repeat (first | (with_reducible first | exact HK.out | apply Kept.alloc | apply Kept.drewN | apply Kept.drew | refine Kept.setCell ?_ (.inr GW123.out) _) | exact HK.out)) hb); replace HB := Aside0.mk (bt_ HB hb); replace BK123 := Aside0.mk (bb_ BK123 hb); clear hb hbox hg) | ((with_reducible refine gate_dst (N := 8) rfl ?_); refine box_event ?hg (N := 8) ?hd (cs := #[.int .i64 0, .int .i64 0]) (t := 34) ?hr ?_; (case hd => rfl); (case hg => rfl); (case hr => first | (go_simp; done) | (go_simp; rfl)); intro gb134 hg w30 hbox hb; have BK134 := Aside0.mk hbox; have GW134 := Aside0.mk ((by rw [hg]; exact (by first | exact HK.out.1 | exact (show Kept w _ (fun k_ => P2_ k_) from by repeat (first | (with_reducible first | exact HK.out | apply Kept.alloc | apply Kept.drewN | apply Kept.drew | refine Kept.setCell ?_ (.inr GW123.out) _ | refine Kept.setCell ?_ (.inr GW133.out) _) | exact HK.out)).1) : w.heap.size ≤ gb134)); have GE134 := Aside0.mk ((by rw [hg]; exact (bz_ HB) : w0.heap.size ≤ gb134)); have NB123_134 := nl_ BK123 hg; have NB134_123 := ng_ BK123 hg; have NB133_134 := nl_ BK133 hg; have NB134_133 := ng_ BK133 hg; replace HO2 := Aside0.mk (Kd.R_below (Kd.R_elderB (hd_ HO2) gb134 (Nat.le_of_eq hg.symm)) hb); replace HK := Aside0.mk (Kept.below (S := (fun k_ => P2_ k_)) (by repeat (first | (with_reducible first | exact HK.out | apply Kept.alloc | apply Kept.drewN | apply Kept.drew | refine Kept.setCell ?_ (.inr GW123.out) _ | refine Kept.setCell ?_ (.inr GW133.out) _) | exact HK.out)) hb); replace HB := Aside0.mk (bt_ HB hb); replace BK123 := Aside0.mk (bb_ BK123 hb); replace BK133 := Aside0.mk (bb_ BK133 hb); clear hb hbox hg; have hnb31 := NB133_123.out; have hnc31 := NB123_133.out; have hnb32 := NB133_134.out; have hnc32 := NB134_133.out; have hcz33_0 := cz_ BK133 0 (.int .i64 0); have hcz33_1 := cz_ BK133 1 (.int .i64 0); have hfz33_0 := blk_frozen BK133.out 0; have hfz33_1 := blk_frozen BK133.out 1; have hnb34 := NB134_123.out; have hnc34 := NB123_134.out; have hcz35_0 := cz_ BK134 0 (.int .i64 0); have hcz35_1 := cz_ BK134 1 (.int .i64 0); have hfz35_0 := blk_frozen BK134.out 0; have hfz35_1 := blk_frozen BK134.out 1))
 have n0_ : Aside0 (Kd.R k34 34 ((((w30.setCell ⟨gb133, 0, none⟩ (.int .i64 t129)).setCell ⟨gb133, 1, none⟩ (.int .i64 t130)).setCell ⟨gb134, 0, none⟩ (.int .i64 t131)).setCell ⟨gb134, 1, none⟩ (.int .i64 t132)) w0.heap.size (fun k_ => (P2_ k_ ∨ w.heap.size ≤ k_) ∧ k_ ≠ gb123 ∧ k_ ≠ gb133 ∧ k_ ≠ gb134) u9000_ l2) := ⟨by (with_reducible repeat (first | apply Kd.R_alloc | apply Kd.R_drewN | apply Kd.R_drew)); exact Kd.R_mono (Kd.R_far (p := ⟨gb134, 1, none⟩) (Kd.R_far (p := ⟨gb134, 0, none⟩) (Kd.R_far (p := ⟨gb133, 1, none⟩) (Kd.R_far (p := ⟨gb133, 0, none⟩) (Kd.R_mono (Kd.R_mono HO2.out (fun k_ hk => (⟨hk, hk.1.2⟩ : _ ∧ k_ ≠ gb133))) (fun k_ hk => (⟨hk, hk.1.2⟩ : _ ∧ k_ ≠ gb134))) (fun _ hk => hk.1.2) (.int .i64 t129)) (fun _ hk => hk.1.2) (.int .i64 t130)) (fun _ hk => hk.2) (.int .i64 t131)) (fun _ hk => hk.2) (.int .i64 t132)) (fun _ hk => ⟨hk.1.1.1.1.1, ⟨hk.1.1.1.1.2, ⟨hk.1.1.1.2, hk.1.1.2⟩⟩⟩)⟩
 have n1_ : Aside0 (((((w30.setCell ⟨gb133, 0, none⟩ (.int .i64 t129)).setCell ⟨gb133, 1, none⟩ (.int .i64 t130)).setCell ⟨gb134, 0, none⟩ (.int .i64 t131)).setCell ⟨gb134, 1, none⟩ (.int .i64 t132)).heap[gb123]? = some (.cells #[.int .i64 a0_0, .int .i64 a0_1] 34 (0, 0))) := ⟨by (with_reducible repeat (first | refine blk_drewN ?_ _ | refine blk_drew ?_ | refine blk_alloc ?_ _)); refine blk_far ?_ NB123_134.out _; (with_reducible repeat (first | refine blk_drewN ?_ _ | refine blk_drew ?_ | refine blk_alloc ?_ _)); refine blk_far ?_ NB123_134.out _; (with_reducible repeat (first | refine blk_drewN ?_ _ | refine blk_drew ?_ | refine blk_alloc ?_ _)); refine blk_far ?_ NB123_133.out _; (with_reducible repeat (first | refine blk_drewN ?_ _ | refine blk_drew ?_ | refine blk_alloc ?_ _)); refine blk_far ?_ NB123_133.out _; (with_reducible repeat (first | refine blk_drewN ?_ _ | refine blk_drew ?_ | refine blk_alloc ?_ _)); exact BK123.out⟩
 have n2_ : Aside0 (((((w30.setCell ⟨gb133, 0, none⟩ (.int .i64 t129)).setCell ⟨gb133, 1, none⟩ (.int .i64 t130)).setCell ⟨gb134, 0, none⟩ (.int .i64 t131)).setCell ⟨gb134, 1, none⟩ (.int .i64 t132)).heap[gb133]? = some (.cells #[.int .i64 t129, .int .i64 t130] 34 (0, 0))) := ⟨by (with_reducible repeat (first | refine blk_drewN ?_ _ | refine blk_drew ?_ | refine blk_alloc ?_ _)); refine blk_far ?_ NB133_134.out _; (with_reducible repeat (first | refine blk_drewN ?_ _ | refine blk_drew ?_ | refine blk_alloc ?_ _)); refine blk_far ?_ NB133_134.out _; (with_reducible repeat (first | refine blk_drewN ?_ _ | refine blk_drew ?_ | refine blk_alloc ?_ _)); refine blk_put (cs := #[.int .i64 t129, .int .i64 0]) ?_ 1 _ rfl; (with_reducible repeat (first | refine blk_drewN ?_ _ | refine blk_drew ?_ | refine blk_alloc ?_ _)); refine blk_put (cs := #[.int .i64 0, .int .i64 0]) ?_ 0 _ rfl; (with_reducible repeat (first | refine blk_drewN ?_ _ | refine blk_drew ?_ | refine blk_alloc ?_ _)); exact BK133.out⟩
 have n3_ : Aside0 (((((w30.setCell ⟨gb133, 0, none⟩ (.int .i64 t129)).setCell ⟨gb133, 1, none⟩ (.int .i64 t130)).setCell ⟨gb134, 0, none⟩ (.int .i64 t131)).setCell ⟨gb134, 1, none⟩ (.int .i64 t132)).heap[gb134]? = some (.cells #[.int .i64 t131, .int .i64 t132] 34 (0, 0))) := ⟨by (with_reducible repeat (first | refine blk_drewN ?_ _ | refine blk_drew ?_ | refine blk_alloc ?_ _)); refine blk_put (cs := #[.int .i64 t131, .int .i64 0]) ?_ 1 _ rfl; (with_reducible repeat (first | refine blk_drewN ?_ _ | refine blk_drew ?_ | refine blk_alloc ?_ _)); refine blk_put (cs := #[.int .i64 0, .int .i64 0]) ?_ 0 _ rfl; (with_reducible repeat (first | refine blk_drewN ?_ _ | refine blk_drew ?_ | refine blk_alloc ?_ _)); refine blk_far ?_ NB134_133.out _; (with_reducible repeat (first | refine blk_drewN ?_ _ | refine blk_drew ?_ | refine blk_alloc ?_ _)); refine blk_far ?_ NB134_133.out _; (with_reducible repeat (first | refine blk_drewN ?_ _ | refine blk_drew ?_ | refine blk_alloc ?_ _)); exact BK134.out⟩
 have n4_ : Aside0 (Kept w ((((w30.setCell ⟨gb133, 0, none⟩ (.int .i64 t129)).setCell ⟨gb133, 1, none⟩ (.int .i64 t130)).setCell ⟨gb134, 0, none⟩ (.int .i64 t131)).setCell ⟨gb134, 1, none⟩ (.int .i64 t132)) (fun k_ => P2_ k_)) := ⟨by repeat (first | (with_reducible first | exact HK.out | apply Kept.alloc | apply Kept.drewN | apply Kept.drew | refine Kept.setCell ?_ (.inr GW123.out) _ | refine Kept.setCell ?_ (.inr GW133.out) _ | refine Kept.setCell ?_ (.inr GW134.out) _) | exact HK.out)⟩
 have n5_ : Aside0 (Below w0.heap.size w0 ((((w30.setCell ⟨gb133, 0, none⟩ (.int .i64 t129)).setCell ⟨gb133, 1, none⟩ (.int .i64 t130)).setCell ⟨gb134, 0, none⟩ (.int .i64 t131)).setCell ⟨gb134, 1, none⟩ (.int .i64 t132))) := ⟨by repeat (first | (with_reducible first | exact HB.out | apply below_alloc | apply pw_below_drewN | apply below_drew1 | refine below_set ?_ GE123.out | refine below_set ?_ GE133.out | refine below_set ?_ GE134.out) | exact HB.out)⟩
 (try clear HO2)
 (try clear BK123)
 (try clear BK133)
 (try clear BK134)
 (try clear HK)
 (try clear HB)
 generalize ((((w30.setCell ⟨gb133, 0, none⟩ (.int .i64 t129)).setCell ⟨gb133, 1, none⟩ (.int .i64 t130)).setCell ⟨gb134, 0, none⟩ (.int .i64 t131)).setCell ⟨gb134, 1, none⟩ (.int .i64 t132)) = w36 at n0_ n1_ n2_ n3_ n4_ n5_ ⊢
 have HO2 := n0_
 have BK123 := n1_
 have BK133 := n2_
 have BK134 := n3_
 have HK := n4_
 have HB := n5_
 clear n0_ n1_ n2_ n3_ n4_ n5_
 replace HO2 := Aside0.mk (Kd.R_drew HO2.out)
 replace BK123 := Aside0.mk (blk_drew BK123.out)
 replace BK133 := Aside0.mk (blk_drew BK133.out)
 replace BK134 := Aside0.mk (blk_drew BK134.out)
 replace HK := Aside0.mk (Kept.drew HK.out)
 replace HB := Aside0.mk (below_drew1 HB.out)
 obtain ⟨Ao38, co38, eo38⟩ := Kd.R_slice HO2.out
 (first | subst eo38 | (injection eo38 with f1_ f2_ f3_; have f4_ := f1_.symm; have f5_ := f3_.symm; clear f1_ f2_ f3_; subst f4_; subst f5_))
 refine start_ (n := 8) (S := fun w' => w'.cell? ⟨gb134, 0, none⟩ = some (.int .i64 t131) ∧ w'.cell? ⟨gb134, 1, none⟩ = some (.int .i64 t132) ∧ w'.cell? ⟨gb133, 0, none⟩ = some (.int .i64 t129) ∧ w'.cell? ⟨gb133, 1, none⟩ = some (.int .i64 t130)) (ds := []) ba2_19 (by kernel_rfl) rfl rfl ⟨(blk_cell BK134.out 0).trans rfl, (blk_cell BK134.out 1).trans rfl, (blk_cell BK133.out 0).trans rfl, (blk_cell BK133.out 1).trans rfl⟩ (fun hHeld => ?_); refine with_tabW impl_shortest.tab7 impl_shortest.bits7 (fun HT_ HW_ => ?_)
 generalize w36.drew = w37 at HO2 BK123 BK133 BK134 HK HB hHeld ⊢
 refine pz_ 1 29 ba2_20 HT_ ?_
 refine pz_ 3 31 ba2_21 HT_ ?_
 refine pz_ 4 32 ba2_22 HT_ ?_
 refine pt_ 0 28 ba2_23 HT_ HW_ hHeld ?_
 refine pt_ 2 30 ba2_24 HT_ HW_ hHeld ?_
 refine one_ (i := 5) (N := some 33) ba2_25 rfl rfl (one_of HT_.out (by kernel_rfl)) (by decide) (fun K hK => ?_)
 refine gz_ Try.func45 #[.agg #[.int .i64 t129, .int .i64 t130], .func (.func 46) #[] #[.pointer A1_0, .pointer A1_1], .slice Ao38 l2.length co38] ?_
 with_reducible refine (ih k (by omega) t129 t130 _ l1_0 _ l1_1 (fun k_ => some k_ = (.slice Ao38 l2.length co38 : Value).ownBlock) (.slice Ao38 l2.length co38) l2 t135 w0 _ ?side1 ?side2 ?side3 ?side4 A20.out).mono ?_
 (case side1 => exact by_ HB)
 (case side2 => exact Kd.C_kept_call HR1_0.out (by repeat (first | (with_reducible first | exact HK.out | apply Kept.alloc | apply Kept.drewN | apply Kept.drew | refine Kept.setCell ?_ (.inr GW123.out) _ | refine Kept.setCell ?_ (.inr GW133.out) _ | refine Kept.setCell ?_ (.inr GW134.out) _) | exact HK.out)) (fun k_ hs_ => (fun e_ => (HO2.out.1 k_ e_.symm).1) hs_))
 (case side3 => exact Kd.C_kept_call HR1_1.out (by repeat (first | (with_reducible first | exact HK.out | apply Kept.alloc | apply Kept.drewN | apply Kept.drew | refine Kept.setCell ?_ (.inr GW123.out) _ | refine Kept.setCell ?_ (.inr GW133.out) _ | refine Kept.setCell ?_ (.inr GW134.out) _) | exact HK.out)) (fun k_ hs_ => (fun e_ => (HO2.out.1 k_ e_.symm).1) hs_))
 (case side4 => exact Kd.R_tight rfl HO2.out)
 rintro e w39 ⟨v136, rfl, ho0, hb, hkp⟩
 refine ⟨_, rfl, ?_⟩
 have HO137 := Aside0.mk (Kd.R_mono (ok' := fun k_ => (P2_ k_ ∨ w.heap.size ≤ k_) ∧ k_ ≠ gb123 ∧ k_ ≠ gb133 ∧ k_ ≠ gb134) ho0 (fun k_ hk_ => ⟨Or.elim hk_ (fun hs_ => (HO2.out.1 k_ (hs_).symm).1) (fun hn_ => (.inr (Nat.le_trans (by first | exact HK.out.1 | exact (show Kept w _ (fun k_ => P2_ k_) from by repeat (first | (with_reducible first | exact HK.out | apply Kept.alloc | apply Kept.drewN | apply Kept.drew | refine Kept.setCell ?_ (.inr GW123.out) _ | refine Kept.setCell ?_ (.inr GW133.out) _ | refine Kept.setCell ?_ (.inr GW134.out) _) | exact HK.out)).1) hn_))), Or.elim hk_ (fun hs_ => fun e_ => (Kd.R_away HO2.out (fun _ hk => hk.2.1)) (by rw [← e_]; exact hs_)) (fun hn_ => (Kd.freshB (g := gb123) (o := .cells #[.int .i64 a0_0, .int .i64 a0_1] 34 (0, 0)) (by (with_reducible repeat (first | refine blk_drewN ?_ _ | refine blk_drew ?_ | refine blk_alloc ?_ _)); exact BK123.out) k_ hn_)), Or.elim hk_ (fun hs_ => fun e_ => (Kd.R_away HO2.out (fun _ hk => hk.2.2.1)) (by rw [← e_]; exact hs_)) (fun hn_ => (Kd.freshB (g := gb133) (o := .cells #[.int .i64 t129, .int .i64 t130] 34 (0, 0)) (by (with_reducible repeat (first | refine blk_drewN ?_ _ | refine blk_drew ?_ | refine blk_alloc ?_ _)); exact BK133.out) k_ hn_)), Or.elim hk_ (fun hs_ => fun e_ => (Kd.R_away HO2.out (fun _ hk => hk.2.2.2)) (by rw [← e_]; exact hs_)) (fun hn_ => (Kd.freshB (g := gb134) (o := .cells #[.int .i64 t131, .int .i64 t132] 34 (0, 0)) (by (with_reducible repeat (first | refine blk_drewN ?_ _ | refine blk_drew ?_ | refine blk_alloc ?_ _)); exact BK134.out) k_ hn_))⟩))
 replace BK123 := bk_ BK123 hkp (fun hs_ => (fun e_ => (Kd.R_away HO2.out (fun _ hk => hk.2.1)) e_) hs_)
 replace BK133 := bk_ BK133 hkp (fun hs_ => (fun e_ => (Kd.R_away HO2.out (fun _ hk => hk.2.2.1)) e_) hs_)
 replace BK134 := bk_ BK134 hkp (fun hs_ => (fun e_ => (Kd.R_away HO2.out (fun _ hk => hk.2.2.2)) e_) hs_)
 replace HK := Aside0.mk (Kept.then_ (S := (fun k_ => P2_ k_)) (by repeat (first | (with_reducible first | exact HK.out | apply Kept.alloc | apply Kept.drewN | apply Kept.drew | refine Kept.setCell ?_ (.inr GW123.out) _ | refine Kept.setCell ?_ (.inr GW133.out) _ | refine Kept.setCell ?_ (.inr GW134.out) _) | exact HK.out)) hkp (fun k_ hs_ => (fun e_ => (HO2.out.1 k_ e_.symm).1) hs_))
 replace HB := Aside0.mk (hb)
 clear HO2
 (try clear hb)
 (try clear hkp)
 (try clear ho0)
 obtain ⟨Ao40, co40, eo40⟩ := Kd.R_slice HO137.out
 (first | subst eo40 | (injection eo40 with f1_ f2_ f3_; have f4_ := f1_.symm; have f5_ := f3_.symm; clear f1_ f2_ f3_; subst f4_; subst f5_))
 refine hK.out _ _ ⟨(blk_cell BK134.out 0).trans rfl, (blk_cell BK134.out 1).trans rfl, (blk_cell BK133.out 0).trans rfl, (blk_cell BK133.out 1).trans rfl⟩ (fun hHeld => ?_)
 clear hK K
 refine nz_ 33 ?_
 refine one_ (i := 6) (N := some 34) ba2_26 rfl rfl (one_of HT_.out (by kernel_rfl)) (by decide) (fun K hK => ?_)
 refine gz_ Try.func45 #[.agg #[.int .i64 t131, .int .i64 t132], .func (.func 46) #[] #[.pointer A1_0, .pointer A1_1], .slice Ao40 t135.length co40] ?_
 with_reducible refine (ih k (by omega) t131 t132 _ l1_0 _ l1_1 (fun k_ => some k_ = (.slice Ao40 t135.length co40 : Value).ownBlock) (.slice Ao40 t135.length co40) t135 t138 w0 _ ?side1 ?side2 ?side3 ?side4 A21.out).mono ?_
 (case side1 => exact by_ HB)
 (case side2 => exact Kd.C_kept_call HR1_0.out (by repeat (first | (with_reducible first | exact HK.out | apply Kept.alloc | apply Kept.drewN | apply Kept.drew | refine Kept.setCell ?_ (.inr GW123.out) _ | refine Kept.setCell ?_ (.inr GW133.out) _ | refine Kept.setCell ?_ (.inr GW134.out) _) | exact HK.out)) (fun k_ hs_ => (fun e_ => (HO137.out.1 k_ e_.symm).1) hs_))
 (case side3 => exact Kd.C_kept_call HR1_1.out (by repeat (first | (with_reducible first | exact HK.out | apply Kept.alloc | apply Kept.drewN | apply Kept.drew | refine Kept.setCell ?_ (.inr GW123.out) _ | refine Kept.setCell ?_ (.inr GW133.out) _ | refine Kept.setCell ?_ (.inr GW134.out) _) | exact HK.out)) (fun k_ hs_ => (fun e_ => (HO137.out.1 k_ e_.symm).1) hs_))
 (case side4 => exact Kd.R_tight rfl HO137.out)
 rintro e w41 ⟨v139, rfl, ho0, hb, hkp⟩
 refine ⟨_, rfl, ?_⟩
 have HO140 := Aside0.mk (Kd.R_mono (ok' := fun k_ => (P2_ k_ ∨ w.heap.size ≤ k_) ∧ k_ ≠ gb123 ∧ k_ ≠ gb133 ∧ k_ ≠ gb134) ho0 (fun k_ hk_ => ⟨Or.elim hk_ (fun hs_ => (HO137.out.1 k_ (hs_).symm).1) (fun hn_ => (.inr (Nat.le_trans (by first | exact HK.out.1 | exact (show Kept w _ (fun k_ => P2_ k_) from by repeat (first | (with_reducible first | exact HK.out | apply Kept.alloc | apply Kept.drewN | apply Kept.drew | refine Kept.setCell ?_ (.inr GW123.out) _ | refine Kept.setCell ?_ (.inr GW133.out) _ | refine Kept.setCell ?_ (.inr GW134.out) _) | exact HK.out)).1) hn_))), Or.elim hk_ (fun hs_ => fun e_ => (Kd.R_away HO137.out (fun _ hk => hk.2.1)) (by rw [← e_]; exact hs_)) (fun hn_ => (Kd.freshB (g := gb123) (o := .cells #[.int .i64 a0_0, .int .i64 a0_1] 34 (0, 0)) (by (with_reducible repeat (first | refine blk_drewN ?_ _ | refine blk_drew ?_ | refine blk_alloc ?_ _)); exact BK123.out) k_ hn_)), Or.elim hk_ (fun hs_ => fun e_ => (Kd.R_away HO137.out (fun _ hk => hk.2.2.1)) (by rw [← e_]; exact hs_)) (fun hn_ => (Kd.freshB (g := gb133) (o := .cells #[.int .i64 t129, .int .i64 t130] 34 (0, 0)) (by (with_reducible repeat (first | refine blk_drewN ?_ _ | refine blk_drew ?_ | refine blk_alloc ?_ _)); exact BK133.out) k_ hn_)), Or.elim hk_ (fun hs_ => fun e_ => (Kd.R_away HO137.out (fun _ hk => hk.2.2.2)) (by rw [← e_]; exact hs_)) (fun hn_ => (Kd.freshB (g := gb134) (o := .cells #[.int .i64 t131, .int .i64 t132] 34 (0, 0)) (by (with_reducible repeat (first | refine blk_drewN ?_ _ | refine blk_drew ?_ | refine blk_alloc ?_ _)); exact BK134.out) k_ hn_))⟩))
 replace BK123 := bk_ BK123 hkp (fun hs_ => (fun e_ => (Kd.R_away HO137.out (fun _ hk => hk.2.1)) e_) hs_)
 replace BK133 := bk_ BK133 hkp (fun hs_ => (fun e_ => (Kd.R_away HO137.out (fun _ hk => hk.2.2.1)) e_) hs_)
 replace BK134 := bk_ BK134 hkp (fun hs_ => (fun e_ => (Kd.R_away HO137.out (fun _ hk => hk.2.2.2)) e_) hs_)
 replace HK := Aside0.mk (Kept.then_ (S := (fun k_ => P2_ k_)) (by repeat (first | (with_reducible first | exact HK.out | apply Kept.alloc | apply Kept.drewN | apply Kept.drew | refine Kept.setCell ?_ (.inr GW123.out) _ | refine Kept.setCell ?_ (.inr GW133.out) _ | refine Kept.setCell ?_ (.inr GW134.out) _) | exact HK.out)) hkp (fun k_ hs_ => (fun e_ => (HO137.out.1 k_ e_.symm).1) hs_))
 replace HB := Aside0.mk (hb)
 clear HO137
 (try clear hb)
 (try clear hkp)
 (try clear ho0)
 refine hK.out _ _ ⟨(blk_cell BK134.out 0).trans rfl, (blk_cell BK134.out 1).trans rfl, (blk_cell BK133.out 0).trans rfl, (blk_cell BK133.out 1).trans rfl⟩ (fun hHeld => ?_)
 clear hK K
 refine nz_ 34 ?_
 refine pz_ 7 6 ba2_27 HT_ ?_
 refine done_ (done_of HT_.out (by kernel_rfl)) ?_
 try go_wp2
 go_ret
 exact ⟨_, by first | rfl | (simp [errW_none, errW_some] <;> rfl) | (simp [*, errW_none, errW_some] <;> rfl), by (with_reducible repeat (first | apply Kd.R_alloc | apply Kd.R_drewN | apply Kd.R_drew)); exact Kd.R_mono HO140.out (fun _ hk => hk.1), by repeat (first | (with_reducible first | exact HB.out | apply below_alloc | apply pw_below_drewN | apply below_drew1 | refine below_set ?_ GE123.out | refine below_set ?_ GE133.out | refine below_set ?_ GE134.out) | exact HB.out), by repeat (first | (with_reducible first | exact HK.out | apply Kept.alloc | apply Kept.drewN | apply Kept.drew | refine Kept.setCell ?_ (.inr GW123.out) _ | refine Kept.setCell ?_ (.inr GW133.out) _ | refine Kept.setCell ?_ (.inr GW134.out) _) | exact HK.out)⟩

/-! ### impl_Cover: function 21 -/
def impl_Cover.f (k : Nat) (a0 : Int) (a1 : Int) : Option ((List (S34)) × Bool) := (impl_isAddr.f a0).bind fun t143 => (if t143 = true then ((impl_isAddr.f a1).bind fun t144 => (if t144 = true then (if a1 < a0 then (some (([] : List (S34)), false)) else ((impl_shortest.f k 0 0 [a1] [a0] ([] : List (S34))).bind fun t145 => (some (t145, true)))) else (some (([] : List (S34)), false)))) else (some (([] : List (S34)), false)))
theorem impl_Cover.mono : ∀ a0 a1 k, LeO (impl_Cover.f k a0 a1) (impl_Cover.f (k + 1) a0 a1) := by
 intro a0 a1 k
 unfold impl_Cover.f
 repeat' first
   | (with_reducible exact impl_shortest.mono _ _ _ _ _ _)
   | (with_reducible exact LeO.refl _)
   | (with_reducible exact LeO.none _)
   | (with_reducible refine LeO.ite ?_ ?_)
   | (with_reducible refine LeO.bind ?_ (fun _ => ?_))
   | exact impl_shortest.mono _ _ _ _ _ _
   | exact LeO.none _
   | refine LeO.ite ?_ ?_
   | refine LeO.bind ?_ (fun _ => ?_)
set_option maxHeartbeats 8000000 in
set_option maxRecDepth 100000 in
theorem impl_Cover.calls (k : Nat) (a0 : Int) (a1 : Int) (r1 : List (S34)) (r2 : Bool) (w : World) (h : impl_Cover.f k a0 a1 = some (r1, r2)) :
  Calls Try.prog 21 #[.int .i64 a0, .int .i64 a1] w fun e w' => ∃ v0_ : Value, e = .returned (.tuple #[v0_, .bool r2]) ∧ Kd.R k34 34 w' w.heap.size (fun _ => True) v0_ r1 ∧ Below w.heap.size w w' := by
 have hu34 := Try.underlying34
 have HB := Aside0.mk (Below.refl w.heap.size w)
 have H : ((impl_isAddr.f a0).bind fun t143 => (if t143 = true then ((impl_isAddr.f a1).bind fun t144 => (if t144 = true then (if a1 < a0 then (some (([] : List (S34)), false)) else ((impl_shortest.f k 0 0 [a1] [a0] ([] : List (S34))).bind fun t145 => (some (t145, true)))) else (some (([] : List (S34)), false)))) else (some (([] : List (S34)), false)))) = some (r1, r2) := h
 clear h
 replace H := Option.bind_eq_some_iff.mp H
 obtain ⟨t143, A30, H⟩ := H
 have A3 := Aside0.mk A30
 clear A30
 by_cases c4 : t143 = true
 rotate_left
 ·replace c4 := Bool.eq_false_iff.mpr c4
  subst c4
  rw [if_neg (show ¬ (false = true) by decide)] at H
  simp only [Option.some.injEq, Prod.mk.injEq] at H
  obtain ⟨rfl, rfl⟩ := H
  go_enter Try.func21, Try.ntmps21
  go_wp2_with (first | ((with_reducible refine gate_dst (N := 2) rfl ?_); refine box_event ?hg (N := 2) ?hd (cs := #[.int .i64 a0]) (t := 3) ?hr ?_; (case hd => rfl); (case hg => rfl); (case hr => first | (go_simp; done) | (go_simp; rfl)); intro gb141 hg w25 hbox hb; have BK141 := Aside0.mk hbox; have GW141 := ge_ HB hg; have GE141 := ge_ HB hg; replace HB := Aside0.mk (bt_ HB hb); clear hb hbox hg) | ((with_reducible refine gate_dst (N := 3) rfl ?_); refine box_event ?hg (N := 3) ?hd (cs := #[.int .i64 a1]) (t := 3) ?hr ?_; (case hd => rfl); (case hg => rfl); (case hr => first | (go_simp; done) | (go_simp; rfl)); intro gb142 hg w26 hbox hb; have BK142 := Aside0.mk hbox; have GW142 := ge_ HB hg; have GE142 := ge_ HB hg; have NB141_142 := nl_ BK141 hg; have NB142_141 := ng_ BK141 hg; replace HB := Aside0.mk (bt_ HB hb); replace BK141 := Aside0.mk (bb_ BK141 hb); clear hb hbox hg; have hnb27 := NB141_142.out; have hnc27 := NB142_141.out; have hcz28_0 := cz_ BK141 0 (.int .i64 a0); have hfz28_0 := blk_frozen BK141.out 0) | ((with_reducible refine gate_callee (f := 44) rfl ?_); refine gl_ (some 7) Try.func44 #[.int .i64 a0] ?_; (with_reducible refine (impl_isAddr.calls a0 false _ A3.out).mono ?_); rintro e w' ⟨rfl, ⟨nd, rfl⟩⟩; refine ⟨_, rfl, ?_⟩))
  go_ret2
  exact ⟨_, by first | rfl | (simp [errW_none, errW_some] <;> rfl) | (simp [*, errW_none, errW_some] <;> rfl), by first | exact Kd.R_nil _ _ _ _ _ | exact Kd.N_nil _ _ _ _ _ | exact Kd.V_nil _ _ _ _ _ | exact Kd.Q_nil _ _ _ _ _ | exact Kd.S_nil _ _ _ _ _, by repeat (first | (with_reducible first | exact HB.out | apply below_alloc | apply pw_below_drewN | apply below_drew1 | refine below_set ?_ GE141.out | refine below_set ?_ GE142.out) | exact HB.out)⟩
 subst c4
 rw [if_pos rfl] at H
 replace H := Option.bind_eq_some_iff.mp H
 obtain ⟨t144, A50, H⟩ := H
 have A5 := Aside0.mk A50
 clear A50
 by_cases c6 : t144 = true
 rotate_left
 ·replace c6 := Bool.eq_false_iff.mpr c6
  subst c6
  rw [if_neg (show ¬ (false = true) by decide)] at H
  simp only [Option.some.injEq, Prod.mk.injEq] at H
  obtain ⟨rfl, rfl⟩ := H
  go_enter Try.func21, Try.ntmps21
  go_wp2_with (first | ((with_reducible refine gate_dst (N := 2) rfl ?_); refine box_event ?hg (N := 2) ?hd (cs := #[.int .i64 a0]) (t := 3) ?hr ?_; (case hd => rfl); (case hg => rfl); (case hr => first | (go_simp; done) | (go_simp; rfl)); intro gb141 hg w20 hbox hb; have BK141 := Aside0.mk hbox; have GW141 := ge_ HB hg; have GE141 := ge_ HB hg; replace HB := Aside0.mk (bt_ HB hb); clear hb hbox hg) | ((with_reducible refine gate_dst (N := 3) rfl ?_); refine box_event ?hg (N := 3) ?hd (cs := #[.int .i64 a1]) (t := 3) ?hr ?_; (case hd => rfl); (case hg => rfl); (case hr => first | (go_simp; done) | (go_simp; rfl)); intro gb142 hg w21 hbox hb; have BK142 := Aside0.mk hbox; have GW142 := ge_ HB hg; have GE142 := ge_ HB hg; have NB141_142 := nl_ BK141 hg; have NB142_141 := ng_ BK141 hg; replace HB := Aside0.mk (bt_ HB hb); replace BK141 := Aside0.mk (bb_ BK141 hb); clear hb hbox hg; have hnb22 := NB141_142.out; have hnc22 := NB142_141.out; have hcz23_0 := cz_ BK141 0 (.int .i64 a0); have hfz23_0 := blk_frozen BK141.out 0) | ((with_reducible refine gate_callee (f := 44) rfl ?_); refine gl_ (some 7) Try.func44 #[.int .i64 a0] ?_; (with_reducible refine (impl_isAddr.calls a0 true _ A3.out).mono ?_); rintro e w' ⟨rfl, ⟨nd, rfl⟩⟩; refine ⟨_, rfl, ?_⟩; have hcz24_0 := cz_ BK142 0 (.int .i64 a1); have hfz24_0 := blk_frozen BK142.out 0) | (go_at_call 44; (with_reducible refine (impl_isAddr.calls a1 false _ A5.out).mono ?_); rintro e w' ⟨rfl, ⟨nd, rfl⟩⟩))
  go_ret2
  exact ⟨_, by first | rfl | (simp [errW_none, errW_some] <;> rfl) | (simp [*, errW_none, errW_some] <;> rfl), by first | exact Kd.R_nil _ _ _ _ _ | exact Kd.N_nil _ _ _ _ _ | exact Kd.V_nil _ _ _ _ _ | exact Kd.Q_nil _ _ _ _ _ | exact Kd.S_nil _ _ _ _ _, by repeat (first | (with_reducible first | exact HB.out | apply below_alloc | apply pw_below_drewN | apply below_drew1 | refine below_set ?_ GE141.out | refine below_set ?_ GE142.out) | exact HB.out)⟩
 subst c6
 rw [if_pos rfl] at H
 by_cases c7 : a1 < a0
 ·rw [if_pos c7] at H
  have c7b0 : decide (a1 < a0) = true := decide_eq_true c7
  clear c7
  simp only [Option.some.injEq, Prod.mk.injEq] at H
  obtain ⟨rfl, rfl⟩ := H
  go_enter Try.func21, Try.ntmps21
  go_wp2_with (first | ((with_reducible refine gate_dst (N := 2) rfl ?_); refine box_event ?hg (N := 2) ?hd (cs := #[.int .i64 a0]) (t := 3) ?hr ?_; (case hd => rfl); (case hg => rfl); (case hr => first | (go_simp; done) | (go_simp; rfl)); intro gb141 hg w8 hbox hb; have BK141 := Aside0.mk hbox; have GW141 := ge_ HB hg; have GE141 := ge_ HB hg; replace HB := Aside0.mk (bt_ HB hb); clear hb hbox hg) | ((with_reducible refine gate_dst (N := 3) rfl ?_); refine box_event ?hg (N := 3) ?hd (cs := #[.int .i64 a1]) (t := 3) ?hr ?_; (case hd => rfl); (case hg => rfl); (case hr => first | (go_simp; done) | (go_simp; rfl)); intro gb142 hg w9 hbox hb; have BK142 := Aside0.mk hbox; have GW142 := ge_ HB hg; have GE142 := ge_ HB hg; have NB141_142 := nl_ BK141 hg; have NB142_141 := ng_ BK141 hg; replace HB := Aside0.mk (bt_ HB hb); replace BK141 := Aside0.mk (bb_ BK141 hb); clear hb hbox hg; have hnb10 := NB141_142.out; have hnc10 := NB142_141.out; have hcz11_0 := cz_ BK141 0 (.int .i64 a0); have hfz11_0 := blk_frozen BK141.out 0) | ((with_reducible refine gate_callee (f := 44) rfl ?_); refine gl_ (some 7) Try.func44 #[.int .i64 a0] ?_; (with_reducible refine (impl_isAddr.calls a0 true _ A3.out).mono ?_); rintro e w' ⟨rfl, ⟨nd, rfl⟩⟩; refine ⟨_, rfl, ?_⟩; have hcz12_0 := cz_ BK142 0 (.int .i64 a1); have hfz12_0 := blk_frozen BK142.out 0) | (go_at_call 44; (with_reducible refine (impl_isAddr.calls a1 true _ A5.out).mono ?_); rintro e w' ⟨rfl, ⟨nd, rfl⟩⟩))
  go_ret2
  exact ⟨_, by first | rfl | (simp [errW_none, errW_some] <;> rfl) | (simp [*, errW_none, errW_some] <;> rfl), by first | exact Kd.R_nil _ _ _ _ _ | exact Kd.N_nil _ _ _ _ _ | exact Kd.V_nil _ _ _ _ _ | exact Kd.Q_nil _ _ _ _ _ | exact Kd.S_nil _ _ _ _ _, by repeat (first | (with_reducible first | exact HB.out | apply below_alloc | apply pw_below_drewN | apply below_drew1 | refine below_set ?_ GE141.out | refine below_set ?_ GE142.out) | exact HB.out)⟩
 rw [if_neg c7] at H
 have c7b0 : decide (a1 < a0) = false := decide_eq_false c7
 clear c7
 replace H := Option.bind_eq_some_iff.mp H
 obtain ⟨t145, A130, H⟩ := H
 have A13 := Aside0.mk A130
 clear A130
 simp only [Option.some.injEq, Prod.mk.injEq] at H
 obtain ⟨rfl, rfl⟩ := H
 go_enter Try.func21, Try.ntmps21
 go_wp2_with (first | ((with_reducible refine gate_dst (N := 2) rfl ?_); refine box_event ?hg (N := 2) ?hd (cs := #[.int .i64 a0]) (t := 3) ?hr ?_; (case hd => rfl); (case hg => rfl); (case hr => first | (go_simp; done) | (go_simp; rfl)); intro gb141 hg w14 hbox hb; have BK141 := Aside0.mk hbox; have GW141 := ge_ HB hg; have GE141 := ge_ HB hg; replace HB := Aside0.mk (bt_ HB hb); clear hb hbox hg) | ((with_reducible refine gate_dst (N := 3) rfl ?_); refine box_event ?hg (N := 3) ?hd (cs := #[.int .i64 a1]) (t := 3) ?hr ?_; (case hd => rfl); (case hg => rfl); (case hr => first | (go_simp; done) | (go_simp; rfl)); intro gb142 hg w15 hbox hb; have BK142 := Aside0.mk hbox; have GW142 := ge_ HB hg; have GE142 := ge_ HB hg; have NB141_142 := nl_ BK141 hg; have NB142_141 := ng_ BK141 hg; replace HB := Aside0.mk (bt_ HB hb); replace BK141 := Aside0.mk (bb_ BK141 hb); clear hb hbox hg; have hnb16 := NB141_142.out; have hnc16 := NB142_141.out; have hcz17_0 := cz_ BK141 0 (.int .i64 a0); have hfz17_0 := blk_frozen BK141.out 0) | ((with_reducible refine gate_callee (f := 44) rfl ?_); refine gl_ (some 7) Try.func44 #[.int .i64 a0] ?_; (with_reducible refine (impl_isAddr.calls a0 true _ A3.out).mono ?_); rintro e w' ⟨rfl, ⟨nd, rfl⟩⟩; refine ⟨_, rfl, ?_⟩; have hcz18_0 := cz_ BK142 0 (.int .i64 a1); have hfz18_0 := blk_frozen BK142.out 0) | (go_at_call 44; (with_reducible refine (impl_isAddr.calls a1 true _ A5.out).mono ?_); rintro e w' ⟨rfl, ⟨nd, rfl⟩⟩) | ((with_reducible refine gate_callee (f := 45) rfl ?_); refine gl_ (some 21) Try.func45 #[.agg #[.int .i64 0, .int .i64 0], .func (.func 46) #[] #[.pointer (some ⟨gb142, 0, none⟩), .pointer (some ⟨gb141, 0, none⟩)], .slice none 0 0] ?_; (refine (impl_shortest.calls k 0 0 _ [a1] _ [a0] (fun k_ => some k_ = (.slice none 0 0 : Value).ownBlock) (.slice none 0 0) ([] : List (S34)) t145 w _ ?side1 ?side2 ?side3 ?side4 A13.out).mono ?_); (case side1 => exact by_ HB); (case side2 => exact C_box1_kept (cs := [.int .i64 a1]) (by (with_reducible repeat (first | refine blk_drewN ?_ _ | refine blk_drew ?_ | refine blk_alloc ?_ _)); exact BK142.out) (fun hs_ => (fun e_ => by simp [Value.ownBlock] at e_) hs_) (fun W_ hk_ => rfl)); (case side3 => exact C_box1_kept (cs := [.int .i64 a0]) (by (with_reducible repeat (first | refine blk_drewN ?_ _ | refine blk_drew ?_ | refine blk_alloc ?_ _)); exact BK141.out) (fun hs_ => (fun e_ => by simp [Value.ownBlock] at e_) hs_) (fun W_ hk_ => rfl)); (case side4 => exact Kd.R_nil _ _ _ _ _); rintro e w19 ⟨v146, rfl, ho0, hb, hkp⟩; refine ⟨_, rfl, ?_⟩; have HO147 := Aside0.mk (Kd.R_mono (ok' := fun k_ => True) ho0 (fun k_ hk_ => trivial)); replace BK141 := bk_ BK141 hkp (fun hs_ => (fun e_ => by simp [Value.ownBlock] at e_) hs_); replace BK142 := bk_ BK142 hkp (fun hs_ => (fun e_ => by simp [Value.ownBlock] at e_) hs_); replace HB := Aside0.mk (hb); (try clear hb); (try clear hkp); (try clear ho0)))
 go_ret2
 exact ⟨_, by first | rfl | (simp [errW_none, errW_some] <;> rfl) | (simp [*, errW_none, errW_some] <;> rfl), by (with_reducible repeat (first | apply Kd.R_alloc | apply Kd.R_drewN | apply Kd.R_drew)); exact HO147.out, by repeat (first | (with_reducible first | exact HB.out | apply below_alloc | apply pw_below_drewN | apply below_drew1 | refine below_set ?_ GE141.out | refine below_set ?_ GE142.out) | exact HB.out)⟩

/-! ### laws_eqPrefix: function 48 -/
def laws_eqPrefix.f (a0_0 : Int) (a0_1 : Int) (a1_0 : Int) (a1_1 : Int) : Option (Bool) := if a0_0 = a1_0 then (if a0_1 = a1_1 then (some true) else (some false)) else (some false)
set_option maxHeartbeats 8000000 in
set_option maxRecDepth 100000 in
theorem laws_eqPrefix.calls (a0_0 : Int) (a0_1 : Int) (a1_0 : Int) (a1_1 : Int) (r : Bool) (w : World) (h : laws_eqPrefix.f a0_0 a0_1 a1_0 a1_1 = some r) :
  Calls Try.prog 48 #[.agg #[.int .i64 a0_0, .int .i64 a0_1], .agg #[.int .i64 a1_0, .int .i64 a1_1]] w fun e w' => e = .returned (.bool r) ∧ Below w.heap.size w w' := by
 have hu34 := Try.underlying34
 have HB := Aside0.mk (Below.refl w.heap.size w)
 have H : (if a0_0 = a1_0 then (if a0_1 = a1_1 then (some true) else (some false)) else (some false)) = some r := h
 clear h
 by_cases c3 : a0_0 = a1_0
 rotate_left
 ·rw [if_neg c3] at H
  have c3b0 : (a0_0 == a1_0) = false := beq_eq_false_iff_ne.mpr c3
  have c3b1 : (a0_0 != a1_0) = true := bne_iff_ne.mpr c3
  obtain rfl := Option.some.inj H
  go_enter Try.func48, Try.ntmps48
  go_wp2_with (first | ((with_reducible refine gate_dst (N := 2) rfl ?_); refine box_event ?hg (N := 2) ?hd (cs := #[.int .i64 a0_0, .int .i64 a0_1]) (t := 34) ?hr ?_; (case hd => rfl); (case hg => rfl); (case hr => first | (go_simp; done) | (go_simp; rfl)); intro gb148 hg w15 hbox hb; have BK148 := Aside0.mk hbox; have GW148 := ge_ HB hg; have GE148 := ge_ HB hg; replace HB := Aside0.mk (bt_ HB hb); clear hb hbox hg) | ((with_reducible refine gate_dst (N := 3) rfl ?_); refine box_event ?hg (N := 3) ?hd (cs := #[.int .i64 a1_0, .int .i64 a1_1]) (t := 34) ?hr ?_; (case hd => rfl); (case hg => rfl); (case hr => first | (go_simp; done) | (go_simp; rfl)); intro gb149 hg w16 hbox hb; have BK149 := Aside0.mk hbox; have GW149 := ge_ HB hg; have GE149 := ge_ HB hg; have NB148_149 := nl_ BK148 hg; have NB149_148 := ng_ BK148 hg; replace HB := Aside0.mk (bt_ HB hb); replace BK148 := Aside0.mk (bb_ BK148 hb); clear hb hbox hg; have hnb17 := NB148_149.out; have hnc17 := NB149_148.out; have hcz18_0 := cz_ BK148 0 (.int .i64 a0_0); have hcz18_1 := cz_ BK148 1 (.int .i64 a0_1); have hfz18_0 := blk_frozen BK148.out 0; have hfz18_1 := blk_frozen BK148.out 1; have hcz19_0 := cz_ BK149 0 (.int .i64 a1_0); have hcz19_1 := cz_ BK149 1 (.int .i64 a1_1); have hfz19_0 := blk_frozen BK149.out 0; have hfz19_1 := blk_frozen BK149.out 1))
  go_ret
  exact ⟨by first | rfl | (simp [errW_none, errW_some] <;> rfl) | (simp [*, errW_none, errW_some] <;> rfl), by repeat (first | (with_reducible first | exact HB.out | apply below_alloc | apply pw_below_drewN | apply below_drew1 | refine below_set ?_ GE148.out | refine below_set ?_ GE149.out) | exact HB.out)⟩
 rw [if_pos c3] at H
 have c3b0 : (a0_0 == a1_0) = true := beq_iff_eq.mpr c3
 have c3b1 : (a0_0 != a1_0) = false := bne_eq_false_iff_eq.mpr c3
 clear c3
 by_cases c4 : a0_1 = a1_1
 rotate_left
 ·rw [if_neg c4] at H
  have c4b0 : (a0_1 == a1_1) = false := beq_eq_false_iff_ne.mpr c4
  have c4b1 : (a0_1 != a1_1) = true := bne_iff_ne.mpr c4
  obtain rfl := Option.some.inj H
  go_enter Try.func48, Try.ntmps48
  go_wp2_with (first | ((with_reducible refine gate_dst (N := 2) rfl ?_); refine box_event ?hg (N := 2) ?hd (cs := #[.int .i64 a0_0, .int .i64 a0_1]) (t := 34) ?hr ?_; (case hd => rfl); (case hg => rfl); (case hr => first | (go_simp; done) | (go_simp; rfl)); intro gb148 hg w10 hbox hb; have BK148 := Aside0.mk hbox; have GW148 := ge_ HB hg; have GE148 := ge_ HB hg; replace HB := Aside0.mk (bt_ HB hb); clear hb hbox hg) | ((with_reducible refine gate_dst (N := 3) rfl ?_); refine box_event ?hg (N := 3) ?hd (cs := #[.int .i64 a1_0, .int .i64 a1_1]) (t := 34) ?hr ?_; (case hd => rfl); (case hg => rfl); (case hr => first | (go_simp; done) | (go_simp; rfl)); intro gb149 hg w11 hbox hb; have BK149 := Aside0.mk hbox; have GW149 := ge_ HB hg; have GE149 := ge_ HB hg; have NB148_149 := nl_ BK148 hg; have NB149_148 := ng_ BK148 hg; replace HB := Aside0.mk (bt_ HB hb); replace BK148 := Aside0.mk (bb_ BK148 hb); clear hb hbox hg; have hnb12 := NB148_149.out; have hnc12 := NB149_148.out; have hcz13_0 := cz_ BK148 0 (.int .i64 a0_0); have hcz13_1 := cz_ BK148 1 (.int .i64 a0_1); have hfz13_0 := blk_frozen BK148.out 0; have hfz13_1 := blk_frozen BK148.out 1; have hcz14_0 := cz_ BK149 0 (.int .i64 a1_0); have hcz14_1 := cz_ BK149 1 (.int .i64 a1_1); have hfz14_0 := blk_frozen BK149.out 0; have hfz14_1 := blk_frozen BK149.out 1))
  go_ret
  exact ⟨by first | rfl | (simp [errW_none, errW_some] <;> rfl) | (simp [*, errW_none, errW_some] <;> rfl), by repeat (first | (with_reducible first | exact HB.out | apply below_alloc | apply pw_below_drewN | apply below_drew1 | refine below_set ?_ GE148.out | refine below_set ?_ GE149.out) | exact HB.out)⟩
 rw [if_pos c4] at H
 have c4b0 : (a0_1 == a1_1) = true := beq_iff_eq.mpr c4
 have c4b1 : (a0_1 != a1_1) = false := bne_eq_false_iff_eq.mpr c4
 clear c4
 obtain rfl := Option.some.inj H
 go_enter Try.func48, Try.ntmps48
 go_wp2_with (first | ((with_reducible refine gate_dst (N := 2) rfl ?_); refine box_event ?hg (N := 2) ?hd (cs := #[.int .i64 a0_0, .int .i64 a0_1]) (t := 34) ?hr ?_; (case hd => rfl); (case hg => rfl); (case hr => first | (go_simp; done) | (go_simp; rfl)); intro gb148 hg w5 hbox hb; have BK148 := Aside0.mk hbox; have GW148 := ge_ HB hg; have GE148 := ge_ HB hg; replace HB := Aside0.mk (bt_ HB hb); clear hb hbox hg) | ((with_reducible refine gate_dst (N := 3) rfl ?_); refine box_event ?hg (N := 3) ?hd (cs := #[.int .i64 a1_0, .int .i64 a1_1]) (t := 34) ?hr ?_; (case hd => rfl); (case hg => rfl); (case hr => first | (go_simp; done) | (go_simp; rfl)); intro gb149 hg w6 hbox hb; have BK149 := Aside0.mk hbox; have GW149 := ge_ HB hg; have GE149 := ge_ HB hg; have NB148_149 := nl_ BK148 hg; have NB149_148 := ng_ BK148 hg; replace HB := Aside0.mk (bt_ HB hb); replace BK148 := Aside0.mk (bb_ BK148 hb); clear hb hbox hg; have hnb7 := NB148_149.out; have hnc7 := NB149_148.out; have hcz8_0 := cz_ BK148 0 (.int .i64 a0_0); have hcz8_1 := cz_ BK148 1 (.int .i64 a0_1); have hfz8_0 := blk_frozen BK148.out 0; have hfz8_1 := blk_frozen BK148.out 1; have hcz9_0 := cz_ BK149 0 (.int .i64 a1_0); have hcz9_1 := cz_ BK149 1 (.int .i64 a1_1); have hfz9_0 := blk_frozen BK149.out 0; have hfz9_1 := blk_frozen BK149.out 1))
 go_ret
 exact ⟨by first | rfl | (simp [errW_none, errW_some] <;> rfl) | (simp [*, errW_none, errW_some] <;> rfl), by repeat (first | (with_reducible first | exact HB.out | apply below_alloc | apply pw_below_drewN | apply below_drew1 | refine below_set ?_ GE148.out | refine below_set ?_ GE149.out) | exact HB.out)⟩

end Go.Proofs.Ytflfbaofgfandaa.QFnExactCover
