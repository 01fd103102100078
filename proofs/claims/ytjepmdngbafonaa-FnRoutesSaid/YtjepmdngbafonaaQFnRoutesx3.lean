/- Contracts of functions that the law reaches: what each call returns and what it leaves in memory. Made by this session over the print of the kit. -/
import Derived.Test.YtjepmdngbafonaaQFnRoutesx0
import Derived.Test.YtjepmdngbafonaaQFnRoutesx2
namespace Go.Proofs.Ytjepmdngbafonaa.QFnRoutes
open Go.RowKit Go.Proofs.YtjepmdngbafonaaR.PrintWords Go.Proofs.YtjepmdngbafonaaR.PrintLast Go.Proofs.YtjepmdngbafonaaR.PrintMore
attribute [local go_sem] max2_int min2_int max_two min_two max_three min_three max_four min_four   -- for this text's walks alone
set_option linter.unusedVariables false
set_option linter.unusedSimpArgs false
def ba3_0 : Array Bool := bs_ 39 0
def ba3_1 : Array Bool := bs_ 39 1
def ba3_2 : Array Bool := bs_ 39 5
def ba3_3 : Array Bool := bs_ 39 7
def ba3_4 : Array Bool := bs_ 39 15
def ba3_5 : Array Bool := bs_ 39 31
def ba3_6 : Array Bool := bs_ 39 63
def ba3_7 : Array Bool := bs_ 39 127
def ba3_8 : Array Bool := bs_ 39 255
def ba3_9 : Array Bool := bs_ 39 511
def ba3_10 : Array Bool := bs_ 39 1023
def ba3_11 : Array Bool := bs_ 39 3071
def ba3_12 : Array Bool := bs_ 39 4095
def ba3_13 : Array Bool := bs_ 39 8191
def ba3_14 : Array Bool := bs_ 39 16383
def ba3_15 : Array Bool := bs_ 39 32767
def ba3_16 : Array Bool := bs_ 39 65535
def ba3_17 : Array Bool := bs_ 39 131071
def ba3_18 : Array Bool := bs_ 39 262143
def ba3_19 : Array Bool := bs_ 39 524287
def ba3_20 : Array Bool := bs_ 39 1048575
def ba3_21 : Array Bool := bs_ 39 2097151
def ba3_22 : Array Bool := bs_ 39 4194303
def ba3_23 : Array Bool := bs_ 39 8388607
def ba3_24 : Array Bool := bs_ 39 25165823
def ba3_25 : Array Bool := bs_ 39 58720255
def ba3_26 : Array Bool := bs_ 39 595591167
def ba3_27 : Array Bool := bs_ 39 2743074815
def ba3_28 : Array Bool := bs_ 39 2751463423
def ba3_29 : Array Bool := bs_ 39 2818572287
def ba3_30 : Array Bool := bs_ 39 2952790015
def ba3_31 : Array Bool := bs_ 39 3221225471
def ba3_32 : Array Bool := bs_ 39 4294967295
def ba3_33 : Array Bool := bs_ 39 8589934591
def ba3_34 : Array Bool := bs_ 39 17179869183
def ba3_35 : Array Bool := bs_ 39 34359738367
def ba3_36 : Array Bool := bs_ 39 68719476735
def ba3_37 : Array Bool := bs_ 39 137438953471
def ba3_38 : Array Bool := bs_ 39 274877906943
def ba3_39 : Array Bool := bs_ 39 549755813887
def ba3_40 : Array Bool := bs_ 39 16777215
def ba3_41 : Array Bool := bs_ 39 33554431
def ba3_42 : Array Bool := bs_ 39 67108863
def ba3_43 : Array Bool := bs_ 39 134217727
def ba3_44 : Array Bool := bs_ 39 268435455
def ba3_45 : Array Bool := bs_ 39 536870911
def ba3_46 : Array Bool := bs_ 39 1073741823
def ba3_47 : Array Bool := bs_ 39 2147483647
def ba3_48 : Array Bool := bs_ 39 2047

/-! ### spec_TableOk: function 19 -/
def spec_TableOk.l0 : Nat → Int → List (S30) → Option (Bool)
 | 0, _, _ => none
 | k + 1, x3, x125000 => if x3 < (x125000.length : Int) then (if 0 ≤ x3 then ((spec_PrefixOk.f ((rd_T30 x125000 x3).f0.f0) ((rd_T30 x125000 x3).f0.f1)).bind fun t126 => (if t126 = true then ((spec_l01In.f ((rd_T30 x125000 x3).f1) 0 999).bind fun t128 => (if t128 = true then (if x3 > 0 then (if 0 ≤ (wrap64 (x3 - 1)) then (if (wrap64 (x3 - 1)) < (x125000.length : Int) then ((spec_l02Ahead.f ((rd_T30 x125000 (wrap64 (x3 - 1))).f0.f0) ((rd_T30 x125000 (wrap64 (x3 - 1))).f0.f1) ((rd_T30 x125000 x3).f0.f0) ((rd_T30 x125000 x3).f0.f1)).bind fun t131 => (if t131 = true then (spec_TableOk.l0 k (wrap64 (x3 + 1)) x125000) else (some false))) else (none)) else (none)) else (spec_TableOk.l0 k (wrap64 (x3 + 1)) x125000)) else (some false))) else (some false))) else (none)) else (some true)
def spec_TableOk.f (k : Nat) (l0_0 : List (S30)) : Option (Bool) := if (l0_0.length : Int) > 120 then (some false) else (spec_TableOk.l0 k 0 l0_0)
theorem spec_TableOk.mono_l : ∀ k, (∀ y0 y1, LeO (spec_TableOk.l0 k y0 y1) (spec_TableOk.l0 (k + 1) y0 y1))
 | 0 => fun _ _ r h => by simp [spec_TableOk.l0] at h
 | k + 1 => by
  have ih0 := spec_TableOk.mono_l k
  ·intro y0 y1
   unfold spec_TableOk.l0
   repeat' first | (with_reducible first | exact ih0 _ _ | exact LeO.refl _ | exact LeO.none _ | refine LeO.ite ?_ ?_ | refine LeO.bind ?_ (fun _ => ?_)) | exact ih0 _ _ | exact LeO.none _ | refine LeO.ite ?_ ?_ | refine LeO.bind ?_ (fun _ => ?_)
theorem spec_TableOk.mono : ∀ a0 k, LeO (spec_TableOk.f k a0) (spec_TableOk.f (k + 1) a0) := by
 intro a0 k
 have ih0 := spec_TableOk.mono_l k
 unfold spec_TableOk.f
 repeat' first | (with_reducible first | exact ih0 _ _ | exact LeO.refl _ | exact LeO.none _ | refine LeO.ite ?_ ?_ | refine LeO.bind ?_ (fun _ => ?_)) | exact ih0 _ _ | exact LeO.none _ | refine LeO.ite ?_ ?_ | refine LeO.bind ?_ (fun _ => ?_)
def spec_TableOk.T6 : Bool × List (List Nat × List Nat) := (true, [([], []), ([0], [0]), ([], []), ([1, 2], [1, 2]), ([3], [3]), ([4], [4]), ([5], [5]), ([6], [6]), ([7, 6], [7]), ([8], [8]), ([9, 8], [8, 9]), ([8], [8]), ([10, 11, 8], [8, 10, 11]), ([12, 8], [8, 12]), ([13, 8], [8, 13]), ([14, 8, 8], [8, 14]), ([15, 8], [8, 15]), ([8, 16], [8, 16]), ([17, 15], [17]), ([18], [18]), ([19, 18], [18, 19]), ([20, 18, 18], [18, 20]), ([21], [21]), ([22, 21], [21, 22]), ([21], [21]), ([24, 21], [21, 24]), ([23, 25, 21], [21, 23, 25]), ([26, 21], [21, 26]), ([27, 21], [21, 27]), ([21], [21]), ([29, 21], [21, 29]), ([21], [21]), ([30, 31, 21], [21, 30, 31]), ([32, 21], [21, 32]), ([33, 21], [21, 33]), ([28, 34, 21, 21], [21, 28, 34]), ([35, 21], [21, 35]), ([21, 36, 18], [18, 21, 36]), ([18, 37], [18, 37])])
def spec_TableOk.B6 : List Nat := [0, 1, 0, 7, 15, 31, 63, 127, 255, 511, 1023, 511, 4095, 8191, 16383, 32767, 65535, 131071, 262143, 524287, 1048575, 2097151, 4194303, 8388607, 4194303, 20971519, 67108863, 134217727, 268435455, 4194303, 541065215, 4194303, 3762290687, 8057257983, 16647192575, 34359738367, 68719476735, 137438953471, 274877906943]
theorem spec_TableOk.tab6 : rtab .any (opsOf Try.f19 6) = spec_TableOk.T6 := by kernel_rfl
theorem spec_TableOk.bits6 : waitsOk spec_TableOk.T6.2 spec_TableOk.B6 = true := by kernel_rfl
set_option maxHeartbeats 8000000 in
set_option maxRecDepth 100000 in
theorem spec_TableOk.calls (k : Nat) (A0_0 : Option Addr) (c0_0 : Nat) (l0_0 : List (S30)) (r : Bool) (w : World) (hr0_0 : Kd.C k30 w A0_0 l0_0.length l0_0) (hc0_0 : l0_0.length ≤ c0_0) (h : spec_TableOk.f k l0_0 = some r) :
  Calls Try.prog 19 #[.agg #[.slice A0_0 l0_0.length c0_0]] w fun e w' => e = .returned (.bool r) ∧ Below w.heap.size w w' := by
 have hu26 := Try.underlying26
 have hu28 := Try.underlying28
 have HR0_0 := Aside0.mk hr0_0
 have HC0_0 := Aside0.mk hc0_0
 clear hr0_0 hc0_0
 have HB := Aside0.mk (Below.refl w.heap.size w)
 have H : (if (l0_0.length : Int) > 120 then (some false) else (spec_TableOk.l0 k 0 l0_0)) = some r := h
 clear h
 by_cases c2 : (l0_0.length : Int) > 120
 ·rw [if_pos c2] at H
  have c2b0 : decide (120 < (l0_0.length : Int)) = true := decide_eq_true c2
  have c2b1 : decide (120 < l0_0.length) = true := decide_eq_true (by omega)
  clear c2
  obtain rfl := Option.some.inj H
  go_enter Try.func19, Try.ntmps19
  go_wp2_with (first | ((with_reducible refine gate_dst (N := 1) rfl ?_); refine box_event ?hg (N := 1) ?hd (cs := #[.slice A0_0 l0_0.length c0_0]) (t := 26) ?hr ?_; (case hd => rfl); (case hg => rfl); (case hr => first | (go_simp; done) | (go_simp; rfl)); intro gb124 hg w3 hbox hb; have BK124 := Aside0.mk hbox; have GW124 := ge_ HB hg; have GE124 := ge_ HB hg; replace HB := at_ HB hb; clear hb hbox hg; have hcz4_0 := cz_ BK124 0 (.slice A0_0 l0_0.length c0_0); have hfz4_0 := fz_ BK124 0))
  go_ret
  exact ⟨by first | rfl | (simp [errW_none, errW_some] <;> rfl) | (simp [*, errW_none, errW_some] <;> rfl), bw112_⟩
 rw [if_neg c2] at H
 have c2b0 : decide (120 < (l0_0.length : Int)) = false := decide_eq_false c2
 have c2b1 : decide (120 < l0_0.length) = false := decide_eq_false (by omega)
 clear c2
 have H' := Aside0.mk H
 clear H
 go_enter Try.func19, Try.ntmps19
 go_wp2_with (first | ((with_reducible refine gate_dst (N := 1) rfl ?_); refine box_event ?hg (N := 1) ?hd (cs := #[.slice A0_0 l0_0.length c0_0]) (t := 26) ?hr ?_; (case hd => rfl); (case hg => rfl); (case hr => first | (go_simp; done) | (go_simp; rfl)); intro gb124 hg w5 hbox hb; have BK124 := Aside0.mk hbox; have GW124 := ge_ HB hg; have GE124 := ge_ HB hg; replace HB := at_ HB hb; clear hb hbox hg; have hcz6_0 := cz_ BK124 0 (.slice A0_0 l0_0.length c0_0); have hfz6_0 := fz_ BK124 0))
 go_loopg [3] k (fun kq v3 w' => ∃ (x3_1 : Int), v3 = .int .i64 x3_1 ∧ Aside0 (spec_TableOk.l0 kq x3_1 l0_0 = some r) ∧ Aside0 (kq ≤ k) ∧ Aside0 (w'.heap[gb124]? = some (.cells #[(.slice A0_0 l0_0.length c0_0)] 26 (0, 0))) ∧ Aside0 (Below w.heap.size w w'))
 case atStart => exact ⟨(0), er_, H', ⟨Nat.le_refl _⟩, ⟨bx_ BK124⟩, ⟨bw112_⟩⟩
 case round =>
  clear H'
  try clear c1
  try clear c2
  try clear c2b0
  try clear c2b1
  try clear p2
  try clear hcz4_0
  try clear hcz6_0
  try clear hfz4_0
  try clear hfz6_0
  obtain ⟨x3_1, rfl, HA, HK1, BK124, HB⟩ := hrel
  cases gk with
  | zero => exact absurd HA.out (by simp [spec_TableOk.l0])
  | succ k1 =>
   have H := HA.out
   clear HA
   simp only [spec_TableOk.l0] at H
   by_cases c7 : x3_1 < (l0_0.length : Int)
   rotate_left
   ·rw [if_neg c7] at H
    have c7b0 : decide (x3_1 < (l0_0.length : Int)) = false := decide_eq_false c7
    clear c7
    obtain rfl := Option.some.inj H
    have hcz36_0 := cz_ BK124 0 (.slice A0_0 l0_0.length c0_0)
    have hfz36_0 := fz_ BK124 0
    go_wp2
    go_ret
    exact ⟨by first | rfl | (simp [errW_none, errW_some] <;> rfl) | (simp [*, errW_none, errW_some] <;> rfl), bw112_⟩
   rw [if_pos c7] at H
   have c7b0 : decide (x3_1 < (l0_0.length : Int)) = true := decide_eq_true c7
   clear c7
   obtain ⟨c8b0, H⟩ := iq_ H
   replace H := Option.bind_eq_some_iff.mp H
   obtain ⟨t126, A90, H⟩ := H
   have A9 := Aside0.mk A90
   clear A90
   by_cases c10 : t126 = true
   rotate_left
   ·replace c10 := Bool.eq_false_iff.mpr c10
    subst c10
    rw [if_neg (show ¬ (false = true) by decide)] at H
    obtain rfl := Option.some.inj H
    have hcz33_0 := cz_ BK124 0 (.slice A0_0 l0_0.length c0_0)
    have hfz33_0 := fz_ BK124 0
    try go_wp2
    replace BK124 := ad_ BK124
    replace HB := Aside0.mk (below_drew1 HB.out)
    have p125 : 0 ≤ (x3_1 : Int) := oa_
    have q125 : x3_1 < (l0_0.length : Int) := oa_
    obtain ⟨ad125, e125, hx125_0, hx125_1, hx125_2⟩ := at_T30 HR0_0.out x3_1 p125 q125
    have hw125_2 := hx125_2
    have hw125_1 := hx125_1
    have hw125_0 := hx125_0
    cases e125
    replace hx125_0 := (HB.out.cell (World.block_lt_of_cell? w _ hx125_0)).trans hx125_0
    replace hx125_1 := (HB.out.cell (World.block_lt_of_cell? w _ hx125_1)).trans hx125_1
    replace hx125_2 := (HB.out.cell (World.block_lt_of_cell? w _ hx125_2)).trans hx125_2
    replace p125 := eq_true p125
    replace q125 := eq_true q125
    refine start_ (n := 39) (S := fun w' => w'.cell? ⟨gb124, 0, none⟩ = some (.slice (some ad125) l0_0.length c0_0) ∧ w'.cell? (ad125.add ((x3_1).toNat * 3)) = some (.int .i64 ((rd_T30 l0_0 x3_1).f0.f0)) ∧ w'.cell? ⟨(ad125.add ((x3_1).toNat * 3)).block, (ad125.add ((x3_1).toNat * 3)).off + 1, none⟩ = some (.int .i64 ((rd_T30 l0_0 x3_1).f0.f1)) ∧ w'.cell? ⟨(ad125.add ((x3_1).toNat * 3)).block, (ad125.add ((x3_1).toNat * 3)).off + 2, none⟩ = some (.int .i64 ((rd_T30 l0_0 x3_1).f1))) (ds := []) ba3_0 (by kernel_rfl) rfl rfl ⟨(blk_cell BK124.out 0).trans rfl, (hc_ HB hw125_0), (hc_ HB hw125_1), (hc_ HB hw125_2)⟩ (fun hHeld => ?_); refine with_tabW spec_TableOk.tab6 spec_TableOk.bits6 (fun HT_ HW_ => ?_)
    generalize wr.drew = w34 at BK124 HB hx125_0 hx125_1 hx125_2 hHeld ⊢
    refine pz_ 0 15 ba3_1 HT_ ?_
    refine pz_ 2 17 ba3_2 HT_ ?_
    refine pt_ 1 16 ba3_3 HT_ HW_ hHeld ?_
    refine pz_ 3 18 ba3_4 HT_ ?_
    refine pz_ 4 19 ba3_5 HT_ ?_
    refine pt_ 5 20 ba3_6 HT_ HW_ hHeld ?_
    refine one_ (i := 6) (N := some 21) ba3_7 rfl rfl (one_of HT_.out (by kernel_rfl)) (by decide) (fun K hK => ?_)
    refine gz_ Try.func55 #[.agg #[.int .i64 ((rd_T30 l0_0 x3_1).f0.f0), .int .i64 ((rd_T30 l0_0 x3_1).f0.f1)]] ?_
    with_reducible refine (spec_PrefixOk.calls ((rd_T30 l0_0 x3_1).f0.f0) ((rd_T30 l0_0 x3_1).f0.f1) false _ A9.out).mono ?_
    rintro e w35 ⟨rfl, hb⟩
    refine ⟨_, rfl, ?_⟩
    replace BK124 := ab_ BK124 hb
    replace HB := at_ HB hb
    (try clear hb)
    (try clear hb2)
    (try clear hk)
    (try clear hi)
    refine hK.out _ _ ⟨(blk_cell BK124.out 0).trans rfl, (hc_ HB hw125_0), (hc_ HB hw125_1), (hc_ HB hw125_2)⟩ (fun hHeld => ?_)
    clear hK K
    refine nz_ 21 ?_
    refine pz_ 7 22 ba3_8 HT_ ?_
    refine pz_ 8 23 ba3_9 HT_ ?_
    refine pu_ 9 24 ba3_10 HT_ ?_
    refine pu_ 10 25 ba3_48 HT_ ?_
    refine pu_ 11 26 ba3_12 HT_ ?_
    refine pu_ 12 27 ba3_13 HT_ ?_
    refine pu_ 13 28 ba3_14 HT_ ?_
    refine pu_ 14 29 ba3_15 HT_ ?_
    refine pu_ 15 30 ba3_16 HT_ ?_
    refine pu_ 16 31 ba3_17 HT_ ?_
    refine pz_ 17 32 ba3_18 HT_ ?_
    refine pz_ 18 33 ba3_19 HT_ ?_
    refine pu_ 19 34 ba3_20 HT_ ?_
    refine pu_ 20 35 ba3_21 HT_ ?_
    refine pu_ 21 36 ba3_22 HT_ ?_
    refine pu_ 22 37 ba3_23 HT_ ?_
    refine pu_ 23 38 ba3_40 HT_ ?_
    refine pu_ 24 39 ba3_41 HT_ ?_
    refine pu_ 25 40 ba3_42 HT_ ?_
    refine pu_ 26 41 ba3_43 HT_ ?_
    refine pu_ 27 42 ba3_44 HT_ ?_
    refine pu_ 28 43 ba3_45 HT_ ?_
    refine pu_ 29 44 ba3_46 HT_ ?_
    refine pu_ 30 45 ba3_47 HT_ ?_
    refine pu_ 31 46 ba3_32 HT_ ?_
    refine pu_ 32 47 ba3_33 HT_ ?_
    refine pu_ 33 48 ba3_34 HT_ ?_
    refine pu_ 34 49 ba3_35 HT_ ?_
    refine pu_ 35 50 ba3_36 HT_ ?_
    refine pu_ 36 51 ba3_37 HT_ ?_
    refine pu_ 37 52 ba3_38 HT_ ?_
    refine pz_ 38 53 ba3_39 HT_ ?_
    refine done_ (done_of HT_.out (by kernel_rfl)) ?_
    try go_wp2
    go_ret
    exact ⟨by first | rfl | (simp [errW_none, errW_some] <;> rfl) | (simp [*, errW_none, errW_some] <;> rfl), bw112_⟩
   subst c10
   rw [if_pos rfl] at H
   replace H := Option.bind_eq_some_iff.mp H
   obtain ⟨t128, A110, H⟩ := H
   have A11 := Aside0.mk A110
   clear A110
   by_cases c12 : t128 = true
   rotate_left
   ·replace c12 := Bool.eq_false_iff.mpr c12
    subst c12
    rw [if_neg (show ¬ (false = true) by decide)] at H
    obtain rfl := Option.some.inj H
    have hcz30_0 := cz_ BK124 0 (.slice A0_0 l0_0.length c0_0)
    have hfz30_0 := fz_ BK124 0
    try go_wp2
    replace BK124 := ad_ BK124
    replace HB := Aside0.mk (below_drew1 HB.out)
    have p125 : 0 ≤ (x3_1 : Int) := oa_
    have q125 : x3_1 < (l0_0.length : Int) := oa_
    obtain ⟨ad125, e125, hx125_0, hx125_1, hx125_2⟩ := at_T30 HR0_0.out x3_1 p125 q125
    have hw125_2 := hx125_2
    have hw125_1 := hx125_1
    have hw125_0 := hx125_0
    cases e125
    replace hx125_0 := (HB.out.cell (World.block_lt_of_cell? w _ hx125_0)).trans hx125_0
    replace hx125_1 := (HB.out.cell (World.block_lt_of_cell? w _ hx125_1)).trans hx125_1
    replace hx125_2 := (HB.out.cell (World.block_lt_of_cell? w _ hx125_2)).trans hx125_2
    replace p125 := eq_true p125
    replace q125 := eq_true q125
    have p127 : 0 ≤ (x3_1 : Int) := oa_
    have q127 : x3_1 < (l0_0.length : Int) := oa_
    obtain ⟨ad127, e127, hx127_0, hx127_1, hx127_2⟩ := at_T30 HR0_0.out x3_1 p127 q127
    have hw127_2 := hx127_2
    have hw127_1 := hx127_1
    have hw127_0 := hx127_0
    obtain rfl : ad125 = ad127 := (by injection e127)
    replace hx127_0 := (HB.out.cell (World.block_lt_of_cell? w _ hx127_0)).trans hx127_0
    replace hx127_1 := (HB.out.cell (World.block_lt_of_cell? w _ hx127_1)).trans hx127_1
    replace hx127_2 := (HB.out.cell (World.block_lt_of_cell? w _ hx127_2)).trans hx127_2
    replace p127 := eq_true p127
    replace q127 := eq_true q127
    refine start_ (n := 39) (S := fun w' => w'.cell? ⟨gb124, 0, none⟩ = some (.slice (some ad125) l0_0.length c0_0) ∧ w'.cell? (ad125.add ((x3_1).toNat * 3)) = some (.int .i64 ((rd_T30 l0_0 x3_1).f0.f0)) ∧ w'.cell? ⟨(ad125.add ((x3_1).toNat * 3)).block, (ad125.add ((x3_1).toNat * 3)).off + 1, none⟩ = some (.int .i64 ((rd_T30 l0_0 x3_1).f0.f1)) ∧ w'.cell? ⟨(ad125.add ((x3_1).toNat * 3)).block, (ad125.add ((x3_1).toNat * 3)).off + 2, none⟩ = some (.int .i64 ((rd_T30 l0_0 x3_1).f1)) ∧ w'.cell? (ad125.add ((x3_1).toNat * 3)) = some (.int .i64 ((rd_T30 l0_0 x3_1).f0.f0)) ∧ w'.cell? ⟨(ad125.add ((x3_1).toNat * 3)).block, (ad125.add ((x3_1).toNat * 3)).off + 1, none⟩ = some (.int .i64 ((rd_T30 l0_0 x3_1).f0.f1)) ∧ w'.cell? ⟨(ad125.add ((x3_1).toNat * 3)).block, (ad125.add ((x3_1).toNat * 3)).off + 2, none⟩ = some (.int .i64 ((rd_T30 l0_0 x3_1).f1))) (ds := []) ba3_0 (by kernel_rfl) rfl rfl ⟨(blk_cell BK124.out 0).trans rfl, (hc_ HB hw125_0), (hc_ HB hw125_1), (hc_ HB hw125_2), (hc_ HB hw127_0), (hc_ HB hw127_1), (hc_ HB hw127_2)⟩ (fun hHeld => ?_); refine with_tabW spec_TableOk.tab6 spec_TableOk.bits6 (fun HT_ HW_ => ?_)
    generalize wr.drew = w31 at BK124 HB hx125_0 hx125_1 hx125_2 hx127_0 hx127_1 hx127_2 hHeld ⊢
    refine pz_ 0 15 ba3_1 HT_ ?_
    refine pz_ 2 17 ba3_2 HT_ ?_
    refine pt_ 1 16 ba3_3 HT_ HW_ hHeld ?_
    refine pz_ 3 18 ba3_4 HT_ ?_
    refine pz_ 4 19 ba3_5 HT_ ?_
    refine pt_ 5 20 ba3_6 HT_ HW_ hHeld ?_
    refine one_ (i := 6) (N := some 21) ba3_7 rfl rfl (one_of HT_.out (by kernel_rfl)) (by decide) (fun K hK => ?_)
    refine gz_ Try.func55 #[.agg #[.int .i64 ((rd_T30 l0_0 x3_1).f0.f0), .int .i64 ((rd_T30 l0_0 x3_1).f0.f1)]] ?_
    with_reducible refine (spec_PrefixOk.calls ((rd_T30 l0_0 x3_1).f0.f0) ((rd_T30 l0_0 x3_1).f0.f1) true _ A9.out).mono ?_
    rintro e w32 ⟨rfl, hb⟩
    refine ⟨_, rfl, ?_⟩
    replace BK124 := ab_ BK124 hb
    replace HB := at_ HB hb
    (try clear hb)
    (try clear hb2)
    (try clear hk)
    (try clear hi)
    refine hK.out _ _ ⟨(blk_cell BK124.out 0).trans rfl, (hc_ HB hw125_0), (hc_ HB hw125_1), (hc_ HB hw125_2), (hc_ HB hw127_0), (hc_ HB hw127_1), (hc_ HB hw127_2)⟩ (fun hHeld => ?_)
    clear hK K
    refine nz_ 21 ?_
    refine pz_ 7 22 ba3_8 HT_ ?_
    refine pz_ 8 23 ba3_9 HT_ ?_
    refine pz_ 9 24 ba3_10 HT_ ?_
    refine pz_ 11 26 ba3_11 HT_ ?_
    refine pt_ 10 25 ba3_12 HT_ HW_ hHeld ?_
    refine pz_ 12 27 ba3_13 HT_ ?_
    refine pz_ 13 28 ba3_14 HT_ ?_
    refine pt_ 14 29 ba3_15 HT_ HW_ hHeld ?_
    refine one_ (i := 15) (N := some 30) ba3_16 rfl rfl (one_of HT_.out (by kernel_rfl)) (by decide) (fun K hK => ?_)
    refine gz_ Try.func56 #[.int .i64 ((rd_T30 l0_0 x3_1).f1), .int .i64 0, .int .i64 999] ?_
    with_reducible refine (spec_l01In.calls ((rd_T30 l0_0 x3_1).f1) 0 999 false _ A11.out).mono ?_
    rintro e w' ⟨rfl, ⟨nd, rfl⟩⟩
    refine ⟨_, rfl, ?_⟩
    refine hK.out _ _ ⟨(blk_cell BK124.out 0).trans rfl, (hc_ HB hw125_0), (hc_ HB hw125_1), (hc_ HB hw125_2), (hc_ HB hw127_0), (hc_ HB hw127_1), (hc_ HB hw127_2)⟩ (fun hHeld => ?_)
    clear hK K
    refine nz_ 30 ?_
    refine pz_ 16 31 ba3_17 HT_ ?_
    refine pz_ 17 32 ba3_18 HT_ ?_
    refine pz_ 18 33 ba3_19 HT_ ?_
    refine pu_ 19 34 ba3_20 HT_ ?_
    refine pu_ 20 35 ba3_21 HT_ ?_
    refine pu_ 21 36 ba3_22 HT_ ?_
    refine pu_ 22 37 ba3_23 HT_ ?_
    refine pu_ 23 38 ba3_40 HT_ ?_
    refine pu_ 24 39 ba3_41 HT_ ?_
    refine pu_ 25 40 ba3_42 HT_ ?_
    refine pu_ 26 41 ba3_43 HT_ ?_
    refine pu_ 27 42 ba3_44 HT_ ?_
    refine pu_ 28 43 ba3_45 HT_ ?_
    refine pu_ 29 44 ba3_46 HT_ ?_
    refine pu_ 30 45 ba3_47 HT_ ?_
    refine pu_ 31 46 ba3_32 HT_ ?_
    refine pu_ 32 47 ba3_33 HT_ ?_
    refine pu_ 33 48 ba3_34 HT_ ?_
    refine pu_ 34 49 ba3_35 HT_ ?_
    refine pu_ 35 50 ba3_36 HT_ ?_
    refine pu_ 36 51 ba3_37 HT_ ?_
    refine pu_ 37 52 ba3_38 HT_ ?_
    refine pz_ 38 53 ba3_39 HT_ ?_
    refine done_ (done_of HT_.out (by kernel_rfl)) ?_
    try go_wp2
    go_ret
    exact ⟨by first | rfl | (simp [errW_none, errW_some] <;> rfl) | (simp [*, errW_none, errW_some] <;> rfl), bw112_⟩
   subst c12
   rw [if_pos rfl] at H
   by_cases c13 : x3_1 > 0
   rotate_left
   ·rw [if_neg c13] at H
    have c13b0 : decide (0 < x3_1) = false := decide_eq_false c13
    clear c13
    have H' := Aside0.mk H
    clear H
    have hcz27_0 := cz_ BK124 0 (.slice A0_0 l0_0.length c0_0)
    have hfz27_0 := fz_ BK124 0
    try go_wp2
    replace BK124 := ad_ BK124
    replace HB := Aside0.mk (below_drew1 HB.out)
    have p125 : 0 ≤ (x3_1 : Int) := oa_
    have q125 : x3_1 < (l0_0.length : Int) := oa_
    obtain ⟨ad125, e125, hx125_0, hx125_1, hx125_2⟩ := at_T30 HR0_0.out x3_1 p125 q125
    have hw125_2 := hx125_2
    have hw125_1 := hx125_1
    have hw125_0 := hx125_0
    cases e125
    replace hx125_0 := (HB.out.cell (World.block_lt_of_cell? w _ hx125_0)).trans hx125_0
    replace hx125_1 := (HB.out.cell (World.block_lt_of_cell? w _ hx125_1)).trans hx125_1
    replace hx125_2 := (HB.out.cell (World.block_lt_of_cell? w _ hx125_2)).trans hx125_2
    replace p125 := eq_true p125
    replace q125 := eq_true q125
    have p127 : 0 ≤ (x3_1 : Int) := oa_
    have q127 : x3_1 < (l0_0.length : Int) := oa_
    obtain ⟨ad127, e127, hx127_0, hx127_1, hx127_2⟩ := at_T30 HR0_0.out x3_1 p127 q127
    have hw127_2 := hx127_2
    have hw127_1 := hx127_1
    have hw127_0 := hx127_0
    obtain rfl : ad125 = ad127 := (by injection e127)
    replace hx127_0 := (HB.out.cell (World.block_lt_of_cell? w _ hx127_0)).trans hx127_0
    replace hx127_1 := (HB.out.cell (World.block_lt_of_cell? w _ hx127_1)).trans hx127_1
    replace hx127_2 := (HB.out.cell (World.block_lt_of_cell? w _ hx127_2)).trans hx127_2
    replace p127 := eq_true p127
    replace q127 := eq_true q127
    refine start_ (n := 39) (S := fun w' => w'.cell? ⟨gb124, 0, none⟩ = some (.slice (some ad125) l0_0.length c0_0) ∧ w'.cell? (ad125.add ((x3_1).toNat * 3)) = some (.int .i64 ((rd_T30 l0_0 x3_1).f0.f0)) ∧ w'.cell? ⟨(ad125.add ((x3_1).toNat * 3)).block, (ad125.add ((x3_1).toNat * 3)).off + 1, none⟩ = some (.int .i64 ((rd_T30 l0_0 x3_1).f0.f1)) ∧ w'.cell? ⟨(ad125.add ((x3_1).toNat * 3)).block, (ad125.add ((x3_1).toNat * 3)).off + 2, none⟩ = some (.int .i64 ((rd_T30 l0_0 x3_1).f1)) ∧ w'.cell? (ad125.add ((x3_1).toNat * 3)) = some (.int .i64 ((rd_T30 l0_0 x3_1).f0.f0)) ∧ w'.cell? ⟨(ad125.add ((x3_1).toNat * 3)).block, (ad125.add ((x3_1).toNat * 3)).off + 1, none⟩ = some (.int .i64 ((rd_T30 l0_0 x3_1).f0.f1)) ∧ w'.cell? ⟨(ad125.add ((x3_1).toNat * 3)).block, (ad125.add ((x3_1).toNat * 3)).off + 2, none⟩ = some (.int .i64 ((rd_T30 l0_0 x3_1).f1))) (ds := []) ba3_0 (by kernel_rfl) rfl rfl ⟨(blk_cell BK124.out 0).trans rfl, (hc_ HB hw125_0), (hc_ HB hw125_1), (hc_ HB hw125_2), (hc_ HB hw127_0), (hc_ HB hw127_1), (hc_ HB hw127_2)⟩ (fun hHeld => ?_); refine with_tabW spec_TableOk.tab6 spec_TableOk.bits6 (fun HT_ HW_ => ?_)
    generalize wr.drew = w28 at BK124 HB hx125_0 hx125_1 hx125_2 hx127_0 hx127_1 hx127_2 hHeld ⊢
    refine pz_ 0 15 ba3_1 HT_ ?_
    refine pz_ 2 17 ba3_2 HT_ ?_
    refine pt_ 1 16 ba3_3 HT_ HW_ hHeld ?_
    refine pz_ 3 18 ba3_4 HT_ ?_
    refine pz_ 4 19 ba3_5 HT_ ?_
    refine pt_ 5 20 ba3_6 HT_ HW_ hHeld ?_
    refine one_ (i := 6) (N := some 21) ba3_7 rfl rfl (one_of HT_.out (by kernel_rfl)) (by decide) (fun K hK => ?_)
    refine gz_ Try.func55 #[.agg #[.int .i64 ((rd_T30 l0_0 x3_1).f0.f0), .int .i64 ((rd_T30 l0_0 x3_1).f0.f1)]] ?_
    with_reducible refine (spec_PrefixOk.calls ((rd_T30 l0_0 x3_1).f0.f0) ((rd_T30 l0_0 x3_1).f0.f1) true _ A9.out).mono ?_
    rintro e w29 ⟨rfl, hb⟩
    refine ⟨_, rfl, ?_⟩
    replace BK124 := ab_ BK124 hb
    replace HB := at_ HB hb
    (try clear hb)
    (try clear hb2)
    (try clear hk)
    (try clear hi)
    refine hK.out _ _ ⟨(blk_cell BK124.out 0).trans rfl, (hc_ HB hw125_0), (hc_ HB hw125_1), (hc_ HB hw125_2), (hc_ HB hw127_0), (hc_ HB hw127_1), (hc_ HB hw127_2)⟩ (fun hHeld => ?_)
    clear hK K
    refine nz_ 21 ?_
    refine pz_ 7 22 ba3_8 HT_ ?_
    refine pz_ 8 23 ba3_9 HT_ ?_
    refine pz_ 9 24 ba3_10 HT_ ?_
    refine pz_ 11 26 ba3_11 HT_ ?_
    refine pt_ 10 25 ba3_12 HT_ HW_ hHeld ?_
    refine pz_ 12 27 ba3_13 HT_ ?_
    refine pz_ 13 28 ba3_14 HT_ ?_
    refine pt_ 14 29 ba3_15 HT_ HW_ hHeld ?_
    refine one_ (i := 15) (N := some 30) ba3_16 rfl rfl (one_of HT_.out (by kernel_rfl)) (by decide) (fun K hK => ?_)
    refine gz_ Try.func56 #[.int .i64 ((rd_T30 l0_0 x3_1).f1), .int .i64 0, .int .i64 999] ?_
    with_reducible refine (spec_l01In.calls ((rd_T30 l0_0 x3_1).f1) 0 999 true _ A11.out).mono ?_
    rintro e w' ⟨rfl, ⟨nd, rfl⟩⟩
    refine ⟨_, rfl, ?_⟩
    refine hK.out _ _ ⟨(blk_cell BK124.out 0).trans rfl, (hc_ HB hw125_0), (hc_ HB hw125_1), (hc_ HB hw125_2), (hc_ HB hw127_0), (hc_ HB hw127_1), (hc_ HB hw127_2)⟩ (fun hHeld => ?_)
    clear hK K
    refine nz_ 30 ?_
    refine pz_ 16 31 ba3_17 HT_ ?_
    refine pz_ 17 32 ba3_18 HT_ ?_
    refine pz_ 18 33 ba3_19 HT_ ?_
    refine pz_ 19 34 ba3_20 HT_ ?_
    refine pz_ 20 35 ba3_21 HT_ ?_
    refine pz_ 21 36 ba3_22 HT_ ?_
    refine pu_ 22 37 ba3_23 HT_ ?_
    refine pu_ 23 38 ba3_40 HT_ ?_
    refine pu_ 24 39 ba3_41 HT_ ?_
    refine pu_ 25 40 ba3_42 HT_ ?_
    refine pu_ 26 41 ba3_43 HT_ ?_
    refine pu_ 27 42 ba3_44 HT_ ?_
    refine pu_ 28 43 ba3_45 HT_ ?_
    refine pu_ 29 44 ba3_46 HT_ ?_
    refine pu_ 30 45 ba3_47 HT_ ?_
    refine pu_ 31 46 ba3_32 HT_ ?_
    refine pu_ 32 47 ba3_33 HT_ ?_
    refine pu_ 33 48 ba3_34 HT_ ?_
    refine pu_ 34 49 ba3_35 HT_ ?_
    refine pu_ 35 50 ba3_36 HT_ ?_
    refine pu_ 36 51 ba3_37 HT_ ?_
    refine pz_ 37 52 ba3_38 HT_ ?_
    refine pz_ 38 53 ba3_39 HT_ ?_
    refine done_ (done_of HT_.out (by kernel_rfl)) ?_
    try go_wp2
    go_roundg k1
    case measure => have := HK1.out; omega
    case rel => exact ⟨(wrap64 (x3_1 + 1)), er_, H', ⟨by have := HK1.out; omega⟩, ⟨bx_ BK124⟩, ⟨bw112_⟩⟩
   rw [if_pos c13] at H
   have c13b0 : decide (0 < x3_1) = true := decide_eq_true c13
   clear c13
   obtain ⟨ji14, hji14⟩ : ∃ j_ : Int, (wrap64 (x3_1 - 1)) = j_ := ⟨_, rfl⟩
   first | rw [hji14] at H | simp only [hji14] at H
   (try rw [hji14] at A9)
   (try rw [hji14] at A11)
   have hji14w : (IntKind.i64.wrap (x3_1 - 1)) = ji14 := (i64_w _).trans hji14
   obtain ⟨c15b0, H⟩ := iq_ H
   obtain ⟨c16b0, H⟩ := iq_ H
   replace H := Option.bind_eq_some_iff.mp H
   obtain ⟨t131, A170, H⟩ := H
   have A17 := Aside0.mk A170
   clear A170
   have Hh_ := Aside0.mk H
   clear H
   have hcz19_0 := cz_ BK124 0 (.slice A0_0 l0_0.length c0_0)
   have hfz19_0 := fz_ BK124 0
   try go_wp2
   replace BK124 := ad_ BK124
   replace HB := Aside0.mk (below_drew1 HB.out)
   have p125 : 0 ≤ (x3_1 : Int) := oa_
   have q125 : x3_1 < (l0_0.length : Int) := oa_
   obtain ⟨ad125, e125, hx125_0, hx125_1, hx125_2⟩ := at_T30 HR0_0.out x3_1 p125 q125
   have hw125_2 := hx125_2
   have hw125_1 := hx125_1
   have hw125_0 := hx125_0
   cases e125
   replace hx125_0 := (HB.out.cell (World.block_lt_of_cell? w _ hx125_0)).trans hx125_0
   replace hx125_1 := (HB.out.cell (World.block_lt_of_cell? w _ hx125_1)).trans hx125_1
   replace hx125_2 := (HB.out.cell (World.block_lt_of_cell? w _ hx125_2)).trans hx125_2
   replace p125 := eq_true p125
   replace q125 := eq_true q125
   have p127 : 0 ≤ (x3_1 : Int) := oa_
   have q127 : x3_1 < (l0_0.length : Int) := oa_
   obtain ⟨ad127, e127, hx127_0, hx127_1, hx127_2⟩ := at_T30 HR0_0.out x3_1 p127 q127
   have hw127_2 := hx127_2
   have hw127_1 := hx127_1
   have hw127_0 := hx127_0
   obtain rfl : ad125 = ad127 := (by injection e127)
   replace hx127_0 := (HB.out.cell (World.block_lt_of_cell? w _ hx127_0)).trans hx127_0
   replace hx127_1 := (HB.out.cell (World.block_lt_of_cell? w _ hx127_1)).trans hx127_1
   replace hx127_2 := (HB.out.cell (World.block_lt_of_cell? w _ hx127_2)).trans hx127_2
   replace p127 := eq_true p127
   replace q127 := eq_true q127
   have p129 : 0 ≤ ((ji14) : Int) := oa_
   have q129 : (ji14) < (l0_0.length : Int) := oa_
   obtain ⟨ad129, e129, hx129_0, hx129_1, hx129_2⟩ := at_T30 HR0_0.out (ji14) p129 q129
   have hw129_2 := hx129_2
   have hw129_1 := hx129_1
   have hw129_0 := hx129_0
   obtain rfl : ad125 = ad129 := (by injection e129)
   replace hx129_0 := (HB.out.cell (World.block_lt_of_cell? w _ hx129_0)).trans hx129_0
   replace hx129_1 := (HB.out.cell (World.block_lt_of_cell? w _ hx129_1)).trans hx129_1
   replace hx129_2 := (HB.out.cell (World.block_lt_of_cell? w _ hx129_2)).trans hx129_2
   replace p129 := eq_true p129
   replace q129 := eq_true q129
   have p130 : 0 ≤ (x3_1 : Int) := oa_
   have q130 : x3_1 < (l0_0.length : Int) := oa_
   obtain ⟨ad130, e130, hx130_0, hx130_1, hx130_2⟩ := at_T30 HR0_0.out x3_1 p130 q130
   have hw130_2 := hx130_2
   have hw130_1 := hx130_1
   have hw130_0 := hx130_0
   obtain rfl : ad125 = ad130 := (by injection e130)
   replace hx130_0 := (HB.out.cell (World.block_lt_of_cell? w _ hx130_0)).trans hx130_0
   replace hx130_1 := (HB.out.cell (World.block_lt_of_cell? w _ hx130_1)).trans hx130_1
   replace hx130_2 := (HB.out.cell (World.block_lt_of_cell? w _ hx130_2)).trans hx130_2
   replace p130 := eq_true p130
   replace q130 := eq_true q130
   refine start_ (n := 39) (S := fun w' => w'.cell? ⟨gb124, 0, none⟩ = some (.slice (some ad125) l0_0.length c0_0) ∧ w'.cell? (ad125.add ((x3_1).toNat * 3)) = some (.int .i64 ((rd_T30 l0_0 x3_1).f0.f0)) ∧ w'.cell? ⟨(ad125.add ((x3_1).toNat * 3)).block, (ad125.add ((x3_1).toNat * 3)).off + 1, none⟩ = some (.int .i64 ((rd_T30 l0_0 x3_1).f0.f1)) ∧ w'.cell? ⟨(ad125.add ((x3_1).toNat * 3)).block, (ad125.add ((x3_1).toNat * 3)).off + 2, none⟩ = some (.int .i64 ((rd_T30 l0_0 x3_1).f1)) ∧ w'.cell? (ad125.add ((x3_1).toNat * 3)) = some (.int .i64 ((rd_T30 l0_0 x3_1).f0.f0)) ∧ w'.cell? ⟨(ad125.add ((x3_1).toNat * 3)).block, (ad125.add ((x3_1).toNat * 3)).off + 1, none⟩ = some (.int .i64 ((rd_T30 l0_0 x3_1).f0.f1)) ∧ w'.cell? ⟨(ad125.add ((x3_1).toNat * 3)).block, (ad125.add ((x3_1).toNat * 3)).off + 2, none⟩ = some (.int .i64 ((rd_T30 l0_0 x3_1).f1)) ∧ w'.cell? (ad125.add (((ji14)).toNat * 3)) = some (.int .i64 ((rd_T30 l0_0 (ji14)).f0.f0)) ∧ w'.cell? ⟨(ad125.add (((ji14)).toNat * 3)).block, (ad125.add (((ji14)).toNat * 3)).off + 1, none⟩ = some (.int .i64 ((rd_T30 l0_0 (ji14)).f0.f1)) ∧ w'.cell? ⟨(ad125.add (((ji14)).toNat * 3)).block, (ad125.add (((ji14)).toNat * 3)).off + 2, none⟩ = some (.int .i64 ((rd_T30 l0_0 (ji14)).f1)) ∧ w'.cell? (ad125.add ((x3_1).toNat * 3)) = some (.int .i64 ((rd_T30 l0_0 x3_1).f0.f0)) ∧ w'.cell? ⟨(ad125.add ((x3_1).toNat * 3)).block, (ad125.add ((x3_1).toNat * 3)).off + 1, none⟩ = some (.int .i64 ((rd_T30 l0_0 x3_1).f0.f1)) ∧ w'.cell? ⟨(ad125.add ((x3_1).toNat * 3)).block, (ad125.add ((x3_1).toNat * 3)).off + 2, none⟩ = some (.int .i64 ((rd_T30 l0_0 x3_1).f1))) (ds := []) ba3_0 (by kernel_rfl) rfl rfl ⟨(blk_cell BK124.out 0).trans rfl, (hc_ HB hw125_0), (hc_ HB hw125_1), (hc_ HB hw125_2), (hc_ HB hw127_0), (hc_ HB hw127_1), (hc_ HB hw127_2), (hc_ HB hw129_0), (hc_ HB hw129_1), (hc_ HB hw129_2), (hc_ HB hw130_0), (hc_ HB hw130_1), (hc_ HB hw130_2)⟩ (fun hHeld => ?_); refine with_tabW spec_TableOk.tab6 spec_TableOk.bits6 (fun HT_ HW_ => ?_)
   generalize wr.drew = w20 at BK124 HB hx125_0 hx125_1 hx125_2 hx127_0 hx127_1 hx127_2 hx129_0 hx129_1 hx129_2 hx130_0 hx130_1 hx130_2 hHeld ⊢
   refine pz_ 0 15 ba3_1 HT_ ?_
   refine pz_ 2 17 ba3_2 HT_ ?_
   refine pt_ 1 16 ba3_3 HT_ HW_ hHeld ?_
   refine pz_ 3 18 ba3_4 HT_ ?_
   refine pz_ 4 19 ba3_5 HT_ ?_
   refine pt_ 5 20 ba3_6 HT_ HW_ hHeld ?_
   refine one_ (i := 6) (N := some 21) ba3_7 rfl rfl (one_of HT_.out (by kernel_rfl)) (by decide) (fun K hK => ?_)
   refine gz_ Try.func55 #[.agg #[.int .i64 ((rd_T30 l0_0 x3_1).f0.f0), .int .i64 ((rd_T30 l0_0 x3_1).f0.f1)]] ?_
   with_reducible refine (spec_PrefixOk.calls ((rd_T30 l0_0 x3_1).f0.f0) ((rd_T30 l0_0 x3_1).f0.f1) true _ A9.out).mono ?_
   rintro e w21 ⟨rfl, hb⟩
   refine ⟨_, rfl, ?_⟩
   replace BK124 := ab_ BK124 hb
   replace HB := at_ HB hb
   (try clear hb)
   (try clear hb2)
   (try clear hk)
   (try clear hi)
   refine hK.out _ _ ⟨(blk_cell BK124.out 0).trans rfl, (hc_ HB hw125_0), (hc_ HB hw125_1), (hc_ HB hw125_2), (hc_ HB hw127_0), (hc_ HB hw127_1), (hc_ HB hw127_2), (hc_ HB hw129_0), (hc_ HB hw129_1), (hc_ HB hw129_2), (hc_ HB hw130_0), (hc_ HB hw130_1), (hc_ HB hw130_2)⟩ (fun hHeld => ?_)
   clear hK K
   refine nz_ 21 ?_
   refine pz_ 7 22 ba3_8 HT_ ?_
   refine pz_ 8 23 ba3_9 HT_ ?_
   refine pz_ 9 24 ba3_10 HT_ ?_
   refine pz_ 11 26 ba3_11 HT_ ?_
   refine pt_ 10 25 ba3_12 HT_ HW_ hHeld ?_
   refine pz_ 12 27 ba3_13 HT_ ?_
   refine pz_ 13 28 ba3_14 HT_ ?_
   refine pt_ 14 29 ba3_15 HT_ HW_ hHeld ?_
   refine one_ (i := 15) (N := some 30) ba3_16 rfl rfl (one_of HT_.out (by kernel_rfl)) (by decide) (fun K hK => ?_)
   refine gz_ Try.func56 #[.int .i64 ((rd_T30 l0_0 x3_1).f1), .int .i64 0, .int .i64 999] ?_
   with_reducible refine (spec_l01In.calls ((rd_T30 l0_0 x3_1).f1) 0 999 true _ A11.out).mono ?_
   rintro e w' ⟨rfl, ⟨nd, rfl⟩⟩
   refine ⟨_, rfl, ?_⟩
   refine hK.out _ _ ⟨(blk_cell BK124.out 0).trans rfl, (hc_ HB hw125_0), (hc_ HB hw125_1), (hc_ HB hw125_2), (hc_ HB hw127_0), (hc_ HB hw127_1), (hc_ HB hw127_2), (hc_ HB hw129_0), (hc_ HB hw129_1), (hc_ HB hw129_2), (hc_ HB hw130_0), (hc_ HB hw130_1), (hc_ HB hw130_2)⟩ (fun hHeld => ?_)
   clear hK K
   refine nz_ 30 ?_
   refine pz_ 16 31 ba3_17 HT_ ?_
   refine pz_ 17 32 ba3_18 HT_ ?_
   refine pz_ 18 33 ba3_19 HT_ ?_
   refine pz_ 19 34 ba3_20 HT_ ?_
   refine pz_ 20 35 ba3_21 HT_ ?_
   refine pz_ 21 36 ba3_22 HT_ ?_
   refine pz_ 22 37 ba3_23 HT_ ?_
   refine pz_ 24 39 ba3_24 HT_ ?_
   refine pz_ 25 40 ba3_25 HT_ ?_
   refine pz_ 29 44 ba3_26 HT_ ?_
   refine pz_ 31 46 ba3_27 HT_ ?_
   refine pt_ 23 38 ba3_28 HT_ HW_ hHeld ?_
   refine pz_ 26 41 ba3_29 HT_ ?_
   refine pz_ 27 42 ba3_30 HT_ ?_
   refine pt_ 28 43 ba3_31 HT_ HW_ hHeld ?_
   refine pt_ 30 45 ba3_32 HT_ HW_ hHeld ?_
   refine pz_ 32 47 ba3_33 HT_ ?_
   refine pz_ 33 48 ba3_34 HT_ ?_
   refine pt_ 34 49 ba3_35 HT_ HW_ hHeld ?_
   refine one_ (i := 35) (N := some 50) ba3_36 rfl rfl (one_of HT_.out (by kernel_rfl)) (by decide) (fun K hK => ?_)
   refine goes_ Try.func47 (by kernel_rfl) rfl #[.agg #[.int .i64 ((rd_T30 l0_0 (ji14)).f0.f0), .int .i64 ((rd_T30 l0_0 (ji14)).f0.f1)], .agg #[.int .i64 ((rd_T30 l0_0 x3_1).f0.f0), .int .i64 ((rd_T30 l0_0 x3_1).f0.f1)]] (by rfl) rfl rfl (by (try simp only [List.map_toArray, List.map_cons, List.map_nil]); first | done | (simp only [hji14]; rfl) | rfl | (simp only [List.length_drop, List.length_take]; rfl)) ?_
   with_reducible refine (spec_l02Ahead.calls ((rd_T30 l0_0 (ji14)).f0.f0) ((rd_T30 l0_0 (ji14)).f0.f1) ((rd_T30 l0_0 x3_1).f0.f0) ((rd_T30 l0_0 x3_1).f0.f1) t131 _ A17.out).mono ?_
   rintro e w22 ⟨rfl, hb⟩
   refine ⟨_, rfl, ?_⟩
   replace BK124 := ab_ BK124 hb
   replace HB := at_ HB hb
   (try clear hb)
   (try clear hb2)
   (try clear hk)
   (try clear hi)
   refine hK.out _ _ ⟨(blk_cell BK124.out 0).trans rfl, (hc_ HB hw125_0), (hc_ HB hw125_1), (hc_ HB hw125_2), (hc_ HB hw127_0), (hc_ HB hw127_1), (hc_ HB hw127_2), (hc_ HB hw129_0), (hc_ HB hw129_1), (hc_ HB hw129_2), (hc_ HB hw130_0), (hc_ HB hw130_1), (hc_ HB hw130_2)⟩ (fun hHeld => ?_)
   clear hK K
   refine nz_ 50 ?_
   have H := Hh_.out
   clear Hh_
   by_cases c18 : t131 = true
   rotate_left
   ·replace c18 := Bool.eq_false_iff.mpr c18
    subst c18
    rw [if_neg (show ¬ (false = true) by decide)] at H
    obtain rfl := Option.some.inj H
    refine pz_ 36 51 ba3_37 HT_ ?_
    refine pz_ 37 52 ba3_38 HT_ ?_
    refine pz_ 38 53 ba3_39 HT_ ?_
    refine done_ (done_of HT_.out (by kernel_rfl)) ?_
    try go_wp2
    go_ret
    exact ⟨by first | rfl | (simp [errW_none, errW_some] <;> rfl) | (simp only [← hji14]; first | rfl | (simp [errW_none, errW_some] <;> rfl)) | (simp [*, errW_none, errW_some] <;> rfl), bw112_⟩
   subst c18
   rw [if_pos rfl] at H
   have H' := Aside0.mk H
   clear H
   refine pz_ 36 51 ba3_37 HT_ ?_
   refine pz_ 37 52 ba3_38 HT_ ?_
   refine pz_ 38 53 ba3_39 HT_ ?_
   refine done_ (done_of HT_.out (by kernel_rfl)) ?_
   try go_wp2
   go_roundg k1
   case measure => have := HK1.out; omega
   case rel => exact ⟨(wrap64 (x3_1 + 1)), er_, H', ⟨by have := HK1.out; omega⟩, ⟨bx_ BK124⟩, ⟨bw112_⟩⟩

end Go.Proofs.Ytjepmdngbafonaa.QFnRoutes
