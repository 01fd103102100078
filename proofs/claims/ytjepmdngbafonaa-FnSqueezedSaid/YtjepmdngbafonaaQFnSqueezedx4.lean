/- Contracts of functions that the law reaches: what each call returns and what it leaves in memory. Made by this session over the print of the kit. -/
import Derived.Test.YtjepmdngbafonaaQFnSqueezedx0
import Derived.Test.YtjepmdngbafonaaQFnSqueezedx3
namespace Go.Proofs.Ytjepmdngbafonaa.QFnSqueezed
open Go.RowKit Go.Proofs.YtjepmdngbafonaaZ.PrintWords Go.Proofs.YtjepmdngbafonaaZ.PrintLast Go.Proofs.YtjepmdngbafonaaZ.PrintMore
attribute [local go_sem] max2_int min2_int max_two min_two max_three min_three max_four min_four   -- for this text's walks alone
set_option linter.unusedVariables false
set_option linter.unusedSimpArgs false
def ba4_0 := bs_ 20 0
def ba4_1 := bs_ 20 1
def ba4_2 := bs_ 20 3
def ba4_3 := bs_ 20 7
def ba4_4 := bs_ 20 15
def ba4_5 := bs_ 20 31
def ba4_6 := bs_ 20 63
def ba4_7 := bs_ 20 127
def ba4_8 := bs_ 20 255
def ba4_9 := bs_ 20 767
def ba4_10 := bs_ 20 1791
def ba4_11 := bs_ 20 18175
def ba4_12 := bs_ 20 18431
def ba4_13 := bs_ 20 20479
def ba4_14 := bs_ 20 24575
def ba4_15 := bs_ 20 32767
def ba4_16 := bs_ 20 65535
def ba4_17 := bs_ 20 131071
def ba4_18 := bs_ 20 262143
def ba4_19 := bs_ 20 524287
def ba4_20 := bs_ 20 1048575
def ba4_21 := bs_ 20 511
def ba4_22 := bs_ 20 1023
def ba4_23 := bs_ 20 2047
def ba4_24 := bs_ 20 4095
def ba4_25 := bs_ 20 8191
def ba4_26 := bs_ 20 16383

/-! ### impl_TableOk: function 48 -/
def impl_TableOk.l0 : Nat → List (S30) → Int → Int → List (S30) → Option (Bool)
 | 0, _, _, _, _ => none
 | k + 1, x6, x7, x8, x113000 => if x8 < x7 then (if 0 ≤ x8 then (if x8 < (x6.length : Int) then ((impl_isRoute.f ((rd_T30 x6 x8).f0.f0) ((rd_T30 x6 x8).f0.f1) ((rd_T30 x6 x8).f1)).bind fun t115 => (if t115 = true then (if x8 > 0 then (if 0 ≤ (wrap64 (x8 - 1)) then (if (wrap64 (x8 - 1)) < (x113000.length : Int) then ((impl_comparePrefixes.f ((rd_T30 x113000 (wrap64 (x8 - 1))).f0.f0) ((rd_T30 x113000 (wrap64 (x8 - 1))).f0.f1) ((rd_T30 x6 x8).f0.f0) ((rd_T30 x6 x8).f0.f1)).bind fun t117 => (if t117 ≥ 0 then (some false) else (impl_TableOk.l0 k x6 x7 (wrap64 (x8 + 1)) x113000))) else (none)) else (none)) else (impl_TableOk.l0 k x6 x7 (wrap64 (x8 + 1)) x113000)) else (some false))) else (none)) else (none)) else (some (decide ((x113000.length : Int) ≤ 120)))
def impl_TableOk.f (k : Nat) (l0_0 : List (S30)) : Option (Bool) := impl_TableOk.l0 k l0_0 (l0_0.length : Int) 0 l0_0
def impl_TableOk.T4 : Bool × List (List Nat × List Nat) := (true, [([], []), ([0], [0]), ([1], [1]), ([2, 1], [2]), ([3], [3]), ([4, 3], [3, 4]), ([5, 3, 3], [3, 5]), ([6], [6]), ([7, 6], [6, 7]), ([6], [6]), ([9, 6], [6, 9]), ([8, 10, 6], [6, 8, 10]), ([11, 6], [6, 11]), ([12, 6], [6, 12]), ([6], [6]), ([14, 6], [6, 14]), ([13, 15, 6, 6], [6, 13, 15]), ([16, 6], [6, 16]), ([6, 17, 3], [3, 6, 17]), ([3, 18], [3, 18])])
def impl_TableOk.B4 : List Nat := [0, 1, 3, 7, 15, 31, 63, 127, 255, 127, 639, 2047, 4095, 8191, 127, 16511, 65535, 131071, 262143, 524287]
theorem impl_TableOk.tab4 : rtab .any (opsOf Try.f48 4) = impl_TableOk.T4 := by kernel_rfl
theorem impl_TableOk.bits4 : waitsOk impl_TableOk.T4.2 impl_TableOk.B4 = true := by kernel_rfl
set_option maxHeartbeats 8000000 in
set_option maxRecDepth 100000 in
theorem impl_TableOk.calls (k : Nat) (A0_0 : Option Addr) (c0_0 : Nat) (l0_0 : List (S30)) (r : Bool) (w : World) (hr0_0 : Kd.C k30 w A0_0 l0_0.length l0_0) (hc0_0 : l0_0.length ≤ c0_0) (h : impl_TableOk.f k l0_0 = some r) :
  Calls Try.prog 48 #[.agg #[.slice A0_0 l0_0.length c0_0]] w fun e w' => e = .returned (.bool r) ∧ Below w.heap.size w w' := by
 have hu26 := Try.underlying26
 have hu30 := Try.underlying30
 have hu28 := Try.underlying28
 have HR0_0 := Aside0.mk hr0_0
 have HC0_0 := Aside0.mk hc0_0
 clear hr0_0 hc0_0
 have HB := Aside0.mk (Below.refl w.heap.size w)
 have H : (impl_TableOk.l0 k l0_0 (l0_0.length : Int) 0 l0_0) = some r := h
 clear h
 have H' := Aside0.mk H
 clear H
 go_enter Try.func48, Try.ntmps48
 go_wp2_with ((with_reducible refine gate_dst (N := 1) rfl ?_); refine be_ 1 #[.slice A0_0 l0_0.length c0_0] 26 ?_; intro gb112 hg w2 BK112 hb; have GW112 := ge_ HB hg; have GE112 := ge_ HB hg; replace HB := at_ HB hb; clear hb hg; have hcz3_0 := cz_ BK112 0 (.slice A0_0 l0_0.length c0_0); have hfz3_0 := fz_ BK112 0)
 go_loopg [8] k (fun kq v8 w' => ∃ (x8_1 : Int), v8 = .int .i64 x8_1 ∧ Aside0 (impl_TableOk.l0 kq l0_0 (l0_0.length : Int) x8_1 l0_0 = some r) ∧ Aside0 (kq ≤ k) ∧ Aside0 (w'.heap[gb112]? = some (.cells #[(.slice A0_0 l0_0.length c0_0)] 26 (0, 0))) ∧ Aside0 (Below w.heap.size w w'))
 case atStart => exact ⟨(0), er_, H', ⟨Nat.le_refl _⟩, ⟨bx_ BK112⟩, ⟨bw_⟩⟩
 case round =>
  clear H' hcz3_0 hfz3_0
  obtain ⟨x8_1, rfl, HA, HK1, BK112, HB⟩ := hrel
  cases gk with
  | zero => exact absurd HA.out (by simp [impl_TableOk.l0])
  | succ k1 =>
   have H := HA.out
   clear HA
   simp only [impl_TableOk.l0] at H
   by_cases c4 : x8_1 < (l0_0.length : Int)
   rotate_left
   ·rw [if_neg c4] at H
    have c4b0 : decide (x8_1 < (l0_0.length : Int)) = false := decide_eq_false c4
    clear c4
    obtain rfl := Option.some.inj H
    have hcz41_0 := cz_ BK112 0 (.slice A0_0 l0_0.length c0_0)
    have hfz41_0 := fz_ BK112 0
    go_wp2
    go_ret
    exact ⟨by first | rfl | (simp [errW_none, errW_some] <;> rfl) | (simp [*, errW_none, errW_some] <;> rfl), bw_⟩
   rw [if_pos c4] at H
   have c4b0 : decide (x8_1 < (l0_0.length : Int)) = true := decide_eq_true c4
   clear c4
   obtain ⟨c5b0, H⟩ := iq_ H
   obtain ⟨c6b0, H⟩ := iq_ H
   obtain ⟨t115, A7, H⟩ := ob_ H
   by_cases c8 : t115 = true
   rotate_left
   ·replace c8 := Bool.eq_false_iff.mpr c8
    subst c8
    rw [if_neg (show ¬ (false = true) by decide)] at H
    obtain rfl := Option.some.inj H
    have p113 : 0 ≤ (x8_1 : Int) := oa_
    have q113 : x8_1 < (l0_0.length : Int) := oa_
    obtain ⟨ad113, e113, hx113_0, hx113_1, hx113_2⟩ := at_T30 HR0_0.out x8_1 p113 q113
    cases e113
    replace hx113_0 := hc5_ HB hx113_0
    replace hx113_1 := hc5_ HB hx113_1
    replace hx113_2 := hc5_ HB hx113_2
    obtain ⟨p113, q113⟩ := et_ p113 q113
    try go_wp2_with ((with_reducible refine gate_dst (N := 4) rfl ?_); refine be_ 4 #[.int .i64 0, .int .i64 0, .int .i64 0] 30 ?_; intro gb114 hg w35 BK114 hb; have GW114 := ge_ HB hg; have GE114 := ge_ HB hg; have NB112_114 := nl_ BK112 hg; have NB114_112 := ng_ BK112 hg; replace HB := at_ HB hb; replace BK112 := ab_ BK112 hb; clear hb hg; have hnb36 := NB114_112.out; have hnc36 := NB112_114.out; have hcz37_0 := cz_ BK114 0 (.int .i64 0); have hcz37_1 := cz_ BK114 1 (.int .i64 0); have hcz37_2 := cz_ BK114 2 (.int .i64 0); have hfz37_0 := fz_ BK114 0; have hfz37_1 := fz_ BK114 1; have hfz37_2 := fz_ BK114 2)
    generalize hW_ : (((w35.setCell ⟨gb114, 0, none⟩ (.int .i64 ((rd_T30 l0_0 x8_1).f0.f0))).setCell ⟨gb114, 1, none⟩ (.int .i64 ((rd_T30 l0_0 x8_1).f0.f1))).setCell ⟨gb114, 2, none⟩ (.int .i64 ((rd_T30 l0_0 x8_1).f1))) = w38
    have n0_ : Aside0 (w38.heap[gb112]? = some (.cells #[.slice (some ad113) l0_0.length c0_0] 26 (0, 0))) := by subst hW_; exact ⟨bc_ BK112⟩
    have n1_ : Aside0 (w38.heap[gb114]? = some (.cells #[.int .i64 ((rd_T30 l0_0 x8_1).f0.f0), .int .i64 ((rd_T30 l0_0 x8_1).f0.f1), .int .i64 ((rd_T30 l0_0 x8_1).f1)] 30 (0, 0))) := by subst hW_; exact ⟨by refine bd_ ?_; refine blk_put (cs := #[.int .i64 ((rd_T30 l0_0 x8_1).f0.f0), .int .i64 ((rd_T30 l0_0 x8_1).f0.f1), .int .i64 0]) ?_ 2 _ rfl; refine bd_ ?_; refine blk_put (cs := #[.int .i64 ((rd_T30 l0_0 x8_1).f0.f0), .int .i64 0, .int .i64 0]) ?_ 1 _ rfl; refine bd_ ?_; refine blk_put (cs := #[.int .i64 0, .int .i64 0, .int .i64 0]) ?_ 0 _ rfl; refine bd_ ?_; exact BK114.out⟩
    have n2_ : Aside0 (Below w.heap.size w w38) := by subst hW_; exact ⟨bw_⟩
    clear hW_ BK112 BK114 HB
    have BK112 := n0_
    have BK114 := n1_
    have HB := n2_
    clear n0_ n1_ n2_
    replace BK112 := ad_ BK112
    replace BK114 := ad_ BK114
    replace HB := Aside0.mk (below_drew1 HB.out)
    refine start_ (n := 20) (S := fun w' => w'.cell? ⟨gb114, 0, none⟩ = some (.int .i64 ((rd_T30 l0_0 x8_1).f0.f0)) ∧ w'.cell? ⟨gb114, 1, none⟩ = some (.int .i64 ((rd_T30 l0_0 x8_1).f0.f1)) ∧ w'.cell? ⟨gb114, 2, none⟩ = some (.int .i64 ((rd_T30 l0_0 x8_1).f1))) (ds := []) ba4_0 (by kernel_rfl) rfl rfl ⟨bq5_ BK114 0, bq5_ BK114 1, bq5_ BK114 2⟩ (fun hHeld => ?_); refine with_tabW impl_TableOk.tab4 impl_TableOk.bits4 (fun HT_ HW_ => ?_)
    generalize w38.drew = w39 at BK112 BK114 HB hHeld ⊢
    refine pt_ 0 13 ba4_1 HT_ HW_ hHeld ?_
    refine on_ 1 (some 14) ba4_2 HT_ (fun K hK => ?_)
    refine gz_ Try.func49 #[.agg #[.int .i64 ((rd_T30 l0_0 x8_1).f0.f0), .int .i64 ((rd_T30 l0_0 x8_1).f0.f1), .int .i64 ((rd_T30 l0_0 x8_1).f1)]] ?_
    with_reducible refine (impl_isRoute.calls ((rd_T30 l0_0 x8_1).f0.f0) ((rd_T30 l0_0 x8_1).f0.f1) ((rd_T30 l0_0 x8_1).f1) false _ A7.out).mono ?_
    rintro e w40 ⟨rfl, hb⟩
    refine ⟨_, rfl, ?_⟩
    replace BK112 := ab_ BK112 hb
    replace BK114 := ab_ BK114 hb
    replace HB := at_ HB hb
    clear hb
    refine hK.out _ _ ⟨bq5_ BK114 0, bq5_ BK114 1, bq5_ BK114 2⟩ (fun hHeld => ?_)
    clear hK K
    refine nz_ 14 ?_
    refine pz_ 2 15 ba4_3 HT_ ?_
    refine pz_ 3 16 ba4_4 HT_ ?_
    refine pu_ 4 17 ba4_5 HT_ ?_
    refine pu_ 5 18 ba4_6 HT_ ?_
    refine pu_ 6 19 ba4_7 HT_ ?_
    refine pu_ 7 20 ba4_8 HT_ ?_
    refine pu_ 8 21 ba4_21 HT_ ?_
    refine pu_ 9 22 ba4_22 HT_ ?_
    refine pu_ 10 23 ba4_23 HT_ ?_
    refine pu_ 11 24 ba4_24 HT_ ?_
    refine pu_ 12 25 ba4_25 HT_ ?_
    refine pu_ 13 26 ba4_26 HT_ ?_
    refine pu_ 14 27 ba4_15 HT_ ?_
    refine pu_ 15 28 ba4_16 HT_ ?_
    refine pu_ 16 29 ba4_17 HT_ ?_
    refine pu_ 17 30 ba4_18 HT_ ?_
    refine pu_ 18 31 ba4_19 HT_ ?_
    refine pz_ 19 32 ba4_20 HT_ ?_
    refine done_ (done_of HT_.out (by kernel_rfl)) ?_
    go_wp2
    go_ret
    exact ⟨by first | rfl | (simp [errW_none, errW_some] <;> rfl) | (simp [*, errW_none, errW_some] <;> rfl), bw_⟩
   subst c8
   rw [if_pos rfl] at H
   by_cases c9 : x8_1 > 0
   rotate_left
   ·rw [if_neg c9] at H
    have c9b0 : decide (0 < x8_1) = false := decide_eq_false c9
    clear c9
    have H' := Aside0.mk H
    clear H
    have p113 : 0 ≤ (x8_1 : Int) := oa_
    have q113 : x8_1 < (l0_0.length : Int) := oa_
    obtain ⟨ad113, e113, hx113_0, hx113_1, hx113_2⟩ := at_T30 HR0_0.out x8_1 p113 q113
    cases e113
    replace hx113_0 := hc5_ HB hx113_0
    replace hx113_1 := hc5_ HB hx113_1
    replace hx113_2 := hc5_ HB hx113_2
    obtain ⟨p113, q113⟩ := et_ p113 q113
    try go_wp2_with ((with_reducible refine gate_dst (N := 4) rfl ?_); refine be_ 4 #[.int .i64 0, .int .i64 0, .int .i64 0] 30 ?_; intro gb114 hg w29 BK114 hb; have GW114 := ge_ HB hg; have GE114 := ge_ HB hg; have NB112_114 := nl_ BK112 hg; have NB114_112 := ng_ BK112 hg; replace HB := at_ HB hb; replace BK112 := ab_ BK112 hb; clear hb hg; have hnb30 := NB114_112.out; have hnc30 := NB112_114.out; have hcz31_0 := cz_ BK114 0 (.int .i64 0); have hcz31_1 := cz_ BK114 1 (.int .i64 0); have hcz31_2 := cz_ BK114 2 (.int .i64 0); have hfz31_0 := fz_ BK114 0; have hfz31_1 := fz_ BK114 1; have hfz31_2 := fz_ BK114 2)
    generalize hW_ : (((w29.setCell ⟨gb114, 0, none⟩ (.int .i64 ((rd_T30 l0_0 x8_1).f0.f0))).setCell ⟨gb114, 1, none⟩ (.int .i64 ((rd_T30 l0_0 x8_1).f0.f1))).setCell ⟨gb114, 2, none⟩ (.int .i64 ((rd_T30 l0_0 x8_1).f1))) = w32
    have n0_ : Aside0 (w32.heap[gb112]? = some (.cells #[.slice (some ad113) l0_0.length c0_0] 26 (0, 0))) := by subst hW_; exact ⟨bc_ BK112⟩
    have n1_ : Aside0 (w32.heap[gb114]? = some (.cells #[.int .i64 ((rd_T30 l0_0 x8_1).f0.f0), .int .i64 ((rd_T30 l0_0 x8_1).f0.f1), .int .i64 ((rd_T30 l0_0 x8_1).f1)] 30 (0, 0))) := by subst hW_; exact ⟨by refine bd_ ?_; refine blk_put (cs := #[.int .i64 ((rd_T30 l0_0 x8_1).f0.f0), .int .i64 ((rd_T30 l0_0 x8_1).f0.f1), .int .i64 0]) ?_ 2 _ rfl; refine bd_ ?_; refine blk_put (cs := #[.int .i64 ((rd_T30 l0_0 x8_1).f0.f0), .int .i64 0, .int .i64 0]) ?_ 1 _ rfl; refine bd_ ?_; refine blk_put (cs := #[.int .i64 0, .int .i64 0, .int .i64 0]) ?_ 0 _ rfl; refine bd_ ?_; exact BK114.out⟩
    have n2_ : Aside0 (Below w.heap.size w w32) := by subst hW_; exact ⟨bw_⟩
    clear hW_ BK112 BK114 HB
    have BK112 := n0_
    have BK114 := n1_
    have HB := n2_
    clear n0_ n1_ n2_
    replace BK112 := ad_ BK112
    replace BK114 := ad_ BK114
    replace HB := Aside0.mk (below_drew1 HB.out)
    refine start_ (n := 20) (S := fun w' => w'.cell? ⟨gb114, 0, none⟩ = some (.int .i64 ((rd_T30 l0_0 x8_1).f0.f0)) ∧ w'.cell? ⟨gb114, 1, none⟩ = some (.int .i64 ((rd_T30 l0_0 x8_1).f0.f1)) ∧ w'.cell? ⟨gb114, 2, none⟩ = some (.int .i64 ((rd_T30 l0_0 x8_1).f1))) (ds := []) ba4_0 (by kernel_rfl) rfl rfl ⟨bq5_ BK114 0, bq5_ BK114 1, bq5_ BK114 2⟩ (fun hHeld => ?_); refine with_tabW impl_TableOk.tab4 impl_TableOk.bits4 (fun HT_ HW_ => ?_)
    generalize w32.drew = w33 at BK112 BK114 HB hHeld ⊢
    refine pt_ 0 13 ba4_1 HT_ HW_ hHeld ?_
    refine on_ 1 (some 14) ba4_2 HT_ (fun K hK => ?_)
    refine gz_ Try.func49 #[.agg #[.int .i64 ((rd_T30 l0_0 x8_1).f0.f0), .int .i64 ((rd_T30 l0_0 x8_1).f0.f1), .int .i64 ((rd_T30 l0_0 x8_1).f1)]] ?_
    with_reducible refine (impl_isRoute.calls ((rd_T30 l0_0 x8_1).f0.f0) ((rd_T30 l0_0 x8_1).f0.f1) ((rd_T30 l0_0 x8_1).f1) true _ A7.out).mono ?_
    rintro e w34 ⟨rfl, hb⟩
    refine ⟨_, rfl, ?_⟩
    replace BK112 := ab_ BK112 hb
    replace BK114 := ab_ BK114 hb
    replace HB := at_ HB hb
    clear hb
    refine hK.out _ _ ⟨bq5_ BK114 0, bq5_ BK114 1, bq5_ BK114 2⟩ (fun hHeld => ?_)
    clear hK K
    refine nz_ 14 ?_
    refine pz_ 2 15 ba4_3 HT_ ?_
    refine pz_ 3 16 ba4_4 HT_ ?_
    refine pz_ 4 17 ba4_5 HT_ ?_
    refine pz_ 5 18 ba4_6 HT_ ?_
    refine pz_ 6 19 ba4_7 HT_ ?_
    refine pu_ 7 20 ba4_8 HT_ ?_
    refine pu_ 8 21 ba4_21 HT_ ?_
    refine pu_ 9 22 ba4_22 HT_ ?_
    refine pu_ 10 23 ba4_23 HT_ ?_
    refine pu_ 11 24 ba4_24 HT_ ?_
    refine pu_ 12 25 ba4_25 HT_ ?_
    refine pu_ 13 26 ba4_26 HT_ ?_
    refine pu_ 14 27 ba4_15 HT_ ?_
    refine pu_ 15 28 ba4_16 HT_ ?_
    refine pu_ 16 29 ba4_17 HT_ ?_
    refine pu_ 17 30 ba4_18 HT_ ?_
    refine pz_ 18 31 ba4_19 HT_ ?_
    refine pz_ 19 32 ba4_20 HT_ ?_
    refine done_ (done_of HT_.out (by kernel_rfl)) ?_
    go_wp2
    go_roundg k1
    case measure => have := HK1.out; omega
    case rel => exact ⟨(wrap64 (x8_1 + 1)), er_, H', ⟨by have := HK1.out; omega⟩, ⟨bx_ BK112⟩, ⟨bw_⟩⟩
   rw [if_pos c9] at H
   have c9b0 : decide (0 < x8_1) = true := decide_eq_true c9
   clear c9
   obtain ⟨ji10, hji10⟩ : ∃ j_ : Int, (wrap64 (x8_1 - 1)) = j_ := ⟨_, rfl⟩
   first | rw [hji10] at H | simp only [hji10] at H
   (try rw [hji10] at A7)
   have hji10w : (IntKind.i64.wrap (x8_1 - 1)) = ji10 := (i64_w _).trans hji10
   obtain ⟨c11b0, H⟩ := iq_ H
   obtain ⟨c12b0, H⟩ := iq_ H
   obtain ⟨t117, A13, H⟩ := ob_ H
   by_cases c14 : t117 ≥ 0
   ·rw [if_pos c14] at H
    have c14b0 : decide (0 ≤ t117) = true := decide_eq_true c14
    clear c14
    obtain rfl := Option.some.inj H
    have p113 : 0 ≤ (x8_1 : Int) := oa_
    have q113 : x8_1 < (l0_0.length : Int) := oa_
    obtain ⟨ad113, e113, hx113_0, hx113_1, hx113_2⟩ := at_T30 HR0_0.out x8_1 p113 q113
    cases e113
    replace hx113_0 := hc5_ HB hx113_0
    replace hx113_1 := hc5_ HB hx113_1
    replace hx113_2 := hc5_ HB hx113_2
    obtain ⟨p113, q113⟩ := et_ p113 q113
    try go_wp2_with ((with_reducible refine gate_dst (N := 4) rfl ?_); refine be_ 4 #[.int .i64 0, .int .i64 0, .int .i64 0] 30 ?_; intro gb114 hg w15 BK114 hb; have GW114 := ge_ HB hg; have GE114 := ge_ HB hg; have NB112_114 := nl_ BK112 hg; have NB114_112 := ng_ BK112 hg; replace HB := at_ HB hb; replace BK112 := ab_ BK112 hb; clear hb hg; have hnb16 := NB114_112.out; have hnc16 := NB112_114.out; have hcz17_0 := cz_ BK114 0 (.int .i64 0); have hcz17_1 := cz_ BK114 1 (.int .i64 0); have hcz17_2 := cz_ BK114 2 (.int .i64 0); have hfz17_0 := fz_ BK114 0; have hfz17_1 := fz_ BK114 1; have hfz17_2 := fz_ BK114 2)
    generalize hW_ : (((w15.setCell ⟨gb114, 0, none⟩ (.int .i64 ((rd_T30 l0_0 x8_1).f0.f0))).setCell ⟨gb114, 1, none⟩ (.int .i64 ((rd_T30 l0_0 x8_1).f0.f1))).setCell ⟨gb114, 2, none⟩ (.int .i64 ((rd_T30 l0_0 x8_1).f1))) = w18
    have n0_ : Aside0 (w18.heap[gb112]? = some (.cells #[.slice (some ad113) l0_0.length c0_0] 26 (0, 0))) := by subst hW_; exact ⟨bc_ BK112⟩
    have n1_ : Aside0 (w18.heap[gb114]? = some (.cells #[.int .i64 ((rd_T30 l0_0 x8_1).f0.f0), .int .i64 ((rd_T30 l0_0 x8_1).f0.f1), .int .i64 ((rd_T30 l0_0 x8_1).f1)] 30 (0, 0))) := by subst hW_; exact ⟨by refine bd_ ?_; refine blk_put (cs := #[.int .i64 ((rd_T30 l0_0 x8_1).f0.f0), .int .i64 ((rd_T30 l0_0 x8_1).f0.f1), .int .i64 0]) ?_ 2 _ rfl; refine bd_ ?_; refine blk_put (cs := #[.int .i64 ((rd_T30 l0_0 x8_1).f0.f0), .int .i64 0, .int .i64 0]) ?_ 1 _ rfl; refine bd_ ?_; refine blk_put (cs := #[.int .i64 0, .int .i64 0, .int .i64 0]) ?_ 0 _ rfl; refine bd_ ?_; exact BK114.out⟩
    have n2_ : Aside0 (Below w.heap.size w w18) := by subst hW_; exact ⟨bw_⟩
    clear hW_ BK112 BK114 HB
    have BK112 := n0_
    have BK114 := n1_
    have HB := n2_
    clear n0_ n1_ n2_
    replace BK112 := ad_ BK112
    replace BK114 := ad_ BK114
    replace HB := Aside0.mk (below_drew1 HB.out)
    have p116 : 0 ≤ ((ji10) : Int) := oa_
    have q116 : (ji10) < (l0_0.length : Int) := oa_
    obtain ⟨ad116, e116, hx116_0, hx116_1, hx116_2⟩ := at_T30 HR0_0.out (ji10) p116 q116
    have hw116_2 := hx116_2
    have hw116_1 := hx116_1
    have hw116_0 := hx116_0
    obtain rfl : ad113 = ad116 := (by injection e116)
    replace hx116_0 := hc5_ HB hx116_0
    replace hx116_1 := hc5_ HB hx116_1
    replace hx116_2 := hc5_ HB hx116_2
    obtain ⟨p116, q116⟩ := et_ p116 q116
    refine start_ (n := 20) (S := fun w' => w'.cell? ⟨gb114, 0, none⟩ = some (.int .i64 ((rd_T30 l0_0 x8_1).f0.f0)) ∧ w'.cell? ⟨gb114, 1, none⟩ = some (.int .i64 ((rd_T30 l0_0 x8_1).f0.f1)) ∧ w'.cell? ⟨gb114, 2, none⟩ = some (.int .i64 ((rd_T30 l0_0 x8_1).f1)) ∧ w'.cell? ⟨gb112, 0, none⟩ = some (.slice (some ad113) l0_0.length c0_0) ∧ w'.cell? (ad113.add (((ji10)).toNat * 3)) = some (.int .i64 ((rd_T30 l0_0 (ji10)).f0.f0)) ∧ w'.cell? ⟨(ad113.add (((ji10)).toNat * 3)).block, (ad113.add (((ji10)).toNat * 3)).off + 1, none⟩ = some (.int .i64 ((rd_T30 l0_0 (ji10)).f0.f1)) ∧ w'.cell? ⟨(ad113.add (((ji10)).toNat * 3)).block, (ad113.add (((ji10)).toNat * 3)).off + 2, none⟩ = some (.int .i64 ((rd_T30 l0_0 (ji10)).f1))) (ds := []) ba4_0 (by kernel_rfl) rfl rfl ⟨bq5_ BK114 0, bq5_ BK114 1, bq5_ BK114 2, bq5_ BK112 0, (hc_ HB hw116_0), (hc_ HB hw116_1), (hc_ HB hw116_2)⟩ (fun hHeld => ?_); refine with_tabW impl_TableOk.tab4 impl_TableOk.bits4 (fun HT_ HW_ => ?_)
    generalize w18.drew = w19 at BK112 BK114 HB hx116_0 hx116_1 hx116_2 hHeld ⊢
    refine pt_ 0 13 ba4_1 HT_ HW_ hHeld ?_
    refine on_ 1 (some 14) ba4_2 HT_ (fun K hK => ?_)
    refine gz_ Try.func49 #[.agg #[.int .i64 ((rd_T30 l0_0 x8_1).f0.f0), .int .i64 ((rd_T30 l0_0 x8_1).f0.f1), .int .i64 ((rd_T30 l0_0 x8_1).f1)]] ?_
    with_reducible refine (impl_isRoute.calls ((rd_T30 l0_0 x8_1).f0.f0) ((rd_T30 l0_0 x8_1).f0.f1) ((rd_T30 l0_0 x8_1).f1) true _ A7.out).mono ?_
    rintro e w20 ⟨rfl, hb⟩
    refine ⟨_, rfl, ?_⟩
    replace BK112 := ab_ BK112 hb
    replace BK114 := ab_ BK114 hb
    replace HB := at_ HB hb
    clear hb
    refine hK.out _ _ ⟨bq5_ BK114 0, bq5_ BK114 1, bq5_ BK114 2, bq5_ BK112 0, (hc_ HB hw116_0), (hc_ HB hw116_1), (hc_ HB hw116_2)⟩ (fun hHeld => ?_)
    clear hK K
    refine nz_ 14 ?_
    refine pz_ 2 15 ba4_3 HT_ ?_
    refine pz_ 3 16 ba4_4 HT_ ?_
    refine pz_ 4 17 ba4_5 HT_ ?_
    refine pz_ 5 18 ba4_6 HT_ ?_
    refine pz_ 6 19 ba4_7 HT_ ?_
    refine pz_ 7 20 ba4_8 HT_ ?_
    refine pz_ 9 22 ba4_9 HT_ ?_
    refine pz_ 10 23 ba4_10 HT_ ?_
    refine pz_ 14 27 ba4_11 HT_ ?_
    refine pt_ 8 21 ba4_12 HT_ HW_ hHeld ?_
    refine pz_ 11 24 ba4_13 HT_ ?_
    refine pz_ 12 25 ba4_14 HT_ ?_
    refine pt_ 13 26 ba4_15 HT_ HW_ hHeld ?_
    refine pt_ 15 28 ba4_16 HT_ HW_ hHeld ?_
    refine on_ 16 (some 29) ba4_17 HT_ (fun K hK => ?_)
    refine goes_ Try.func77 (by kernel_rfl) rfl #[.agg #[.int .i64 ((rd_T30 l0_0 (ji10)).f0.f0), .int .i64 ((rd_T30 l0_0 (ji10)).f0.f1)], .agg #[.int .i64 ((rd_T30 l0_0 x8_1).f0.f0), .int .i64 ((rd_T30 l0_0 x8_1).f0.f1)]] (by rfl) rfl rfl (by (try simp only [List.map_toArray, List.map_cons, List.map_nil]); first | done | (simp only [hji10]; rfl) | rfl | (simp only [List.length_drop, List.length_take]; rfl)) ?_
    with_reducible refine (impl_comparePrefixes.calls ((rd_T30 l0_0 (ji10)).f0.f0) ((rd_T30 l0_0 (ji10)).f0.f1) ((rd_T30 l0_0 x8_1).f0.f0) ((rd_T30 l0_0 x8_1).f0.f1) t117 _ A13.out).mono ?_
    rintro e w21 ⟨rfl, hb⟩
    refine ⟨_, rfl, ?_⟩
    replace BK112 := ab_ BK112 hb
    replace BK114 := ab_ BK114 hb
    replace HB := at_ HB hb
    clear hb
    refine hK.out _ _ ⟨bq5_ BK114 0, bq5_ BK114 1, bq5_ BK114 2, bq5_ BK112 0, (hc_ HB hw116_0), (hc_ HB hw116_1), (hc_ HB hw116_2)⟩ (fun hHeld => ?_)
    clear hK K
    refine nz_ 29 ?_
    refine pz_ 17 30 ba4_18 HT_ ?_
    refine pz_ 18 31 ba4_19 HT_ ?_
    refine pz_ 19 32 ba4_20 HT_ ?_
    refine done_ (done_of HT_.out (by kernel_rfl)) ?_
    go_wp2
    go_ret
    exact ⟨by first | rfl | (simp [errW_none, errW_some] <;> rfl) | (simp only [← hji10]; first | rfl | (simp [errW_none, errW_some] <;> rfl)) | (simp [*, errW_none, errW_some] <;> rfl), bw_⟩
   rw [if_neg c14] at H
   have c14b0 : decide (0 ≤ t117) = false := decide_eq_false c14
   clear c14
   have H' := Aside0.mk H
   clear H
   have p113 : 0 ≤ (x8_1 : Int) := oa_
   have q113 : x8_1 < (l0_0.length : Int) := oa_
   obtain ⟨ad113, e113, hx113_0, hx113_1, hx113_2⟩ := at_T30 HR0_0.out x8_1 p113 q113
   cases e113
   replace hx113_0 := hc5_ HB hx113_0
   replace hx113_1 := hc5_ HB hx113_1
   replace hx113_2 := hc5_ HB hx113_2
   obtain ⟨p113, q113⟩ := et_ p113 q113
   try go_wp2_with ((with_reducible refine gate_dst (N := 4) rfl ?_); refine be_ 4 #[.int .i64 0, .int .i64 0, .int .i64 0] 30 ?_; intro gb114 hg w22 BK114 hb; have GW114 := ge_ HB hg; have GE114 := ge_ HB hg; have NB112_114 := nl_ BK112 hg; have NB114_112 := ng_ BK112 hg; replace HB := at_ HB hb; replace BK112 := ab_ BK112 hb; clear hb hg; have hnb23 := NB114_112.out; have hnc23 := NB112_114.out; have hcz24_0 := cz_ BK114 0 (.int .i64 0); have hcz24_1 := cz_ BK114 1 (.int .i64 0); have hcz24_2 := cz_ BK114 2 (.int .i64 0); have hfz24_0 := fz_ BK114 0; have hfz24_1 := fz_ BK114 1; have hfz24_2 := fz_ BK114 2)
   generalize hW_ : (((w22.setCell ⟨gb114, 0, none⟩ (.int .i64 ((rd_T30 l0_0 x8_1).f0.f0))).setCell ⟨gb114, 1, none⟩ (.int .i64 ((rd_T30 l0_0 x8_1).f0.f1))).setCell ⟨gb114, 2, none⟩ (.int .i64 ((rd_T30 l0_0 x8_1).f1))) = w25
   have n0_ : Aside0 (w25.heap[gb112]? = some (.cells #[.slice (some ad113) l0_0.length c0_0] 26 (0, 0))) := by subst hW_; exact ⟨bc_ BK112⟩
   have n1_ : Aside0 (w25.heap[gb114]? = some (.cells #[.int .i64 ((rd_T30 l0_0 x8_1).f0.f0), .int .i64 ((rd_T30 l0_0 x8_1).f0.f1), .int .i64 ((rd_T30 l0_0 x8_1).f1)] 30 (0, 0))) := by subst hW_; exact ⟨by refine bd_ ?_; refine blk_put (cs := #[.int .i64 ((rd_T30 l0_0 x8_1).f0.f0), .int .i64 ((rd_T30 l0_0 x8_1).f0.f1), .int .i64 0]) ?_ 2 _ rfl; refine bd_ ?_; refine blk_put (cs := #[.int .i64 ((rd_T30 l0_0 x8_1).f0.f0), .int .i64 0, .int .i64 0]) ?_ 1 _ rfl; refine bd_ ?_; refine blk_put (cs := #[.int .i64 0, .int .i64 0, .int .i64 0]) ?_ 0 _ rfl; refine bd_ ?_; exact BK114.out⟩
   have n2_ : Aside0 (Below w.heap.size w w25) := by subst hW_; exact ⟨bw_⟩
   clear hW_ BK112 BK114 HB
   have BK112 := n0_
   have BK114 := n1_
   have HB := n2_
   clear n0_ n1_ n2_
   replace BK112 := ad_ BK112
   replace BK114 := ad_ BK114
   replace HB := Aside0.mk (below_drew1 HB.out)
   have p116 : 0 ≤ ((ji10) : Int) := oa_
   have q116 : (ji10) < (l0_0.length : Int) := oa_
   obtain ⟨ad116, e116, hx116_0, hx116_1, hx116_2⟩ := at_T30 HR0_0.out (ji10) p116 q116
   have hw116_2 := hx116_2
   have hw116_1 := hx116_1
   have hw116_0 := hx116_0
   obtain rfl : ad113 = ad116 := (by injection e116)
   replace hx116_0 := hc5_ HB hx116_0
   replace hx116_1 := hc5_ HB hx116_1
   replace hx116_2 := hc5_ HB hx116_2
   obtain ⟨p116, q116⟩ := et_ p116 q116
   refine start_ (n := 20) (S := fun w' => w'.cell? ⟨gb114, 0, none⟩ = some (.int .i64 ((rd_T30 l0_0 x8_1).f0.f0)) ∧ w'.cell? ⟨gb114, 1, none⟩ = some (.int .i64 ((rd_T30 l0_0 x8_1).f0.f1)) ∧ w'.cell? ⟨gb114, 2, none⟩ = some (.int .i64 ((rd_T30 l0_0 x8_1).f1)) ∧ w'.cell? ⟨gb112, 0, none⟩ = some (.slice (some ad113) l0_0.length c0_0) ∧ w'.cell? (ad113.add (((ji10)).toNat * 3)) = some (.int .i64 ((rd_T30 l0_0 (ji10)).f0.f0)) ∧ w'.cell? ⟨(ad113.add (((ji10)).toNat * 3)).block, (ad113.add (((ji10)).toNat * 3)).off + 1, none⟩ = some (.int .i64 ((rd_T30 l0_0 (ji10)).f0.f1)) ∧ w'.cell? ⟨(ad113.add (((ji10)).toNat * 3)).block, (ad113.add (((ji10)).toNat * 3)).off + 2, none⟩ = some (.int .i64 ((rd_T30 l0_0 (ji10)).f1))) (ds := []) ba4_0 (by kernel_rfl) rfl rfl ⟨bq5_ BK114 0, bq5_ BK114 1, bq5_ BK114 2, bq5_ BK112 0, (hc_ HB hw116_0), (hc_ HB hw116_1), (hc_ HB hw116_2)⟩ (fun hHeld => ?_); refine with_tabW impl_TableOk.tab4 impl_TableOk.bits4 (fun HT_ HW_ => ?_)
   generalize w25.drew = w26 at BK112 BK114 HB hx116_0 hx116_1 hx116_2 hHeld ⊢
   refine pt_ 0 13 ba4_1 HT_ HW_ hHeld ?_
   refine on_ 1 (some 14) ba4_2 HT_ (fun K hK => ?_)
   refine gz_ Try.func49 #[.agg #[.int .i64 ((rd_T30 l0_0 x8_1).f0.f0), .int .i64 ((rd_T30 l0_0 x8_1).f0.f1), .int .i64 ((rd_T30 l0_0 x8_1).f1)]] ?_
   with_reducible refine (impl_isRoute.calls ((rd_T30 l0_0 x8_1).f0.f0) ((rd_T30 l0_0 x8_1).f0.f1) ((rd_T30 l0_0 x8_1).f1) true _ A7.out).mono ?_
   rintro e w27 ⟨rfl, hb⟩
   refine ⟨_, rfl, ?_⟩
   replace BK112 := ab_ BK112 hb
   replace BK114 := ab_ BK114 hb
   replace HB := at_ HB hb
   clear hb
   refine hK.out _ _ ⟨bq5_ BK114 0, bq5_ BK114 1, bq5_ BK114 2, bq5_ BK112 0, (hc_ HB hw116_0), (hc_ HB hw116_1), (hc_ HB hw116_2)⟩ (fun hHeld => ?_)
   clear hK K
   refine nz_ 14 ?_
   refine pz_ 2 15 ba4_3 HT_ ?_
   refine pz_ 3 16 ba4_4 HT_ ?_
   refine pz_ 4 17 ba4_5 HT_ ?_
   refine pz_ 5 18 ba4_6 HT_ ?_
   refine pz_ 6 19 ba4_7 HT_ ?_
   refine pz_ 7 20 ba4_8 HT_ ?_
   refine pz_ 9 22 ba4_9 HT_ ?_
   refine pz_ 10 23 ba4_10 HT_ ?_
   refine pz_ 14 27 ba4_11 HT_ ?_
   refine pt_ 8 21 ba4_12 HT_ HW_ hHeld ?_
   refine pz_ 11 24 ba4_13 HT_ ?_
   refine pz_ 12 25 ba4_14 HT_ ?_
   refine pt_ 13 26 ba4_15 HT_ HW_ hHeld ?_
   refine pt_ 15 28 ba4_16 HT_ HW_ hHeld ?_
   refine on_ 16 (some 29) ba4_17 HT_ (fun K hK => ?_)
   refine goes_ Try.func77 (by kernel_rfl) rfl #[.agg #[.int .i64 ((rd_T30 l0_0 (ji10)).f0.f0), .int .i64 ((rd_T30 l0_0 (ji10)).f0.f1)], .agg #[.int .i64 ((rd_T30 l0_0 x8_1).f0.f0), .int .i64 ((rd_T30 l0_0 x8_1).f0.f1)]] (by rfl) rfl rfl (by (try simp only [List.map_toArray, List.map_cons, List.map_nil]); first | done | (simp only [hji10]; rfl) | rfl | (simp only [List.length_drop, List.length_take]; rfl)) ?_
   with_reducible refine (impl_comparePrefixes.calls ((rd_T30 l0_0 (ji10)).f0.f0) ((rd_T30 l0_0 (ji10)).f0.f1) ((rd_T30 l0_0 x8_1).f0.f0) ((rd_T30 l0_0 x8_1).f0.f1) t117 _ A13.out).mono ?_
   rintro e w28 ⟨rfl, hb⟩
   refine ⟨_, rfl, ?_⟩
   replace BK112 := ab_ BK112 hb
   replace BK114 := ab_ BK114 hb
   replace HB := at_ HB hb
   clear hb
   refine hK.out _ _ ⟨bq5_ BK114 0, bq5_ BK114 1, bq5_ BK114 2, bq5_ BK112 0, (hc_ HB hw116_0), (hc_ HB hw116_1), (hc_ HB hw116_2)⟩ (fun hHeld => ?_)
   clear hK K
   refine nz_ 29 ?_
   refine pz_ 17 30 ba4_18 HT_ ?_
   refine pz_ 18 31 ba4_19 HT_ ?_
   refine pz_ 19 32 ba4_20 HT_ ?_
   refine done_ (done_of HT_.out (by kernel_rfl)) ?_
   go_wp2
   go_roundg k1
   case measure => have := HK1.out; omega
   case rel => exact ⟨(wrap64 (x8_1 + 1)), er_, H', ⟨by have := HK1.out; omega⟩, ⟨bx_ BK112⟩, ⟨bw_⟩⟩

end Go.Proofs.Ytjepmdngbafonaa.QFnSqueezed
