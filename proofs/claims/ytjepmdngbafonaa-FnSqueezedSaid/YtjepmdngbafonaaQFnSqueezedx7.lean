/- Contracts of functions that the law reaches: what each call returns and what it leaves in memory. Made by this session over the print of the kit. -/
import Derived.Test.YtjepmdngbafonaaQFnSqueezedx0
import Derived.Test.YtjepmdngbafonaaQFnSqueezedx6
namespace Go.Proofs.Ytjepmdngbafonaa.QFnSqueezed
open Go.RowKit Go.Proofs.YtjepmdngbafonaaZ.PrintWords Go.Proofs.YtjepmdngbafonaaZ.PrintLast Go.Proofs.YtjepmdngbafonaaZ.PrintMore
attribute [local go_sem] max2_int min2_int max_two min_two max_three min_three max_four min_four   -- for this text's walks alone
set_option linter.unusedVariables false
set_option linter.unusedSimpArgs false
def ba7_0 := bs_ 39 0
def ba7_1 := bs_ 39 1
def ba7_2 := bs_ 39 5
def ba7_3 := bs_ 39 7
def ba7_4 := bs_ 39 15
def ba7_5 := bs_ 39 31
def ba7_6 := bs_ 39 63
def ba7_7 := bs_ 39 127
def ba7_8 := bs_ 39 255
def ba7_9 := bs_ 39 511
def ba7_10 := bs_ 39 1023
def ba7_11 := bs_ 39 3071
def ba7_12 := bs_ 39 4095
def ba7_13 := bs_ 39 8191
def ba7_14 := bs_ 39 16383
def ba7_15 := bs_ 39 32767
def ba7_16 := bs_ 39 65535
def ba7_17 := bs_ 39 131071
def ba7_18 := bs_ 39 262143
def ba7_19 := bs_ 39 524287
def ba7_20 := bs_ 39 1048575
def ba7_21 := bs_ 39 2097151
def ba7_22 := bs_ 39 4194303
def ba7_23 := bs_ 39 8388607
def ba7_24 := bs_ 39 25165823
def ba7_25 := bs_ 39 58720255
def ba7_26 := bs_ 39 595591167
def ba7_27 := bs_ 39 2743074815
def ba7_28 := bs_ 39 2751463423
def ba7_29 := bs_ 39 2818572287
def ba7_30 := bs_ 39 2952790015
def ba7_31 := bs_ 39 3221225471
def ba7_32 := bs_ 39 4294967295
def ba7_33 := bs_ 39 8589934591
def ba7_34 := bs_ 39 17179869183
def ba7_35 := bs_ 39 34359738367
def ba7_36 := bs_ 39 68719476735
def ba7_37 := bs_ 39 137438953471
def ba7_38 := bs_ 39 274877906943
def ba7_39 := bs_ 39 549755813887
def ba7_40 := bs_ 39 16777215
def ba7_41 := bs_ 39 33554431
def ba7_42 := bs_ 39 67108863
def ba7_43 := bs_ 39 134217727
def ba7_44 := bs_ 39 268435455
def ba7_45 := bs_ 39 536870911
def ba7_46 := bs_ 39 1073741823
def ba7_47 := bs_ 39 2147483647
def ba7_48 := bs_ 39 2047

/-! ### spec_TableOk: function 19 -/
def spec_TableOk.l0 : Nat → Int → List (S30) → Option (Bool)
 | 0, _, _ => none
 | k + 1, x3, x171000 => if x3 < (x171000.length : Int) then (if 0 ≤ x3 then ((spec_PrefixOk.f ((rd_T30 x171000 x3).f0.f0) ((rd_T30 x171000 x3).f0.f1)).bind fun t172 => (if t172 = true then ((spec_l01In.f ((rd_T30 x171000 x3).f1) 0 999).bind fun t174 => (if t174 = true then (if x3 > 0 then (if 0 ≤ (wrap64 (x3 - 1)) then (if (wrap64 (x3 - 1)) < (x171000.length : Int) then ((spec_l02Ahead.f ((rd_T30 x171000 (wrap64 (x3 - 1))).f0.f0) ((rd_T30 x171000 (wrap64 (x3 - 1))).f0.f1) ((rd_T30 x171000 x3).f0.f0) ((rd_T30 x171000 x3).f0.f1)).bind fun t177 => (if t177 = true then (spec_TableOk.l0 k (wrap64 (x3 + 1)) x171000) else (some false))) else (none)) else (none)) else (spec_TableOk.l0 k (wrap64 (x3 + 1)) x171000)) else (some false))) else (some false))) else (none)) else (some true)
def spec_TableOk.f (k : Nat) (l0_0 : List (S30)) : Option (Bool) := if (l0_0.length : Int) > 120 then (some false) else (spec_TableOk.l0 k 0 l0_0)
def spec_TableOk.T6 : Bool × List (List Nat × List Nat) := (true, [([], []), ([0], [0]), ([], []), ([1, 2], [1, 2]), ([3], [3]), ([4], [4]), ([5], [5]), ([6], [6]), ([7, 6], [7]), ([8], [8]), ([9, 8], [8, 9]), ([8], [8]), ([10, 11, 8], [8, 10, 11]), ([12, 8], [8, 12]), ([13, 8], [8, 13]), ([14, 8, 8], [8, 14]), ([15, 8], [8, 15]), ([8, 16], [8, 16]), ([17, 15], [17]), ([18], [18]), ([19, 18], [18, 19]), ([20, 18, 18], [18, 20]), ([21], [21]), ([22, 21], [21, 22]), ([21], [21]), ([24, 21], [21, 24]), ([23, 25, 21], [21, 23, 25]), ([26, 21], [21, 26]), ([27, 21], [21, 27]), ([21], [21]), ([29, 21], [21, 29]), ([21], [21]), ([30, 31, 21], [21, 30, 31]), ([32, 21], [21, 32]), ([33, 21], [21, 33]), ([28, 34, 21, 21], [21, 28, 34]), ([35, 21], [21, 35]), ([21, 36, 18], [18, 21, 36]), ([18, 37], [18, 37])])
def spec_TableOk.B6 : List Nat := [0, 1, 0, 7, 15, 31, 63, 127, 255, 511, 1023, 511, 4095, 8191, 16383, 32767, 65535, 131071, 262143, 524287, 1048575, 2097151, 4194303, 8388607, 4194303, 20971519, 67108863, 134217727, 268435455, 4194303, 541065215, 4194303, 3762290687, 8057257983, 16647192575, 34359738367, 68719476735, 137438953471, 274877906943]
theorem spec_TableOk.tab6 : rtab .any (opsOf Try.f19 6) = spec_TableOk.T6 := by kernel_rfl
theorem spec_TableOk.bits6 : waitsOk spec_TableOk.T6.2 spec_TableOk.B6 = true := by kernel_rfl
set_option maxHeartbeats 8000000 in
set_option maxRecDepth 100000 in
theorem spec_TableOk.calls (k : Nat) (A0_0 : Option Addr) (c0_0 : Nat) (l0_0 : List (S30)) (r : Bool) (w : World) (hr0_0 : Kd.C k30 w A0_0 l0_0.length l0_0) (hc0_0 : l0_0.length ≤ c0_0) (h : spec_TableOk.f k l0_0 = some r) :
  Calls Try.prog 19 #[.agg #[.slice A0_0 l0_0.length c0_0]] w fun e w' => e = .returned (.bool r) ∧ Below w.heap.size w w' := by
 have hu26 := Try.underlying26
 have hu28 := Try.underlying28
 have HR0_0 := Aside0.mk hr0_0
 have HC0_0 := Aside0.mk hc0_0
 clear hr0_0 hc0_0
 have HB := Aside0.mk (Below.refl w.heap.size w)
 have H : (if (l0_0.length : Int) > 120 then (some false) else (spec_TableOk.l0 k 0 l0_0)) = some r := h
 clear h
 by_cases c2 : (l0_0.length : Int) > 120
 ·rw [if_pos c2] at H
  have c2b0 : decide (120 < (l0_0.length : Int)) = true := decide_eq_true c2
  have c2b1 : decide (120 < l0_0.length) = true := decide_eq_true (by omega)
  clear c2
  obtain rfl := Option.some.inj H
  go_enter Try.func19, Try.ntmps19
  go_wp2_with ((with_reducible refine gate_dst (N := 1) rfl ?_); refine be_ 1 #[.slice A0_0 l0_0.length c0_0] 26 ?_; intro gb170 hg w3 BK170 hb; have GW170 := ge_ HB hg; have GE170 := ge_ HB hg; replace HB := at_ HB hb; clear hb hg; have hcz4_0 := cz_ BK170 0 (.slice A0_0 l0_0.length c0_0); have hfz4_0 := fz_ BK170 0)
  go_ret
  exact ⟨by first | rfl | (simp [errW_none, errW_some] <;> rfl) | (simp [*, errW_none, errW_some] <;> rfl), bw112_⟩
 rw [if_neg c2] at H
 have c2b0 : decide (120 < (l0_0.length : Int)) = false := decide_eq_false c2
 have c2b1 : decide (120 < l0_0.length) = false := decide_eq_false (by omega)
 clear c2
 have H' := Aside0.mk H
 clear H
 go_enter Try.func19, Try.ntmps19
 go_wp2_with ((with_reducible refine gate_dst (N := 1) rfl ?_); refine be_ 1 #[.slice A0_0 l0_0.length c0_0] 26 ?_; intro gb170 hg w5 BK170 hb; have GW170 := ge_ HB hg; have GE170 := ge_ HB hg; replace HB := at_ HB hb; clear hb hg; have hcz6_0 := cz_ BK170 0 (.slice A0_0 l0_0.length c0_0); have hfz6_0 := fz_ BK170 0)
 go_loopg [3] k (fun kq v3 w' => ∃ (x3_1 : Int), v3 = .int .i64 x3_1 ∧ Aside0 (spec_TableOk.l0 kq x3_1 l0_0 = some r) ∧ Aside0 (kq ≤ k) ∧ Aside0 (w'.heap[gb170]? = some (.cells #[(.slice A0_0 l0_0.length c0_0)] 26 (0, 0))) ∧ Aside0 (Below w.heap.size w w'))
 case atStart => exact ⟨(0), er_, H', ⟨Nat.le_refl _⟩, ⟨bx_ BK170⟩, ⟨bw112_⟩⟩
 case round =>
  clear H' c2b0 c2b1 hcz6_0 hfz6_0
  obtain ⟨x3_1, rfl, HA, HK1, BK170, HB⟩ := hrel
  cases gk with
  | zero => exact absurd HA.out (by simp [spec_TableOk.l0])
  | succ k1 =>
   have H := HA.out
   clear HA
   simp only [spec_TableOk.l0] at H
   by_cases c7 : x3_1 < (l0_0.length : Int)
   rotate_left
   ·rw [if_neg c7] at H
    have c7b0 : decide (x3_1 < (l0_0.length : Int)) = false := decide_eq_false c7
    clear c7
    obtain rfl := Option.some.inj H
    have hcz36_0 := cz_ BK170 0 (.slice A0_0 l0_0.length c0_0)
    have hfz36_0 := fz_ BK170 0
    go_wp2
    go_ret
    exact ⟨by first | rfl | (simp [errW_none, errW_some] <;> rfl) | (simp [*, errW_none, errW_some] <;> rfl), bw112_⟩
   rw [if_pos c7] at H
   have c7b0 : decide (x3_1 < (l0_0.length : Int)) = true := decide_eq_true c7
   clear c7
   obtain ⟨c8b0, H⟩ := iq_ H
   obtain ⟨t172, A9, H⟩ := ob_ H
   by_cases c10 : t172 = true
   rotate_left
   ·replace c10 := Bool.eq_false_iff.mpr c10
    subst c10
    rw [if_neg (show ¬ (false = true) by decide)] at H
    obtain rfl := Option.some.inj H
    have hcz33_0 := cz_ BK170 0 (.slice A0_0 l0_0.length c0_0)
    have hfz33_0 := fz_ BK170 0
    go_wp2
    replace BK170 := ad_ BK170
    replace HB := Aside0.mk (below_drew1 HB.out)
    have p171 : 0 ≤ (x3_1 : Int) := oa_
    have q171 : x3_1 < (l0_0.length : Int) := oa_
    obtain ⟨ad171, e171, hx171_0, hx171_1, hx171_2⟩ := at_T30 HR0_0.out x3_1 p171 q171
    have hw171_2 := hx171_2
    have hw171_1 := hx171_1
    have hw171_0 := hx171_0
    cases e171
    replace hx171_0 := hc5_ HB hx171_0
    replace hx171_1 := hc5_ HB hx171_1
    replace hx171_2 := hc5_ HB hx171_2
    obtain ⟨p171, q171⟩ := et_ p171 q171
    refine start_ (n := 39) (S := fun w' => w'.cell? ⟨gb170, 0, none⟩ = some (.slice (some ad171) l0_0.length c0_0) ∧ w'.cell? (ad171.add ((x3_1).toNat * 3)) = some (.int .i64 ((rd_T30 l0_0 x3_1).f0.f0)) ∧ w'.cell? ⟨(ad171.add ((x3_1).toNat * 3)).block, (ad171.add ((x3_1).toNat * 3)).off + 1, none⟩ = some (.int .i64 ((rd_T30 l0_0 x3_1).f0.f1)) ∧ w'.cell? ⟨(ad171.add ((x3_1).toNat * 3)).block, (ad171.add ((x3_1).toNat * 3)).off + 2, none⟩ = some (.int .i64 ((rd_T30 l0_0 x3_1).f1))) (ds := []) ba7_0 (by kernel_rfl) rfl rfl ⟨bq5_ BK170 0, (hc_ HB hw171_0), (hc_ HB hw171_1), (hc_ HB hw171_2)⟩ (fun hHeld => ?_); refine with_tabW spec_TableOk.tab6 spec_TableOk.bits6 (fun HT_ HW_ => ?_)
    generalize wr.drew = w34 at BK170 HB hx171_0 hx171_1 hx171_2 hHeld ⊢
    refine pz_ 0 15 ba7_1 HT_ ?_
    refine pz_ 2 17 ba7_2 HT_ ?_
    refine pt_ 1 16 ba7_3 HT_ HW_ hHeld ?_
    refine pz_ 3 18 ba7_4 HT_ ?_
    refine pz_ 4 19 ba7_5 HT_ ?_
    refine pt_ 5 20 ba7_6 HT_ HW_ hHeld ?_
    refine on_ 6 (some 21) ba7_7 HT_ (fun K hK => ?_)
    refine gz_ Try.func55 #[.agg #[.int .i64 ((rd_T30 l0_0 x3_1).f0.f0), .int .i64 ((rd_T30 l0_0 x3_1).f0.f1)]] ?_
    with_reducible refine (spec_PrefixOk.calls ((rd_T30 l0_0 x3_1).f0.f0) ((rd_T30 l0_0 x3_1).f0.f1) false _ A9.out).mono ?_
    rintro e w35 ⟨rfl, hb⟩
    refine ⟨_, rfl, ?_⟩
    replace BK170 := ab_ BK170 hb
    replace HB := at_ HB hb
    clear hb
    refine hK.out _ _ ⟨bq5_ BK170 0, (hc_ HB hw171_0), (hc_ HB hw171_1), (hc_ HB hw171_2)⟩ (fun hHeld => ?_)
    clear hK K
    refine nz_ 21 ?_
    refine pz_ 7 22 ba7_8 HT_ ?_
    refine pz_ 8 23 ba7_9 HT_ ?_
    refine pu_ 9 24 ba7_10 HT_ ?_
    refine pu_ 10 25 ba7_48 HT_ ?_
    refine pu_ 11 26 ba7_12 HT_ ?_
    refine pu_ 12 27 ba7_13 HT_ ?_
    refine pu_ 13 28 ba7_14 HT_ ?_
    refine pu_ 14 29 ba7_15 HT_ ?_
    refine pu_ 15 30 ba7_16 HT_ ?_
    refine pu_ 16 31 ba7_17 HT_ ?_
    refine pz_ 17 32 ba7_18 HT_ ?_
    refine pz_ 18 33 ba7_19 HT_ ?_
    refine pu_ 19 34 ba7_20 HT_ ?_
    refine pu_ 20 35 ba7_21 HT_ ?_
    refine pu_ 21 36 ba7_22 HT_ ?_
    refine pu_ 22 37 ba7_23 HT_ ?_
    refine pu_ 23 38 ba7_40 HT_ ?_
    refine pu_ 24 39 ba7_41 HT_ ?_
    refine pu_ 25 40 ba7_42 HT_ ?_
    refine pu_ 26 41 ba7_43 HT_ ?_
    refine pu_ 27 42 ba7_44 HT_ ?_
    refine pu_ 28 43 ba7_45 HT_ ?_
    refine pu_ 29 44 ba7_46 HT_ ?_
    refine pu_ 30 45 ba7_47 HT_ ?_
    refine pu_ 31 46 ba7_32 HT_ ?_
    refine pu_ 32 47 ba7_33 HT_ ?_
    refine pu_ 33 48 ba7_34 HT_ ?_
    refine pu_ 34 49 ba7_35 HT_ ?_
    refine pu_ 35 50 ba7_36 HT_ ?_
    refine pu_ 36 51 ba7_37 HT_ ?_
    refine pu_ 37 52 ba7_38 HT_ ?_
    refine pz_ 38 53 ba7_39 HT_ ?_
    refine done_ (done_of HT_.out (by kernel_rfl)) ?_
    go_wp2
    go_ret
    exact ⟨by first | rfl | (simp [errW_none, errW_some] <;> rfl) | (simp [*, errW_none, errW_some] <;> rfl), bw112_⟩
   subst c10
   rw [if_pos rfl] at H
   obtain ⟨t174, A11, H⟩ := ob_ H
   by_cases c12 : t174 = true
   rotate_left
   ·replace c12 := Bool.eq_false_iff.mpr c12
    subst c12
    rw [if_neg (show ¬ (false = true) by decide)] at H
    obtain rfl := Option.some.inj H
    have hcz30_0 := cz_ BK170 0 (.slice A0_0 l0_0.length c0_0)
    have hfz30_0 := fz_ BK170 0
    go_wp2
    replace BK170 := ad_ BK170
    replace HB := Aside0.mk (below_drew1 HB.out)
    have p171 : 0 ≤ (x3_1 : Int) := oa_
    have q171 : x3_1 < (l0_0.length : Int) := oa_
    obtain ⟨ad171, e171, hx171_0, hx171_1, hx171_2⟩ := at_T30 HR0_0.out x3_1 p171 q171
    have hw171_2 := hx171_2
    have hw171_1 := hx171_1
    have hw171_0 := hx171_0
    cases e171
    replace hx171_0 := hc5_ HB hx171_0
    replace hx171_1 := hc5_ HB hx171_1
    replace hx171_2 := hc5_ HB hx171_2
    obtain ⟨p171, q171⟩ := et_ p171 q171
    have p173 : 0 ≤ (x3_1 : Int) := oa_
    have q173 : x3_1 < (l0_0.length : Int) := oa_
    obtain ⟨ad173, e173, hx173_0, hx173_1, hx173_2⟩ := at_T30 HR0_0.out x3_1 p173 q173
    have hw173_2 := hx173_2
    have hw173_1 := hx173_1
    have hw173_0 := hx173_0
    obtain rfl : ad171 = ad173 := (by injection e173)
    replace hx173_0 := hc5_ HB hx173_0
    replace hx173_1 := hc5_ HB hx173_1
    replace hx173_2 := hc5_ HB hx173_2
    obtain ⟨p173, q173⟩ := et_ p173 q173
    refine start_ (n := 39) (S := fun w' => w'.cell? ⟨gb170, 0, none⟩ = some (.slice (some ad171) l0_0.length c0_0) ∧ w'.cell? (ad171.add ((x3_1).toNat * 3)) = some (.int .i64 ((rd_T30 l0_0 x3_1).f0.f0)) ∧ w'.cell? ⟨(ad171.add ((x3_1).toNat * 3)).block, (ad171.add ((x3_1).toNat * 3)).off + 1, none⟩ = some (.int .i64 ((rd_T30 l0_0 x3_1).f0.f1)) ∧ w'.cell? ⟨(ad171.add ((x3_1).toNat * 3)).block, (ad171.add ((x3_1).toNat * 3)).off + 2, none⟩ = some (.int .i64 ((rd_T30 l0_0 x3_1).f1)) ∧ w'.cell? (ad171.add ((x3_1).toNat * 3)) = some (.int .i64 ((rd_T30 l0_0 x3_1).f0.f0)) ∧ w'.cell? ⟨(ad171.add ((x3_1).toNat * 3)).block, (ad171.add ((x3_1).toNat * 3)).off + 1, none⟩ = some (.int .i64 ((rd_T30 l0_0 x3_1).f0.f1)) ∧ w'.cell? ⟨(ad171.add ((x3_1).toNat * 3)).block, (ad171.add ((x3_1).toNat * 3)).off + 2, none⟩ = some (.int .i64 ((rd_T30 l0_0 x3_1).f1))) (ds := []) ba7_0 (by kernel_rfl) rfl rfl ⟨bq5_ BK170 0, (hc_ HB hw171_0), (hc_ HB hw171_1), (hc_ HB hw171_2), (hc_ HB hw173_0), (hc_ HB hw173_1), (hc_ HB hw173_2)⟩ (fun hHeld => ?_); refine with_tabW spec_TableOk.tab6 spec_TableOk.bits6 (fun HT_ HW_ => ?_)
    generalize wr.drew = w31 at BK170 HB hx171_0 hx171_1 hx171_2 hx173_0 hx173_1 hx173_2 hHeld ⊢
    refine pz_ 0 15 ba7_1 HT_ ?_
    refine pz_ 2 17 ba7_2 HT_ ?_
    refine pt_ 1 16 ba7_3 HT_ HW_ hHeld ?_
    refine pz_ 3 18 ba7_4 HT_ ?_
    refine pz_ 4 19 ba7_5 HT_ ?_
    refine pt_ 5 20 ba7_6 HT_ HW_ hHeld ?_
    refine on_ 6 (some 21) ba7_7 HT_ (fun K hK => ?_)
    refine gz_ Try.func55 #[.agg #[.int .i64 ((rd_T30 l0_0 x3_1).f0.f0), .int .i64 ((rd_T30 l0_0 x3_1).f0.f1)]] ?_
    with_reducible refine (spec_PrefixOk.calls ((rd_T30 l0_0 x3_1).f0.f0) ((rd_T30 l0_0 x3_1).f0.f1) true _ A9.out).mono ?_
    rintro e w32 ⟨rfl, hb⟩
    refine ⟨_, rfl, ?_⟩
    replace BK170 := ab_ BK170 hb
    replace HB := at_ HB hb
    clear hb
    refine hK.out _ _ ⟨bq5_ BK170 0, (hc_ HB hw171_0), (hc_ HB hw171_1), (hc_ HB hw171_2), (hc_ HB hw173_0), (hc_ HB hw173_1), (hc_ HB hw173_2)⟩ (fun hHeld => ?_)
    clear hK K
    refine nz_ 21 ?_
    refine pz_ 7 22 ba7_8 HT_ ?_
    refine pz_ 8 23 ba7_9 HT_ ?_
    refine pz_ 9 24 ba7_10 HT_ ?_
    refine pz_ 11 26 ba7_11 HT_ ?_
    refine pt_ 10 25 ba7_12 HT_ HW_ hHeld ?_
    refine pz_ 12 27 ba7_13 HT_ ?_
    refine pz_ 13 28 ba7_14 HT_ ?_
    refine pt_ 14 29 ba7_15 HT_ HW_ hHeld ?_
    refine on_ 15 (some 30) ba7_16 HT_ (fun K hK => ?_)
    refine gz_ Try.func56 #[.int .i64 ((rd_T30 l0_0 x3_1).f1), .int .i64 0, .int .i64 999] ?_
    with_reducible refine (spec_l01In.calls ((rd_T30 l0_0 x3_1).f1) 0 999 false _ A11.out).mono ?_
    rintro e w' ⟨rfl, ⟨nd, rfl⟩⟩
    refine ⟨_, rfl, ?_⟩
    refine hK.out _ _ ⟨bq5_ BK170 0, (hc_ HB hw171_0), (hc_ HB hw171_1), (hc_ HB hw171_2), (hc_ HB hw173_0), (hc_ HB hw173_1), (hc_ HB hw173_2)⟩ (fun hHeld => ?_)
    clear hK K
    refine nz_ 30 ?_
    refine pz_ 16 31 ba7_17 HT_ ?_
    refine pz_ 17 32 ba7_18 HT_ ?_
    refine pz_ 18 33 ba7_19 HT_ ?_
    refine pu_ 19 34 ba7_20 HT_ ?_
    refine pu_ 20 35 ba7_21 HT_ ?_
    refine pu_ 21 36 ba7_22 HT_ ?_
    refine pu_ 22 37 ba7_23 HT_ ?_
    refine pu_ 23 38 ba7_40 HT_ ?_
    refine pu_ 24 39 ba7_41 HT_ ?_
    refine pu_ 25 40 ba7_42 HT_ ?_
    refine pu_ 26 41 ba7_43 HT_ ?_
    refine pu_ 27 42 ba7_44 HT_ ?_
    refine pu_ 28 43 ba7_45 HT_ ?_
    refine pu_ 29 44 ba7_46 HT_ ?_
    refine pu_ 30 45 ba7_47 HT_ ?_
    refine pu_ 31 46 ba7_32 HT_ ?_
    refine pu_ 32 47 ba7_33 HT_ ?_
    refine pu_ 33 48 ba7_34 HT_ ?_
    refine pu_ 34 49 ba7_35 HT_ ?_
    refine pu_ 35 50 ba7_36 HT_ ?_
    refine pu_ 36 51 ba7_37 HT_ ?_
    refine pu_ 37 52 ba7_38 HT_ ?_
    refine pz_ 38 53 ba7_39 HT_ ?_
    refine done_ (done_of HT_.out (by kernel_rfl)) ?_
    go_wp2
    go_ret
    exact ⟨by first | rfl | (simp [errW_none, errW_some] <;> rfl) | (simp [*, errW_none, errW_some] <;> rfl), bw112_⟩
   subst c12
   rw [if_pos rfl] at H
   by_cases c13 : x3_1 > 0
   rotate_left
   ·rw [if_neg c13] at H
    have c13b0 : decide (0 < x3_1) = false := decide_eq_false c13
    clear c13
    have H' := Aside0.mk H
    clear H
    have hcz27_0 := cz_ BK170 0 (.slice A0_0 l0_0.length c0_0)
    have hfz27_0 := fz_ BK170 0
    go_wp2
    replace BK170 := ad_ BK170
    replace HB := Aside0.mk (below_drew1 HB.out)
    have p171 : 0 ≤ (x3_1 : Int) := oa_
    have q171 : x3_1 < (l0_0.length : Int) := oa_
    obtain ⟨ad171, e171, hx171_0, hx171_1, hx171_2⟩ := at_T30 HR0_0.out x3_1 p171 q171
    have hw171_2 := hx171_2
    have hw171_1 := hx171_1
    have hw171_0 := hx171_0
    cases e171
    replace hx171_0 := hc5_ HB hx171_0
    replace hx171_1 := hc5_ HB hx171_1
    replace hx171_2 := hc5_ HB hx171_2
    obtain ⟨p171, q171⟩ := et_ p171 q171
    have p173 : 0 ≤ (x3_1 : Int) := oa_
    have q173 : x3_1 < (l0_0.length : Int) := oa_
    obtain ⟨ad173, e173, hx173_0, hx173_1, hx173_2⟩ := at_T30 HR0_0.out x3_1 p173 q173
    have hw173_2 := hx173_2
    have hw173_1 := hx173_1
    have hw173_0 := hx173_0
    obtain rfl : ad171 = ad173 := (by injection e173)
    replace hx173_0 := hc5_ HB hx173_0
    replace hx173_1 := hc5_ HB hx173_1
    replace hx173_2 := hc5_ HB hx173_2
    obtain ⟨p173, q173⟩ := et_ p173 q173
    refine start_ (n := 39) (S := fun w' => w'.cell? ⟨gb170, 0, none⟩ = some (.slice (some ad171) l0_0.length c0_0) ∧ w'.cell? (ad171.add ((x3_1).toNat * 3)) = some (.int .i64 ((rd_T30 l0_0 x3_1).f0.f0)) ∧ w'.cell? ⟨(ad171.add ((x3_1).toNat * 3)).block, (ad171.add ((x3_1).toNat * 3)).off + 1, none⟩ = some (.int .i64 ((rd_T30 l0_0 x3_1).f0.f1)) ∧ w'.cell? ⟨(ad171.add ((x3_1).toNat * 3)).block, (ad171.add ((x3_1).toNat * 3)).off + 2, none⟩ = some (.int .i64 ((rd_T30 l0_0 x3_1).f1)) ∧ w'.cell? (ad171.add ((x3_1).toNat * 3)) = some (.int .i64 ((rd_T30 l0_0 x3_1).f0.f0)) ∧ w'.cell? ⟨(ad171.add ((x3_1).toNat * 3)).block, (ad171.add ((x3_1).toNat * 3)).off + 1, none⟩ = some (.int .i64 ((rd_T30 l0_0 x3_1).f0.f1)) ∧ w'.cell? ⟨(ad171.add ((x3_1).toNat * 3)).block, (ad171.add ((x3_1).toNat * 3)).off + 2, none⟩ = some (.int .i64 ((rd_T30 l0_0 x3_1).f1))) (ds := []) ba7_0 (by kernel_rfl) rfl rfl ⟨bq5_ BK170 0, (hc_ HB hw171_0), (hc_ HB hw171_1), (hc_ HB hw171_2), (hc_ HB hw173_0), (hc_ HB hw173_1), (hc_ HB hw173_2)⟩ (fun hHeld => ?_); refine with_tabW spec_TableOk.tab6 spec_TableOk.bits6 (fun HT_ HW_ => ?_)
    generalize wr.drew = w28 at BK170 HB hx171_0 hx171_1 hx171_2 hx173_0 hx173_1 hx173_2 hHeld ⊢
    refine pz_ 0 15 ba7_1 HT_ ?_
    refine pz_ 2 17 ba7_2 HT_ ?_
    refine pt_ 1 16 ba7_3 HT_ HW_ hHeld ?_
    refine pz_ 3 18 ba7_4 HT_ ?_
    refine pz_ 4 19 ba7_5 HT_ ?_
    refine pt_ 5 20 ba7_6 HT_ HW_ hHeld ?_
    refine on_ 6 (some 21) ba7_7 HT_ (fun K hK => ?_)
    refine gz_ Try.func55 #[.agg #[.int .i64 ((rd_T30 l0_0 x3_1).f0.f0), .int .i64 ((rd_T30 l0_0 x3_1).f0.f1)]] ?_
    with_reducible refine (spec_PrefixOk.calls ((rd_T30 l0_0 x3_1).f0.f0) ((rd_T30 l0_0 x3_1).f0.f1) true _ A9.out).mono ?_
    rintro e w29 ⟨rfl, hb⟩
    refine ⟨_, rfl, ?_⟩
    replace BK170 := ab_ BK170 hb
    replace HB := at_ HB hb
    clear hb
    refine hK.out _ _ ⟨bq5_ BK170 0, (hc_ HB hw171_0), (hc_ HB hw171_1), (hc_ HB hw171_2), (hc_ HB hw173_0), (hc_ HB hw173_1), (hc_ HB hw173_2)⟩ (fun hHeld => ?_)
    clear hK K
    refine nz_ 21 ?_
    refine pz_ 7 22 ba7_8 HT_ ?_
    refine pz_ 8 23 ba7_9 HT_ ?_
    refine pz_ 9 24 ba7_10 HT_ ?_
    refine pz_ 11 26 ba7_11 HT_ ?_
    refine pt_ 10 25 ba7_12 HT_ HW_ hHeld ?_
    refine pz_ 12 27 ba7_13 HT_ ?_
    refine pz_ 13 28 ba7_14 HT_ ?_
    refine pt_ 14 29 ba7_15 HT_ HW_ hHeld ?_
    refine on_ 15 (some 30) ba7_16 HT_ (fun K hK => ?_)
    refine gz_ Try.func56 #[.int .i64 ((rd_T30 l0_0 x3_1).f1), .int .i64 0, .int .i64 999] ?_
    with_reducible refine (spec_l01In.calls ((rd_T30 l0_0 x3_1).f1) 0 999 true _ A11.out).mono ?_
    rintro e w' ⟨rfl, ⟨nd, rfl⟩⟩
    refine ⟨_, rfl, ?_⟩
    refine hK.out _ _ ⟨bq5_ BK170 0, (hc_ HB hw171_0), (hc_ HB hw171_1), (hc_ HB hw171_2), (hc_ HB hw173_0), (hc_ HB hw173_1), (hc_ HB hw173_2)⟩ (fun hHeld => ?_)
    clear hK K
    refine nz_ 30 ?_
    refine pz_ 16 31 ba7_17 HT_ ?_
    refine pz_ 17 32 ba7_18 HT_ ?_
    refine pz_ 18 33 ba7_19 HT_ ?_
    refine pz_ 19 34 ba7_20 HT_ ?_
    refine pz_ 20 35 ba7_21 HT_ ?_
    refine pz_ 21 36 ba7_22 HT_ ?_
    refine pu_ 22 37 ba7_23 HT_ ?_
    refine pu_ 23 38 ba7_40 HT_ ?_
    refine pu_ 24 39 ba7_41 HT_ ?_
    refine pu_ 25 40 ba7_42 HT_ ?_
    refine pu_ 26 41 ba7_43 HT_ ?_
    refine pu_ 27 42 ba7_44 HT_ ?_
    refine pu_ 28 43 ba7_45 HT_ ?_
    refine pu_ 29 44 ba7_46 HT_ ?_
    refine pu_ 30 45 ba7_47 HT_ ?_
    refine pu_ 31 46 ba7_32 HT_ ?_
    refine pu_ 32 47 ba7_33 HT_ ?_
    refine pu_ 33 48 ba7_34 HT_ ?_
    refine pu_ 34 49 ba7_35 HT_ ?_
    refine pu_ 35 50 ba7_36 HT_ ?_
    refine pu_ 36 51 ba7_37 HT_ ?_
    refine pz_ 37 52 ba7_38 HT_ ?_
    refine pz_ 38 53 ba7_39 HT_ ?_
    refine done_ (done_of HT_.out (by kernel_rfl)) ?_
    go_wp2
    go_roundg k1
    case measure => have := HK1.out; omega
    case rel => exact ⟨(wrap64 (x3_1 + 1)), er_, H', ⟨by have := HK1.out; omega⟩, ⟨bx_ BK170⟩, ⟨bw112_⟩⟩
   rw [if_pos c13] at H
   have c13b0 : decide (0 < x3_1) = true := decide_eq_true c13
   clear c13
   obtain ⟨ji14, hji14⟩ : ∃ j_ : Int, (wrap64 (x3_1 - 1)) = j_ := ⟨_, rfl⟩
   first | rw [hji14] at H | simp only [hji14] at H
   (try rw [hji14] at A9)
   (try rw [hji14] at A11)
   have hji14w : (IntKind.i64.wrap (x3_1 - 1)) = ji14 := (i64_w _).trans hji14
   obtain ⟨c15b0, H⟩ := iq_ H
   obtain ⟨c16b0, H⟩ := iq_ H
   obtain ⟨t177, A17, H⟩ := ob_ H
   have Hh_ := Aside0.mk H
   clear H
   have hcz19_0 := cz_ BK170 0 (.slice A0_0 l0_0.length c0_0)
   have hfz19_0 := fz_ BK170 0
   go_wp2
   replace BK170 := ad_ BK170
   replace HB := Aside0.mk (below_drew1 HB.out)
   have p171 : 0 ≤ (x3_1 : Int) := oa_
   have q171 : x3_1 < (l0_0.length : Int) := oa_
   obtain ⟨ad171, e171, hx171_0, hx171_1, hx171_2⟩ := at_T30 HR0_0.out x3_1 p171 q171
   have hw171_2 := hx171_2
   have hw171_1 := hx171_1
   have hw171_0 := hx171_0
   cases e171
   replace hx171_0 := hc5_ HB hx171_0
   replace hx171_1 := hc5_ HB hx171_1
   replace hx171_2 := hc5_ HB hx171_2
   obtain ⟨p171, q171⟩ := et_ p171 q171
   have p173 : 0 ≤ (x3_1 : Int) := oa_
   have q173 : x3_1 < (l0_0.length : Int) := oa_
   obtain ⟨ad173, e173, hx173_0, hx173_1, hx173_2⟩ := at_T30 HR0_0.out x3_1 p173 q173
   have hw173_2 := hx173_2
   have hw173_1 := hx173_1
   have hw173_0 := hx173_0
   obtain rfl : ad171 = ad173 := (by injection e173)
   replace hx173_0 := hc5_ HB hx173_0
   replace hx173_1 := hc5_ HB hx173_1
   replace hx173_2 := hc5_ HB hx173_2
   obtain ⟨p173, q173⟩ := et_ p173 q173
   have p175 : 0 ≤ ((ji14) : Int) := oa_
   have q175 : (ji14) < (l0_0.length : Int) := oa_
   obtain ⟨ad175, e175, hx175_0, hx175_1, hx175_2⟩ := at_T30 HR0_0.out (ji14) p175 q175
   have hw175_2 := hx175_2
   have hw175_1 := hx175_1
   have hw175_0 := hx175_0
   obtain rfl : ad171 = ad175 := (by injection e175)
   replace hx175_0 := hc5_ HB hx175_0
   replace hx175_1 := hc5_ HB hx175_1
   replace hx175_2 := hc5_ HB hx175_2
   obtain ⟨p175, q175⟩ := et_ p175 q175
   have p176 : 0 ≤ (x3_1 : Int) := oa_
   have q176 : x3_1 < (l0_0.length : Int) := oa_
   obtain ⟨ad176, e176, hx176_0, hx176_1, hx176_2⟩ := at_T30 HR0_0.out x3_1 p176 q176
   have hw176_2 := hx176_2
   have hw176_1 := hx176_1
   have hw176_0 := hx176_0
   obtain rfl : ad171 = ad176 := (by injection e176)
   replace hx176_0 := hc5_ HB hx176_0
   replace hx176_1 := hc5_ HB hx176_1
   replace hx176_2 := hc5_ HB hx176_2
   obtain ⟨p176, q176⟩ := et_ p176 q176
   refine start_ (n := 39) (S := fun w' => w'.cell? ⟨gb170, 0, none⟩ = some (.slice (some ad171) l0_0.length c0_0) ∧ w'.cell? (ad171.add ((x3_1).toNat * 3)) = some (.int .i64 ((rd_T30 l0_0 x3_1).f0.f0)) ∧ w'.cell? ⟨(ad171.add ((x3_1).toNat * 3)).block, (ad171.add ((x3_1).toNat * 3)).off + 1, none⟩ = some (.int .i64 ((rd_T30 l0_0 x3_1).f0.f1)) ∧ w'.cell? ⟨(ad171.add ((x3_1).toNat * 3)).block, (ad171.add ((x3_1).toNat * 3)).off + 2, none⟩ = some (.int .i64 ((rd_T30 l0_0 x3_1).f1)) ∧ w'.cell? (ad171.add ((x3_1).toNat * 3)) = some (.int .i64 ((rd_T30 l0_0 x3_1).f0.f0)) ∧ w'.cell? ⟨(ad171.add ((x3_1).toNat * 3)).block, (ad171.add ((x3_1).toNat * 3)).off + 1, none⟩ = some (.int .i64 ((rd_T30 l0_0 x3_1).f0.f1)) ∧ w'.cell? ⟨(ad171.add ((x3_1).toNat * 3)).block, (ad171.add ((x3_1).toNat * 3)).off + 2, none⟩ = some (.int .i64 ((rd_T30 l0_0 x3_1).f1)) ∧ w'.cell? (ad171.add (((ji14)).toNat * 3)) = some (.int .i64 ((rd_T30 l0_0 (ji14)).f0.f0)) ∧ w'.cell? ⟨(ad171.add (((ji14)).toNat * 3)).block, (ad171.add (((ji14)).toNat * 3)).off + 1, none⟩ = some (.int .i64 ((rd_T30 l0_0 (ji14)).f0.f1)) ∧ w'.cell? ⟨(ad171.add (((ji14)).toNat * 3)).block, (ad171.add (((ji14)).toNat * 3)).off + 2, none⟩ = some (.int .i64 ((rd_T30 l0_0 (ji14)).f1)) ∧ w'.cell? (ad171.add ((x3_1).toNat * 3)) = some (.int .i64 ((rd_T30 l0_0 x3_1).f0.f0)) ∧ w'.cell? ⟨(ad171.add ((x3_1).toNat * 3)).block, (ad171.add ((x3_1).toNat * 3)).off + 1, none⟩ = some (.int .i64 ((rd_T30 l0_0 x3_1).f0.f1)) ∧ w'.cell? ⟨(ad171.add ((x3_1).toNat * 3)).block, (ad171.add ((x3_1).toNat * 3)).off + 2, none⟩ = some (.int .i64 ((rd_T30 l0_0 x3_1).f1))) (ds := []) ba7_0 (by kernel_rfl) rfl rfl ⟨bq5_ BK170 0, (hc_ HB hw171_0), (hc_ HB hw171_1), (hc_ HB hw171_2), (hc_ HB hw173_0), (hc_ HB hw173_1), (hc_ HB hw173_2), (hc_ HB hw175_0), (hc_ HB hw175_1), (hc_ HB hw175_2), (hc_ HB hw176_0), (hc_ HB hw176_1), (hc_ HB hw176_2)⟩ (fun hHeld => ?_); refine with_tabW spec_TableOk.tab6 spec_TableOk.bits6 (fun HT_ HW_ => ?_)
   generalize wr.drew = w20 at BK170 HB hx171_0 hx171_1 hx171_2 hx173_0 hx173_1 hx173_2 hx175_0 hx175_1 hx175_2 hx176_0 hx176_1 hx176_2 hHeld ⊢
   refine pz_ 0 15 ba7_1 HT_ ?_
   refine pz_ 2 17 ba7_2 HT_ ?_
   refine pt_ 1 16 ba7_3 HT_ HW_ hHeld ?_
   refine pz_ 3 18 ba7_4 HT_ ?_
   refine pz_ 4 19 ba7_5 HT_ ?_
   refine pt_ 5 20 ba7_6 HT_ HW_ hHeld ?_
   refine on_ 6 (some 21) ba7_7 HT_ (fun K hK => ?_)
   refine gz_ Try.func55 #[.agg #[.int .i64 ((rd_T30 l0_0 x3_1).f0.f0), .int .i64 ((rd_T30 l0_0 x3_1).f0.f1)]] ?_
   with_reducible refine (spec_PrefixOk.calls ((rd_T30 l0_0 x3_1).f0.f0) ((rd_T30 l0_0 x3_1).f0.f1) true _ A9.out).mono ?_
   rintro e w21 ⟨rfl, hb⟩
   refine ⟨_, rfl, ?_⟩
   replace BK170 := ab_ BK170 hb
   replace HB := at_ HB hb
   clear hb
   refine hK.out _ _ ⟨bq5_ BK170 0, (hc_ HB hw171_0), (hc_ HB hw171_1), (hc_ HB hw171_2), (hc_ HB hw173_0), (hc_ HB hw173_1), (hc_ HB hw173_2), (hc_ HB hw175_0), (hc_ HB hw175_1), (hc_ HB hw175_2), (hc_ HB hw176_0), (hc_ HB hw176_1), (hc_ HB hw176_2)⟩ (fun hHeld => ?_)
   clear hK K
   refine nz_ 21 ?_
   refine pz_ 7 22 ba7_8 HT_ ?_
   refine pz_ 8 23 ba7_9 HT_ ?_
   refine pz_ 9 24 ba7_10 HT_ ?_
   refine pz_ 11 26 ba7_11 HT_ ?_
   refine pt_ 10 25 ba7_12 HT_ HW_ hHeld ?_
   refine pz_ 12 27 ba7_13 HT_ ?_
   refine pz_ 13 28 ba7_14 HT_ ?_
   refine pt_ 14 29 ba7_15 HT_ HW_ hHeld ?_
   refine on_ 15 (some 30) ba7_16 HT_ (fun K hK => ?_)
   refine gz_ Try.func56 #[.int .i64 ((rd_T30 l0_0 x3_1).f1), .int .i64 0, .int .i64 999] ?_
   with_reducible refine (spec_l01In.calls ((rd_T30 l0_0 x3_1).f1) 0 999 true _ A11.out).mono ?_
   rintro e w' ⟨rfl, ⟨nd, rfl⟩⟩
   refine ⟨_, rfl, ?_⟩
   refine hK.out _ _ ⟨bq5_ BK170 0, (hc_ HB hw171_0), (hc_ HB hw171_1), (hc_ HB hw171_2), (hc_ HB hw173_0), (hc_ HB hw173_1), (hc_ HB hw173_2), (hc_ HB hw175_0), (hc_ HB hw175_1), (hc_ HB hw175_2), (hc_ HB hw176_0), (hc_ HB hw176_1), (hc_ HB hw176_2)⟩ (fun hHeld => ?_)
   clear hK K
   refine nz_ 30 ?_
   refine pz_ 16 31 ba7_17 HT_ ?_
   refine pz_ 17 32 ba7_18 HT_ ?_
   refine pz_ 18 33 ba7_19 HT_ ?_
   refine pz_ 19 34 ba7_20 HT_ ?_
   refine pz_ 20 35 ba7_21 HT_ ?_
   refine pz_ 21 36 ba7_22 HT_ ?_
   refine pz_ 22 37 ba7_23 HT_ ?_
   refine pz_ 24 39 ba7_24 HT_ ?_
   refine pz_ 25 40 ba7_25 HT_ ?_
   refine pz_ 29 44 ba7_26 HT_ ?_
   refine pz_ 31 46 ba7_27 HT_ ?_
   refine pt_ 23 38 ba7_28 HT_ HW_ hHeld ?_
   refine pz_ 26 41 ba7_29 HT_ ?_
   refine pz_ 27 42 ba7_30 HT_ ?_
   refine pt_ 28 43 ba7_31 HT_ HW_ hHeld ?_
   refine pt_ 30 45 ba7_32 HT_ HW_ hHeld ?_
   refine pz_ 32 47 ba7_33 HT_ ?_
   refine pz_ 33 48 ba7_34 HT_ ?_
   refine pt_ 34 49 ba7_35 HT_ HW_ hHeld ?_
   refine on_ 35 (some 50) ba7_36 HT_ (fun K hK => ?_)
   refine goes_ Try.func47 (by kernel_rfl) rfl #[.agg #[.int .i64 ((rd_T30 l0_0 (ji14)).f0.f0), .int .i64 ((rd_T30 l0_0 (ji14)).f0.f1)], .agg #[.int .i64 ((rd_T30 l0_0 x3_1).f0.f0), .int .i64 ((rd_T30 l0_0 x3_1).f0.f1)]] (by rfl) rfl rfl (by (try simp only [List.map_toArray, List.map_cons, List.map_nil]); first | done | (simp only [hji14]; rfl) | rfl | (simp only [List.length_drop, List.length_take]; rfl)) ?_
   with_reducible refine (spec_l02Ahead.calls ((rd_T30 l0_0 (ji14)).f0.f0) ((rd_T30 l0_0 (ji14)).f0.f1) ((rd_T30 l0_0 x3_1).f0.f0) ((rd_T30 l0_0 x3_1).f0.f1) t177 _ A17.out).mono ?_
   rintro e w22 ⟨rfl, hb⟩
   refine ⟨_, rfl, ?_⟩
   replace BK170 := ab_ BK170 hb
   replace HB := at_ HB hb
   clear hb
   refine hK.out _ _ ⟨bq5_ BK170 0, (hc_ HB hw171_0), (hc_ HB hw171_1), (hc_ HB hw171_2), (hc_ HB hw173_0), (hc_ HB hw173_1), (hc_ HB hw173_2), (hc_ HB hw175_0), (hc_ HB hw175_1), (hc_ HB hw175_2), (hc_ HB hw176_0), (hc_ HB hw176_1), (hc_ HB hw176_2)⟩ (fun hHeld => ?_)
   clear hK K
   refine nz_ 50 ?_
   have H := Hh_.out
   clear Hh_
   by_cases c18 : t177 = true
   rotate_left
   ·replace c18 := Bool.eq_false_iff.mpr c18
    subst c18
    rw [if_neg (show ¬ (false = true) by decide)] at H
    obtain rfl := Option.some.inj H
    refine pz_ 36 51 ba7_37 HT_ ?_
    refine pz_ 37 52 ba7_38 HT_ ?_
    refine pz_ 38 53 ba7_39 HT_ ?_
    refine done_ (done_of HT_.out (by kernel_rfl)) ?_
    go_wp2
    go_ret
    exact ⟨by first | rfl | (simp [errW_none, errW_some] <;> rfl) | (simp only [← hji14]; first | rfl | (simp [errW_none, errW_some] <;> rfl)) | (simp [*, errW_none, errW_some] <;> rfl), bw112_⟩
   subst c18
   rw [if_pos rfl] at H
   have H' := Aside0.mk H
   clear H
   refine pz_ 36 51 ba7_37 HT_ ?_
   refine pz_ 37 52 ba7_38 HT_ ?_
   refine pz_ 38 53 ba7_39 HT_ ?_
   refine done_ (done_of HT_.out (by kernel_rfl)) ?_
   go_wp2
   go_roundg k1
   case measure => have := HK1.out; omega
   case rel => exact ⟨(wrap64 (x3_1 + 1)), er_, H', ⟨by have := HK1.out; omega⟩, ⟨bx_ BK170⟩, ⟨bw112_⟩⟩

end Go.Proofs.Ytjepmdngbafonaa.QFnSqueezed
