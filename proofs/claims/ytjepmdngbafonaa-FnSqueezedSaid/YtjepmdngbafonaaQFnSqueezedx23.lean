/- Contracts of functions that the law reaches: what each call returns and what it leaves in memory. Made by this session over the print of the kit. -/
import Derived.Test.YtjepmdngbafonaaQFnSqueezedx0
import Derived.Test.YtjepmdngbafonaaQFnSqueezedx4
import Derived.Test.YtjepmdngbafonaaQFnSqueezedx6
import Derived.Test.YtjepmdngbafonaaQFnSqueezedx18
import Derived.Test.YtjepmdngbafonaaQFnSqueezedx22
namespace Go.Proofs.Ytjepmdngbafonaa.QFnSqueezed
open Go.RowKit Go.Proofs.YtjepmdngbafonaaZ.PrintWords Go.Proofs.YtjepmdngbafonaaZ.PrintLast Go.Proofs.YtjepmdngbafonaaZ.PrintMore
attribute [local go_sem] max2_int min2_int max_two min_two max_three min_three max_four min_four   -- for this text's walks alone
set_option linter.unusedVariables false
set_option linter.unusedSimpArgs false
def ba23_0 := bs_ 16 0
def ba23_1 := bs_ 16 1
def ba23_2 := bs_ 16 3
def ba23_3 := bs_ 16 7
def ba23_4 := bs_ 16 15
def ba23_5 := bs_ 16 31
def ba23_6 := bs_ 16 63
def ba23_7 := bs_ 16 127
def ba23_8 := bs_ 16 255
def ba23_9 := bs_ 16 1279
def ba23_10 := bs_ 16 1535
def ba23_11 := bs_ 16 3583
def ba23_12 := bs_ 16 4095
def ba23_13 := bs_ 16 8191
def ba23_14 := bs_ 16 16383
def ba23_15 := bs_ 16 32767
def ba23_16 := bs_ 16 65535
def ba23_17 := bs_ 16 511
def ba23_18 := bs_ 16 1023
def ba23_19 := bs_ 16 2047

/-! ### impl_SameTable: function 21 -/
def impl_SameTable.f (k : Nat) (l0_0 : List (S30)) (l1_0 : List (S30)) : Option (Bool) := (impl_TableOk.f k l0_0).bind fun t512 => (if t512 = true then ((impl_TableOk.f k l1_0).bind fun t513 => (if t513 = true then ((impl_hopsOf.f k l0_0).bind fun t514 => ((impl_hopsOf.f k l1_0).bind fun t517 => ((slices_Equal_int_int.f k t514 t517).bind fun t520 => (some t520)))) else (some false))) else (some false))
def impl_SameTable.T1 : Bool × List (List Nat × List Nat) := (true, [([], []), ([0], [0]), ([1, 1], [1]), ([2], [2]), ([3, 2, 2], [2, 3]), ([2, 4], [2, 4]), ([5, 4], [5]), ([6], [6]), ([7, 6], [6, 7]), ([8, 6, 6], [6, 8]), ([6], [6]), ([10, 6], [6, 10]), ([11, 9, 6], [6, 11]), ([9, 12, 12, 6], [6, 9, 12]), ([6, 13], [6, 13]), ([14, 13, 0, 1, 2, 3, 4, 5, 6, 7, 8, 9, 10, 11, 12, 13, 14], [14])])
def impl_SameTable.B1 : List Nat := [0, 1, 3, 7, 15, 31, 63, 127, 255, 511, 127, 1151, 4095, 8191, 16383, 32767]
theorem impl_SameTable.tab1 : rtab .any (opsOf Try.f21 1) = impl_SameTable.T1 := by kernel_rfl
theorem impl_SameTable.bits1 : waitsOk impl_SameTable.T1.2 impl_SameTable.B1 = true := by kernel_rfl
set_option maxHeartbeats 8000000 in
set_option maxRecDepth 100000 in
theorem impl_SameTable.calls (k : Nat) (A0_0 : Option Addr) (c0_0 : Nat) (l0_0 : List (S30)) (A1_0 : Option Addr) (c1_0 : Nat) (l1_0 : List (S30)) (r : Bool) (w : World) (hr0_0 : Kd.C k30 w A0_0 l0_0.length l0_0) (hc0_0 : l0_0.length ≤ c0_0) (hr1_0 : Kd.C k30 w A1_0 l1_0.length l1_0) (hc1_0 : l1_0.length ≤ c1_0) (h : impl_SameTable.f k l0_0 l1_0 = some r) :
  Calls Try.prog 21 #[.agg #[.slice A0_0 l0_0.length c0_0], .agg #[.slice A1_0 l1_0.length c1_0]] w fun e w' => e = .returned (.bool r) ∧ Below w.heap.size w w' := by
 have hu26 := Try.underlying26
 have HR0_0 := Aside0.mk hr0_0
 have HC0_0 := Aside0.mk hc0_0
 clear hr0_0 hc0_0
 have HR1_0 := Aside0.mk hr1_0
 have HC1_0 := Aside0.mk hc1_0
 clear hr1_0 hc1_0
 have HB := Aside0.mk (Below.refl w.heap.size w)
 have H : ((impl_TableOk.f k l0_0).bind fun t512 => (if t512 = true then ((impl_TableOk.f k l1_0).bind fun t513 => (if t513 = true then ((impl_hopsOf.f k l0_0).bind fun t514 => ((impl_hopsOf.f k l1_0).bind fun t517 => ((slices_Equal_int_int.f k t514 t517).bind fun t520 => (some t520)))) else (some false))) else (some false))) = some r := h
 clear h
 obtain ⟨t512, A3, H⟩ := ob_ H
 have Hh_ := Aside0.mk H
 clear H
 go_enter Try.func21, Try.ntmps21
 try go_wp2_with (first | ((with_reducible refine gate_dst (N := 2) rfl ?_); refine be_ 2 #[.slice A0_0 l0_0.length c0_0] 26 ?_; intro gb510 hg w10 BK510 hb; have GW510 := ge_ HB hg; have GE510 := ge_ HB hg; replace HB := at_ HB hb; clear hb hg) | ((with_reducible refine gate_dst (N := 3) rfl ?_); refine be_ 3 #[.slice A1_0 l1_0.length c1_0] 26 ?_; intro gb511 hg w11 BK511 hb; have GW511 := ge_ HB hg; have GE511 := ge_ HB hg; have NB510_511 := nl_ BK510 hg; have NB511_510 := ng_ BK510 hg; replace HB := at_ HB hb; replace BK510 := ab_ BK510 hb; clear hb hg))
 replace BK510 := ad_ BK510
 replace BK511 := ad_ BK511
 replace HB := Aside0.mk (below_drew1 HB.out)
 have H := Hh_.out
 clear Hh_
 by_cases c4 : t512 = true
 rotate_left
 ·replace c4 := Bool.eq_false_iff.mpr c4
  subst c4
  rw [if_neg (show ¬ (false = true) by decide)] at H
  obtain rfl := Option.some.inj H
  refine start_ (n := 16) (S := fun w' => w'.cell? ⟨gb510, 0, none⟩ = some (.slice A0_0 l0_0.length c0_0)) (ds := []) ba23_0 (by kernel_rfl) rfl rfl (bq5_ BK510 0) (fun hHeld => ?_); refine with_tabW impl_SameTable.tab1 impl_SameTable.bits1 (fun HT_ HW_ => ?_)
  generalize w11.drew = w26 at BK510 BK511 HB hHeld ⊢
  refine take_ (i := 0) (N := some 5) (v := ?_) (a' := ?_) ba23_1 rfl rfl (take_ofW HT_.out HW_.out (by kernel_rfl)) (fun _ _ _ h => h) (Or.inl ⟨by rfl, ?_⟩) hHeld ?_ ?_
  rotate_left; · intro w' s0; go_simp; with_reducible rfl
  rotate_left; · simp only [Act.put, List.setIfInBounds_toArray, List.set_cons_zero, List.set_cons_succ, i64_w, i32_w]; rfl
  refine on_ 1 (some 6) ba23_2 HT_ (fun K hK => ?_)
  refine gz_ Try.func48 #[.agg #[.slice A0_0 l0_0.length c0_0]] ?_
  with_reducible refine (impl_TableOk.calls k _ _ l0_0 false _ ?side1 ?side2 A3.out).mono ?_
  (case side1 => exact cb_ HR0_0 HB)
  (case side2 => exact HC0_0.out)
  rintro e w27 ⟨rfl, hb⟩
  refine ⟨_, rfl, ?_⟩
  replace BK510 := ab_ BK510 hb
  replace BK511 := ab_ BK511 hb
  replace HB := at_ HB hb
  clear hb
  refine hK.out _ _ (bq5_ BK510 0) (fun hHeld => ?_)
  clear hK K
  refine nz_ 6 ?_
  refine pz_ 2 7 ba23_3 HT_ ?_
  refine pu_ 3 8 ba23_4 HT_ ?_
  refine pu_ 4 9 ba23_5 HT_ ?_
  refine pz_ 5 10 ba23_6 HT_ ?_
  refine pz_ 6 11 ba23_7 HT_ ?_
  refine pu_ 7 12 ba23_8 HT_ ?_
  refine pu_ 8 13 ba23_17 HT_ ?_
  refine pu_ 9 14 ba23_18 HT_ ?_
  refine pu_ 10 15 ba23_19 HT_ ?_
  refine pu_ 11 16 ba23_12 HT_ ?_
  refine pu_ 12 17 ba23_13 HT_ ?_
  refine pu_ 13 18 ba23_14 HT_ ?_
  refine pz_ 14 19 ba23_15 HT_ ?_
  refine pz_ 15 4 ba23_16 HT_ ?_
  refine done_ (done_of HT_.out (by kernel_rfl)) ?_
  go_wp2
  go_ret
  exact ⟨by first | rfl | (simp [errW_none, errW_some] <;> rfl) | (simp [*, errW_none, errW_some] <;> rfl), bw112_⟩
 subst c4
 rw [if_pos rfl] at H
 obtain ⟨t513, A5, H⟩ := ob_ H
 have Hh_ := Aside0.mk H
 clear H
 refine start_ (n := 16) (S := fun w' => w'.cell? ⟨gb510, 0, none⟩ = some (.slice A0_0 l0_0.length c0_0) ∧ w'.cell? ⟨gb511, 0, none⟩ = some (.slice A1_0 l1_0.length c1_0)) (ds := []) ba23_0 (by kernel_rfl) rfl rfl ⟨bq5_ BK510 0, bq5_ BK511 0⟩ (fun hHeld => ?_); refine with_tabW impl_SameTable.tab1 impl_SameTable.bits1 (fun HT_ HW_ => ?_)
 generalize w11.drew = w12 at BK510 BK511 HB hHeld ⊢
 refine pt_ 0 5 ba23_1 HT_ HW_ hHeld ?_
 refine on_ 1 (some 6) ba23_2 HT_ (fun K hK => ?_)
 refine gz_ Try.func48 #[.agg #[.slice A0_0 l0_0.length c0_0]] ?_
 with_reducible refine (impl_TableOk.calls k _ _ l0_0 true _ ?side1 ?side2 A3.out).mono ?_
 (case side1 => exact cb_ HR0_0 HB)
 (case side2 => exact HC0_0.out)
 rintro e w13 ⟨rfl, hb⟩
 refine ⟨_, rfl, ?_⟩
 replace BK510 := ab_ BK510 hb
 replace BK511 := ab_ BK511 hb
 replace HB := at_ HB hb
 clear hb
 refine hK.out _ _ ⟨bq5_ BK510 0, bq5_ BK511 0⟩ (fun hHeld => ?_)
 clear hK K
 refine nz_ 6 ?_
 refine pz_ 2 7 ba23_3 HT_ ?_
 refine pt_ 3 8 ba23_4 HT_ HW_ hHeld ?_
 refine on_ 4 (some 9) ba23_5 HT_ (fun K hK => ?_)
 refine gz_ Try.func48 #[.agg #[.slice A1_0 l1_0.length c1_0]] ?_
 with_reducible refine (impl_TableOk.calls k _ _ l1_0 t513 _ ?side1 ?side2 A5.out).mono ?_
 (case side1 => exact cb_ HR1_0 HB)
 (case side2 => exact HC1_0.out)
 rintro e w14 ⟨rfl, hb⟩
 refine ⟨_, rfl, ?_⟩
 replace BK510 := ab_ BK510 hb
 replace BK511 := ab_ BK511 hb
 replace HB := at_ HB hb
 clear hb
 refine hK.out _ _ ⟨bq5_ BK510 0, bq5_ BK511 0⟩ (fun hHeld => ?_)
 clear hK K
 refine nz_ 9 ?_
 have H := Hh_.out
 clear Hh_
 by_cases c6 : t513 = true
 rotate_left
 ·replace c6 := Bool.eq_false_iff.mpr c6
  subst c6
  rw [if_neg (show ¬ (false = true) by decide)] at H
  obtain rfl := Option.some.inj H
  refine pz_ 5 10 ba23_6 HT_ ?_
  refine pz_ 6 11 ba23_7 HT_ ?_
  refine pu_ 7 12 ba23_8 HT_ ?_
  refine pu_ 8 13 ba23_17 HT_ ?_
  refine pu_ 9 14 ba23_18 HT_ ?_
  refine pu_ 10 15 ba23_19 HT_ ?_
  refine pu_ 11 16 ba23_12 HT_ ?_
  refine pu_ 12 17 ba23_13 HT_ ?_
  refine pu_ 13 18 ba23_14 HT_ ?_
  refine pz_ 14 19 ba23_15 HT_ ?_
  refine pz_ 15 4 ba23_16 HT_ ?_
  refine done_ (done_of HT_.out (by kernel_rfl)) ?_
  go_wp2
  go_ret
  exact ⟨by first | rfl | (simp [errW_none, errW_some] <;> rfl) | (simp [*, errW_none, errW_some] <;> rfl), bw112_⟩
 subst c6
 rw [if_pos rfl] at H
 obtain ⟨t514, A7, H⟩ := ob_ H
 obtain ⟨t517, A8, H⟩ := ob_ H
 obtain ⟨t520, A9, H⟩ := ob_ H
 obtain rfl := Option.some.inj H
 refine pz_ 5 10 ba23_6 HT_ ?_
 refine pz_ 6 11 ba23_7 HT_ ?_
 refine pz_ 7 12 ba23_8 HT_ ?_
 refine pz_ 10 15 ba23_9 HT_ ?_
 refine pt_ 8 13 ba23_10 HT_ HW_ hHeld ?_
 refine pt_ 11 16 ba23_11 HT_ HW_ hHeld ?_
 refine on_ 9 (some 14) ba23_12 HT_ (fun K hK => ?_)
 refine gz_ Try.func64 #[.slice A0_0 l0_0.length c0_0] ?_
 with_reducible refine (impl_hopsOf.calls k _ _ l0_0 t514 _ ?side1 ?side2 A7.out).mono ?_
 (case side1 => exact cb_ HR0_0 HB)
 (case side2 => exact HC0_0.out)
 rintro e w15 ⟨v515, rfl, ho0, hb⟩
 refine ⟨_, rfl, ?_⟩
 have HO516 := Aside0.mk (Kd.R_lower ho0 (bz_ HB))
 replace BK510 := ab_ BK510 hb
 replace BK511 := ab_ BK511 hb
 replace HB := at_ HB hb
 clear hb ho0
 refine hK.out _ _ ⟨bq5_ BK510 0, bq5_ BK511 0⟩ (fun hHeld => ?_)
 clear hK K
 refine nz_ 14 ?_
 refine on_ 12 (some 17) ba23_13 HT_ (fun K hK => ?_)
 refine gz_ Try.func64 #[.slice A1_0 l1_0.length c1_0] ?_
 with_reducible refine (impl_hopsOf.calls k _ _ l1_0 t517 _ ?side1 ?side2 A8.out).mono ?_
 (case side1 => exact cb_ HR1_0 HB)
 (case side2 => exact HC1_0.out)
 rintro e w16 ⟨v518, rfl, ho0, hb⟩
 refine ⟨_, rfl, ?_⟩
 have HO519 := Aside0.mk (Kd.R_lower (Kd.R_new' ho0 (Kd.R_lt (hd_ HO516))) (bz_ HB))
 replace HO516 := Aside0.mk (Kd.R_elder' (hd_ HO516) (Kd.R_base ho0) hb)
 replace BK510 := ab_ BK510 hb
 replace BK511 := ab_ BK511 hb
 replace HB := at_ HB hb
 clear hb ho0
 obtain ⟨Ao17, co17, eo17⟩ := Kd.R_slice HO516.out
 subst eo17
 obtain ⟨Ao18, co18, eo18⟩ := Kd.R_slice HO519.out
 subst eo18
 refine hK.out _ _ ⟨bq5_ BK510 0, bq5_ BK511 0⟩ (fun hHeld => ?_)
 clear hK K
 refine nz_ 17 ?_
 refine on_ 13 (some 18) ba23_14 HT_ (fun K hK => ?_)
 refine gz_ Try.func63 #[.slice Ao17 t514.length co17, .slice Ao18 t517.length co18] ?_
 with_reducible refine (slices_Equal_int_int.calls k _ _ t514 _ _ t517 t520 _ ?side1 ?side2 ?side3 ?side4 A9.out).mono ?_
 (case side1 => exact rc_ HO516)
 (case side2 => exact (Kd.R_reads' HO516.out).2.1)
 (case side3 => exact rc_ HO519)
 (case side4 => exact (Kd.R_reads' HO519.out).2.1)
 rintro e w' ⟨rfl, ⟨nd, rfl⟩⟩
 refine ⟨_, rfl, ?_⟩
 refine hK.out _ _ ⟨bq5_ BK510 0, bq5_ BK511 0⟩ (fun hHeld => ?_)
 clear hK K
 refine nz_ 18 ?_
 refine pz_ 14 19 ba23_15 HT_ ?_
 refine pz_ 15 4 ba23_16 HT_ ?_
 refine done_ (done_of HT_.out (by kernel_rfl)) ?_
 go_wp2
 go_ret
 exact ⟨by first | rfl | (simp [errW_none, errW_some] <;> rfl) | (simp [*, errW_none, errW_some] <;> rfl), bw112_⟩

/-! ### spec_l02SamePaint: function 65 -/
def spec_l02SamePaint.l0 : Nat → List Int → List Int → Int → Option (Bool)
 | 0, _, _, _ => none
 | k + 1, x0, x1, x5 => if x5 < 65536 then (if 0 ≤ x5 then (if x5 < (x0.length : Int) then (if x5 < (x1.length : Int) then (if (rd x0 x5) = (rd x1 x5) then (spec_l02SamePaint.l0 k x0 x1 (wrap64 (x5 + 1))) else (some false)) else (none)) else (none)) else (none)) else (some true)
def spec_l02SamePaint.f (k : Nat) (l0 : List Int) (l1 : List Int) : Option (Bool) := spec_l02SamePaint.l0 k l0 l1 0
set_option maxHeartbeats 8000000 in
set_option maxRecDepth 100000 in
theorem spec_l02SamePaint.calls (k : Nat) (A0 : Option Addr) (c0 : Nat) (l0 : List Int) (A1 : Option Addr) (c1 : Nat) (l1 : List Int) (r : Bool) (w : World) (hr0 : Kd.C (Kd.int .i64) w A0 l0.length l0) (hc0 : l0.length ≤ c0) (hr1 : Kd.C (Kd.int .i64) w A1 l1.length l1) (hc1 : l1.length ≤ c1) (h : spec_l02SamePaint.f k l0 l1 = some r) :
  Calls Try.prog 65 #[.slice A0 l0.length c0, .slice A1 l1.length c1] w fun e w' => e = .returned (.bool r) ∧ Drawn0 w w' := by
 have HR0 := Aside0.mk hr0
 have HC0 := Aside0.mk hc0
 clear hr0 hc0
 have HR1 := Aside0.mk hr1
 have HC1 := Aside0.mk hc1
 clear hr1 hc1
 have H : (spec_l02SamePaint.l0 k l0 l1 0) = some r := h
 clear h
 have H' := Aside0.mk H
 clear H
 go_enter Try.func65, Try.ntmps65
 go_wp2
 repeat (go_quiet (fail); try go_wp2)
 go_loopg [5] k (fun kq v5 w' => ∃ (x5_1 : Int), v5 = .int .i64 x5_1 ∧ Aside0 (spec_l02SamePaint.l0 kq l0 l1 x5_1 = some r) ∧ Aside0 (kq ≤ k) ∧ Drawn0 w w')
 case atStart => exact ⟨(0), er_, H', ⟨Nat.le_refl _⟩, by repeat (first | exact Drawn0.refl _ | apply Drawn0.step)⟩
 case round =>
  clear H'
  obtain ⟨x5_1, rfl, HA, HK1, ⟨m1, rfl⟩⟩ := hrel
  cases gk with
  | zero => exact absurd HA.out (by simp [spec_l02SamePaint.l0])
  | succ k1 =>
   have H := HA.out
   clear HA
   simp only [spec_l02SamePaint.l0] at H
   by_cases c3 : x5_1 < 65536
   rotate_left
   ·rw [if_neg c3] at H
    have c3b0 : decide (x5_1 < 65536) = false := decide_eq_false c3
    clear c3
    obtain rfl := Option.some.inj H
    go_wp2
    repeat (go_quiet (fail); try go_wp2)
    go_ret
    exact ⟨by first | rfl | (simp; done) | (simp [*]; done), by repeat (first | exact Drawn0.refl _ | apply Drawn0.step)⟩
   rw [if_pos c3] at H
   have c3b0 : decide (x5_1 < 65536) = true := decide_eq_true c3
   clear c3
   obtain ⟨c4b0, H⟩ := iq_ H
   obtain ⟨c5b0, H⟩ := iq_ H
   obtain ⟨c6b0, H⟩ := iq_ H
   by_cases c7 : (rd l0 x5_1) = (rd l1 x5_1)
   rotate_left
   ·rw [if_neg c7] at H
    have c7b0 : ((rd l0 x5_1) == (rd l1 x5_1)) = false := beq_eq_false_iff_ne.mpr c7
    have c7b1 : ((rd l0 x5_1) != (rd l1 x5_1)) = true := bne_iff_ne.mpr c7
    obtain rfl := Option.some.inj H
    have p521 : 0 ≤ (x5_1 : Int) := oa_
    have q521 : x5_1 < (l0.length : Int) := oa_
    obtain ⟨ad521, e521, hx521_0⟩ := Kd.at_int HR0.out x5_1 p521 q521
    cases e521
    obtain ⟨p521, q521⟩ := et_ p521 q521
    have p522 : 0 ≤ (x5_1 : Int) := oa_
    have q522 : x5_1 < (l1.length : Int) := oa_
    obtain ⟨ad522, e522, hx522_0⟩ := Kd.at_int HR1.out x5_1 p522 q522
    cases e522
    obtain ⟨p522, q522⟩ := et_ p522 q522
    go_wp2
    repeat (go_quiet (fail); try go_wp2)
    go_ret
    exact ⟨by first | rfl | (simp; done) | (simp [*]; done), by repeat (first | exact Drawn0.refl _ | apply Drawn0.step)⟩
   rw [if_pos c7] at H
   have c7b0 : ((rd l0 x5_1) == (rd l1 x5_1)) = true := beq_iff_eq.mpr c7
   have c7b1 : ((rd l0 x5_1) != (rd l1 x5_1)) = false := bne_eq_false_iff_eq.mpr c7
   clear c7
   have H' := Aside0.mk H
   clear H
   have p521 : 0 ≤ (x5_1 : Int) := oa_
   have q521 : x5_1 < (l0.length : Int) := oa_
   obtain ⟨ad521, e521, hx521_0⟩ := Kd.at_int HR0.out x5_1 p521 q521
   cases e521
   obtain ⟨p521, q521⟩ := et_ p521 q521
   have p522 : 0 ≤ (x5_1 : Int) := oa_
   have q522 : x5_1 < (l1.length : Int) := oa_
   obtain ⟨ad522, e522, hx522_0⟩ := Kd.at_int HR1.out x5_1 p522 q522
   cases e522
   obtain ⟨p522, q522⟩ := et_ p522 q522
   go_wp2
   repeat (go_quiet (fail); try go_wp2)
   go_roundg k1
   case measure => have := HK1.out; omega
   case rel => exact ⟨(wrap64 (x5_1 + 1)), er_, H', ⟨by have := HK1.out; omega⟩, by repeat (first | exact Drawn0.refl _ | apply Drawn0.step)⟩

end Go.Proofs.Ytjepmdngbafonaa.QFnSqueezed
