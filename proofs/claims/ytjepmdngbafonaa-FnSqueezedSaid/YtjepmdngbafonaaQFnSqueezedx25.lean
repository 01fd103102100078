/- Contracts of functions that the law reaches: what each call returns and what it leaves in memory. Made by this session over the print of the kit. -/
import Derived.Test.YtjepmdngbafonaaQFnSqueezedx0
import Derived.Test.YtjepmdngbafonaaQFnSqueezedx6
import Derived.Test.YtjepmdngbafonaaQFnSqueezedx7
import Derived.Test.YtjepmdngbafonaaQFnSqueezedx23
import Derived.Test.YtjepmdngbafonaaQFnSqueezedx24
import Derived.Test.YtjepmdngbafonaaQFnSqueezedx4
import Derived.Test.YtjepmdngbafonaaQFnSqueezedx22
namespace Go.Proofs.Ytjepmdngbafonaa.QFnSqueezed
open Go.RowKit Go.Proofs.YtjepmdngbafonaaZ.PrintWords Go.Proofs.YtjepmdngbafonaaZ.PrintLast Go.Proofs.YtjepmdngbafonaaZ.PrintMore
attribute [local go_sem] max2_int min2_int max_two min_two max_three min_three max_four min_four   -- for this text's walks alone
set_option linter.unusedVariables false
set_option linter.unusedSimpArgs false
def ba25_0 := bs_ 14 0
def ba25_1 := bs_ 14 1
def ba25_2 := bs_ 14 3
def ba25_3 := bs_ 14 7
def ba25_4 := bs_ 14 15
def ba25_5 := bs_ 14 31
def ba25_6 := bs_ 14 63
def ba25_7 := bs_ 14 127
def ba25_8 := bs_ 14 255
def ba25_9 := bs_ 14 767
def ba25_10 := bs_ 14 1023
def ba25_11 := bs_ 14 2047
def ba25_12 := bs_ 14 4095
def ba25_13 := bs_ 14 8191
def ba25_14 := bs_ 14 16383
def ba25_15 := bs_ 14 511

/-! ### spec_SameTable: function 22 -/
def spec_SameTable.f (k : Nat) (l0_0 : List (S30)) (l1_0 : List (S30)) : Option (Bool) := (spec_TableOk.f k l0_0).bind fun t535 => (if t535 = true then ((spec_TableOk.f k l1_0).bind fun t536 => (if t536 = true then ((spec_l02Paint.f k l0_0).bind fun t537 => ((spec_l02Paint.f k l1_0).bind fun t540 => ((spec_l02SamePaint.f k t537 t540).bind fun t543 => (some t543)))) else (some false))) else (some false))
def spec_SameTable.T1 : Bool × List (List Nat × List Nat) := (true, [([], []), ([0], [0]), ([1, 1], [1]), ([2], [2]), ([3, 2, 2], [2, 3]), ([2, 4], [2, 4]), ([5, 4], [5]), ([6], [6]), ([7, 6, 6], [6, 7]), ([6], [6]), ([9, 8, 6], [6, 9]), ([8, 10, 10, 6], [6, 8, 10]), ([6, 11], [6, 11]), ([12, 11, 0, 1, 2, 3, 4, 5, 6, 7, 8, 9, 10, 11, 12], [12])])
def spec_SameTable.B1 : List Nat := [0, 1, 3, 7, 15, 31, 63, 127, 255, 127, 1023, 2047, 4095, 8191]
theorem spec_SameTable.tab1 : rtab .any (opsOf Try.f22 1) = spec_SameTable.T1 := by kernel_rfl
theorem spec_SameTable.bits1 : waitsOk spec_SameTable.T1.2 spec_SameTable.B1 = true := by kernel_rfl
set_option maxHeartbeats 8000000 in
set_option maxRecDepth 100000 in
theorem spec_SameTable.calls (k : Nat) (A0_0 : Option Addr) (c0_0 : Nat) (l0_0 : List (S30)) (A1_0 : Option Addr) (c1_0 : Nat) (l1_0 : List (S30)) (r : Bool) (w : World) (hr0_0 : Kd.C k30 w A0_0 l0_0.length l0_0) (hc0_0 : l0_0.length ≤ c0_0) (hr1_0 : Kd.C k30 w A1_0 l1_0.length l1_0) (hc1_0 : l1_0.length ≤ c1_0) (h : spec_SameTable.f k l0_0 l1_0 = some r) :
  Calls Try.prog 22 #[.agg #[.slice A0_0 l0_0.length c0_0], .agg #[.slice A1_0 l1_0.length c1_0]] w fun e w' => e = .returned (.bool r) ∧ Below w.heap.size w w' := by
 have hu26 := Try.underlying26
 have HR0_0 := Aside0.mk hr0_0
 have HC0_0 := Aside0.mk hc0_0
 clear hr0_0 hc0_0
 have HR1_0 := Aside0.mk hr1_0
 have HC1_0 := Aside0.mk hc1_0
 clear hr1_0 hc1_0
 have HB := Aside0.mk (Below.refl w.heap.size w)
 have H : ((spec_TableOk.f k l0_0).bind fun t535 => (if t535 = true then ((spec_TableOk.f k l1_0).bind fun t536 => (if t536 = true then ((spec_l02Paint.f k l0_0).bind fun t537 => ((spec_l02Paint.f k l1_0).bind fun t540 => ((spec_l02SamePaint.f k t537 t540).bind fun t543 => (some t543)))) else (some false))) else (some false))) = some r := h
 clear h
 obtain ⟨t535, A3, H⟩ := ob_ H
 have Hh_ := Aside0.mk H
 clear H
 go_enter Try.func22, Try.ntmps22
 try go_wp2_with (first | ((with_reducible refine gate_dst (N := 2) rfl ?_); refine be_ 2 #[.slice A0_0 l0_0.length c0_0] 26 ?_; intro gb533 hg w10 BK533 hb; have GW533 := ge_ HB hg; have GE533 := ge_ HB hg; replace HB := at_ HB hb; clear hb hg) | ((with_reducible refine gate_dst (N := 3) rfl ?_); refine be_ 3 #[.slice A1_0 l1_0.length c1_0] 26 ?_; intro gb534 hg w11 BK534 hb; have GW534 := ge_ HB hg; have GE534 := ge_ HB hg; have NB533_534 := nl_ BK533 hg; have NB534_533 := ng_ BK533 hg; replace HB := at_ HB hb; replace BK533 := ab_ BK533 hb; clear hb hg))
 replace BK533 := ad_ BK533
 replace BK534 := ad_ BK534
 replace HB := Aside0.mk (below_drew1 HB.out)
 have H := Hh_.out
 clear Hh_
 by_cases c4 : t535 = true
 rotate_left
 ·replace c4 := Bool.eq_false_iff.mpr c4
  subst c4
  rw [if_neg (show ¬ (false = true) by decide)] at H
  obtain rfl := Option.some.inj H
  refine start_ (n := 14) (S := fun w' => w'.cell? ⟨gb533, 0, none⟩ = some (.slice A0_0 l0_0.length c0_0)) (ds := []) ba25_0 (by kernel_rfl) rfl rfl (bq5_ BK533 0) (fun hHeld => ?_); refine with_tabW spec_SameTable.tab1 spec_SameTable.bits1 (fun HT_ HW_ => ?_)
  generalize w11.drew = w26 at BK533 BK534 HB hHeld ⊢
  refine take_ (i := 0) (N := some 5) (v := ?_) (a' := ?_) ba25_1 rfl rfl (take_ofW HT_.out HW_.out (by kernel_rfl)) (fun _ _ _ h => h) (Or.inl ⟨by rfl, ?_⟩) hHeld ?_ ?_
  rotate_left; · intro w' s0; go_simp; with_reducible rfl
  rotate_left; · simp only [Act.put, List.setIfInBounds_toArray, List.set_cons_zero, List.set_cons_succ, i64_w, i32_w]; rfl
  refine on_ 1 (some 6) ba25_2 HT_ (fun K hK => ?_)
  refine gz_ Try.func19 #[.agg #[.slice A0_0 l0_0.length c0_0]] ?_
  with_reducible refine (spec_TableOk.calls k _ _ l0_0 false _ ?side1 ?side2 A3.out).mono ?_
  (case side1 => exact cb_ HR0_0 HB)
  (case side2 => exact HC0_0.out)
  rintro e w27 ⟨rfl, hb⟩
  refine ⟨_, rfl, ?_⟩
  replace BK533 := ab_ BK533 hb
  replace BK534 := ab_ BK534 hb
  replace HB := at_ HB hb
  clear hb
  refine hK.out _ _ (bq5_ BK533 0) (fun hHeld => ?_)
  clear hK K
  refine nz_ 6 ?_
  refine pz_ 2 7 ba25_3 HT_ ?_
  refine pu_ 3 8 ba25_4 HT_ ?_
  refine pu_ 4 9 ba25_5 HT_ ?_
  refine pz_ 5 10 ba25_6 HT_ ?_
  refine pz_ 6 11 ba25_7 HT_ ?_
  refine pu_ 7 12 ba25_8 HT_ ?_
  refine pu_ 8 13 ba25_15 HT_ ?_
  refine pu_ 9 14 ba25_10 HT_ ?_
  refine pu_ 10 15 ba25_11 HT_ ?_
  refine pu_ 11 16 ba25_12 HT_ ?_
  refine pz_ 12 17 ba25_13 HT_ ?_
  refine pz_ 13 4 ba25_14 HT_ ?_
  refine done_ (done_of HT_.out (by kernel_rfl)) ?_
  go_wp2
  go_ret
  exact ⟨by first | rfl | (simp [errW_none, errW_some] <;> rfl) | (simp [*, errW_none, errW_some] <;> rfl), bw112_⟩
 subst c4
 rw [if_pos rfl] at H
 obtain ⟨t536, A5, H⟩ := ob_ H
 have Hh_ := Aside0.mk H
 clear H
 refine start_ (n := 14) (S := fun w' => w'.cell? ⟨gb533, 0, none⟩ = some (.slice A0_0 l0_0.length c0_0) ∧ w'.cell? ⟨gb534, 0, none⟩ = some (.slice A1_0 l1_0.length c1_0)) (ds := []) ba25_0 (by kernel_rfl) rfl rfl ⟨bq5_ BK533 0, bq5_ BK534 0⟩ (fun hHeld => ?_); refine with_tabW spec_SameTable.tab1 spec_SameTable.bits1 (fun HT_ HW_ => ?_)
 generalize w11.drew = w12 at BK533 BK534 HB hHeld ⊢
 refine pt_ 0 5 ba25_1 HT_ HW_ hHeld ?_
 refine on_ 1 (some 6) ba25_2 HT_ (fun K hK => ?_)
 refine gz_ Try.func19 #[.agg #[.slice A0_0 l0_0.length c0_0]] ?_
 with_reducible refine (spec_TableOk.calls k _ _ l0_0 true _ ?side1 ?side2 A3.out).mono ?_
 (case side1 => exact cb_ HR0_0 HB)
 (case side2 => exact HC0_0.out)
 rintro e w13 ⟨rfl, hb⟩
 refine ⟨_, rfl, ?_⟩
 replace BK533 := ab_ BK533 hb
 replace BK534 := ab_ BK534 hb
 replace HB := at_ HB hb
 clear hb
 refine hK.out _ _ ⟨bq5_ BK533 0, bq5_ BK534 0⟩ (fun hHeld => ?_)
 clear hK K
 refine nz_ 6 ?_
 refine pz_ 2 7 ba25_3 HT_ ?_
 refine pt_ 3 8 ba25_4 HT_ HW_ hHeld ?_
 refine on_ 4 (some 9) ba25_5 HT_ (fun K hK => ?_)
 refine gz_ Try.func19 #[.agg #[.slice A1_0 l1_0.length c1_0]] ?_
 with_reducible refine (spec_TableOk.calls k _ _ l1_0 t536 _ ?side1 ?side2 A5.out).mono ?_
 (case side1 => exact cb_ HR1_0 HB)
 (case side2 => exact HC1_0.out)
 rintro e w14 ⟨rfl, hb⟩
 refine ⟨_, rfl, ?_⟩
 replace BK533 := ab_ BK533 hb
 replace BK534 := ab_ BK534 hb
 replace HB := at_ HB hb
 clear hb
 refine hK.out _ _ ⟨bq5_ BK533 0, bq5_ BK534 0⟩ (fun hHeld => ?_)
 clear hK K
 refine nz_ 9 ?_
 have H := Hh_.out
 clear Hh_
 by_cases c6 : t536 = true
 rotate_left
 ·replace c6 := Bool.eq_false_iff.mpr c6
  subst c6
  rw [if_neg (show ¬ (false = true) by decide)] at H
  obtain rfl := Option.some.inj H
  refine pz_ 5 10 ba25_6 HT_ ?_
  refine pz_ 6 11 ba25_7 HT_ ?_
  refine pu_ 7 12 ba25_8 HT_ ?_
  refine pu_ 8 13 ba25_15 HT_ ?_
  refine pu_ 9 14 ba25_10 HT_ ?_
  refine pu_ 10 15 ba25_11 HT_ ?_
  refine pu_ 11 16 ba25_12 HT_ ?_
  refine pz_ 12 17 ba25_13 HT_ ?_
  refine pz_ 13 4 ba25_14 HT_ ?_
  refine done_ (done_of HT_.out (by kernel_rfl)) ?_
  go_wp2
  go_ret
  exact ⟨by first | rfl | (simp [errW_none, errW_some] <;> rfl) | (simp [*, errW_none, errW_some] <;> rfl), bw112_⟩
 subst c6
 rw [if_pos rfl] at H
 obtain ⟨t537, A7, H⟩ := ob_ H
 obtain ⟨t540, A8, H⟩ := ob_ H
 obtain ⟨t543, A9, H⟩ := ob_ H
 obtain rfl := Option.some.inj H
 refine pz_ 5 10 ba25_6 HT_ ?_
 refine pz_ 6 11 ba25_7 HT_ ?_
 refine pt_ 7 12 ba25_8 HT_ HW_ hHeld ?_
 refine pt_ 9 14 ba25_9 HT_ HW_ hHeld ?_
 refine on_ 8 (some 13) ba25_10 HT_ (fun K hK => ?_)
 refine gz_ Try.func66 #[.agg #[.slice A0_0 l0_0.length c0_0]] ?_
 with_reducible refine (spec_l02Paint.calls k _ _ l0_0 t537 _ ?side1 ?side2 A7.out).mono ?_
 (case side1 => exact cb_ HR0_0 HB)
 (case side2 => exact HC0_0.out)
 rintro e w15 ⟨v538, rfl, ho0, hb⟩
 refine ⟨_, rfl, ?_⟩
 have HO539 := Aside0.mk (Kd.R_lower ho0 (bz_ HB))
 replace BK533 := ab_ BK533 hb
 replace BK534 := ab_ BK534 hb
 replace HB := at_ HB hb
 clear hb ho0
 refine hK.out _ _ ⟨bq5_ BK533 0, bq5_ BK534 0⟩ (fun hHeld => ?_)
 clear hK K
 refine nz_ 13 ?_
 refine on_ 10 (some 15) ba25_11 HT_ (fun K hK => ?_)
 refine gz_ Try.func66 #[.agg #[.slice A1_0 l1_0.length c1_0]] ?_
 with_reducible refine (spec_l02Paint.calls k _ _ l1_0 t540 _ ?side1 ?side2 A8.out).mono ?_
 (case side1 => exact cb_ HR1_0 HB)
 (case side2 => exact HC1_0.out)
 rintro e w16 ⟨v541, rfl, ho0, hb⟩
 refine ⟨_, rfl, ?_⟩
 have HO542 := Aside0.mk (Kd.R_lower (Kd.R_new' ho0 (Kd.R_lt (hd_ HO539))) (bz_ HB))
 replace HO539 := Aside0.mk (Kd.R_elder' (hd_ HO539) (Kd.R_base ho0) hb)
 replace BK533 := ab_ BK533 hb
 replace BK534 := ab_ BK534 hb
 replace HB := at_ HB hb
 clear hb ho0
 obtain ⟨Ao17, co17, eo17⟩ := Kd.R_slice HO539.out
 subst eo17
 obtain ⟨Ao18, co18, eo18⟩ := Kd.R_slice HO542.out
 subst eo18
 refine hK.out _ _ ⟨bq5_ BK533 0, bq5_ BK534 0⟩ (fun hHeld => ?_)
 clear hK K
 refine nz_ 15 ?_
 refine on_ 11 (some 16) ba25_12 HT_ (fun K hK => ?_)
 refine gz_ Try.func65 #[.slice Ao17 t537.length co17, .slice Ao18 t540.length co18] ?_
 with_reducible refine (spec_l02SamePaint.calls k _ _ t537 _ _ t540 t543 _ ?side1 ?side2 ?side3 ?side4 A9.out).mono ?_
 (case side1 => exact rc_ HO539)
 (case side2 => exact (Kd.R_reads' HO539.out).2.1)
 (case side3 => exact rc_ HO542)
 (case side4 => exact (Kd.R_reads' HO542.out).2.1)
 rintro e w' ⟨rfl, ⟨nd, rfl⟩⟩
 refine ⟨_, rfl, ?_⟩
 refine hK.out _ _ ⟨bq5_ BK533 0, bq5_ BK534 0⟩ (fun hHeld => ?_)
 clear hK K
 refine nz_ 16 ?_
 refine pz_ 12 17 ba25_13 HT_ ?_
 refine pz_ 13 4 ba25_14 HT_ ?_
 refine done_ (done_of HT_.out (by kernel_rfl)) ?_
 go_wp2
 go_ret
 exact ⟨by first | rfl | (simp [errW_none, errW_some] <;> rfl) | (simp [*, errW_none, errW_some] <;> rfl), bw112_⟩

/-! ### laws_same: function 23 -/
def laws_same.l0 : Nat → List Int → List Int → Int → Option (Bool)
 | 0, _, _, _ => none
 | k + 1, x0, x1, x5 => if x5 < (x0.length : Int) then (if 0 ≤ x5 then (if x5 < (x1.length : Int) then (if (rd x0 x5) = (rd x1 x5) then (laws_same.l0 k x0 x1 (wrap64 (x5 + 1))) else (some false)) else (none)) else (none)) else (some true)
def laws_same.f (k : Nat) (l0 : List Int) (l1 : List Int) : Option (Bool) := if (l0.length : Int) = (l1.length : Int) then (laws_same.l0 k l0 l1 0) else (some false)
set_option maxHeartbeats 8000000 in
set_option maxRecDepth 100000 in
theorem laws_same.calls (k : Nat) (A0 : Option Addr) (c0 : Nat) (l0 : List Int) (A1 : Option Addr) (c1 : Nat) (l1 : List Int) (r : Bool) (w : World) (hr0 : Kd.C (Kd.int .i64) w A0 l0.length l0) (hc0 : l0.length ≤ c0) (hr1 : Kd.C (Kd.int .i64) w A1 l1.length l1) (hc1 : l1.length ≤ c1) (h : laws_same.f k l0 l1 = some r) :
  Calls Try.prog 23 #[.slice A0 l0.length c0, .slice A1 l1.length c1] w fun e w' => e = .returned (.bool r) ∧ Drawn0 w w' := by
 have HR0 := Aside0.mk hr0
 have HC0 := Aside0.mk hc0
 clear hr0 hc0
 have HR1 := Aside0.mk hr1
 have HC1 := Aside0.mk hc1
 clear hr1 hc1
 have H : (if (l0.length : Int) = (l1.length : Int) then (laws_same.l0 k l0 l1 0) else (some false)) = some r := h
 clear h
 by_cases c3 : (l0.length : Int) = (l1.length : Int)
 rotate_left
 ·rw [if_neg c3] at H
  have c3b0 : ((l0.length : Int) == (l1.length : Int)) = false := beq_eq_false_iff_ne.mpr c3
  have c3b1 : ((l0.length : Int) != (l1.length : Int)) = true := bne_iff_ne.mpr c3
  have c3b2 : (l0.length == l1.length) = false := by first | simpa using c3 | (simp at c3 ⊢; omega)
  obtain rfl := Option.some.inj H
  go_enter Try.func23, Try.ntmps23
  go_wp2
  repeat (go_quiet (fail); try go_wp2)
  go_ret
  exact ⟨by first | rfl | (simp; done) | (simp [*]; done), by repeat (first | exact Drawn0.refl _ | apply Drawn0.step)⟩
 rw [if_pos c3] at H
 have c3b0 : ((l0.length : Int) == (l1.length : Int)) = true := beq_iff_eq.mpr c3
 have c3b1 : ((l0.length : Int) != (l1.length : Int)) = false := bne_eq_false_iff_eq.mpr c3
 have c3b2 : (l0.length == l1.length) = true := by first | simpa using c3 | (simp at c3 ⊢; omega)
 clear c3
 have H' := Aside0.mk H
 clear H
 go_enter Try.func23, Try.ntmps23
 go_wp2
 repeat (go_quiet (fail); try go_wp2)
 go_loopg [5] k (fun kq v5 w' => ∃ (x5_1 : Int), v5 = .int .i64 x5_1 ∧ Aside0 (laws_same.l0 kq l0 l1 x5_1 = some r) ∧ Aside0 (kq ≤ k) ∧ Drawn0 w w')
 case atStart => exact ⟨(0), er_, H', ⟨Nat.le_refl _⟩, by repeat (first | exact Drawn0.refl _ | apply Drawn0.step)⟩
 case round =>
  clear H' c3b0 c3b1 c3b2
  obtain ⟨x5_1, rfl, HA, HK1, ⟨m1, rfl⟩⟩ := hrel
  cases gk with
  | zero => exact absurd HA.out (by simp [laws_same.l0])
  | succ k1 =>
   have H := HA.out
   clear HA
   simp only [laws_same.l0] at H
   by_cases c4 : x5_1 < (l0.length : Int)
   rotate_left
   ·rw [if_neg c4] at H
    have c4b0 : decide (x5_1 < (l0.length : Int)) = false := decide_eq_false c4
    clear c4
    obtain rfl := Option.some.inj H
    go_wp2
    repeat (go_quiet (fail); try go_wp2)
    go_ret
    exact ⟨by first | rfl | (simp; done) | (simp [*]; done), by repeat (first | exact Drawn0.refl _ | apply Drawn0.step)⟩
   rw [if_pos c4] at H
   have c4b0 : decide (x5_1 < (l0.length : Int)) = true := decide_eq_true c4
   clear c4
   obtain ⟨c5b0, H⟩ := iq_ H
   obtain ⟨c6b0, H⟩ := iq_ H
   by_cases c7 : (rd l0 x5_1) = (rd l1 x5_1)
   rotate_left
   ·rw [if_neg c7] at H
    have c7b0 : ((rd l0 x5_1) == (rd l1 x5_1)) = false := beq_eq_false_iff_ne.mpr c7
    have c7b1 : ((rd l0 x5_1) != (rd l1 x5_1)) = true := bne_iff_ne.mpr c7
    obtain rfl := Option.some.inj H
    have p544 : 0 ≤ (x5_1 : Int) := oa_
    have q544 : x5_1 < (l0.length : Int) := oa_
    obtain ⟨ad544, e544, hx544_0⟩ := Kd.at_int HR0.out x5_1 p544 q544
    cases e544
    obtain ⟨p544, q544⟩ := et_ p544 q544
    have p545 : 0 ≤ (x5_1 : Int) := oa_
    have q545 : x5_1 < (l1.length : Int) := oa_
    obtain ⟨ad545, e545, hx545_0⟩ := Kd.at_int HR1.out x5_1 p545 q545
    cases e545
    obtain ⟨p545, q545⟩ := et_ p545 q545
    go_wp2
    repeat (go_quiet (fail); try go_wp2)
    go_ret
    exact ⟨by first | rfl | (simp; done) | (simp [*]; done), by repeat (first | exact Drawn0.refl _ | apply Drawn0.step)⟩
   rw [if_pos c7] at H
   have c7b0 : ((rd l0 x5_1) == (rd l1 x5_1)) = true := beq_iff_eq.mpr c7
   have c7b1 : ((rd l0 x5_1) != (rd l1 x5_1)) = false := bne_eq_false_iff_eq.mpr c7
   clear c7
   have H' := Aside0.mk H
   clear H
   have p544 : 0 ≤ (x5_1 : Int) := oa_
   have q544 : x5_1 < (l0.length : Int) := oa_
   obtain ⟨ad544, e544, hx544_0⟩ := Kd.at_int HR0.out x5_1 p544 q544
   cases e544
   obtain ⟨p544, q544⟩ := et_ p544 q544
   have p545 : 0 ≤ (x5_1 : Int) := oa_
   have q545 : x5_1 < (l1.length : Int) := oa_
   obtain ⟨ad545, e545, hx545_0⟩ := Kd.at_int HR1.out x5_1 p545 q545
   cases e545
   obtain ⟨p545, q545⟩ := et_ p545 q545
   go_wp2
   repeat (go_quiet (fail); try go_wp2)
   go_roundg k1
   case measure => have := HK1.out; omega
   case rel => exact ⟨(wrap64 (x5_1 + 1)), er_, H', ⟨by have := HK1.out; omega⟩, by repeat (first | exact Drawn0.refl _ | apply Drawn0.step)⟩

/-! ### impl_TableSpans: function 24 -/
def impl_TableSpans.l0 : Nat → List Int → List Int → Int → Option (List Int)
 | 0, _, _, _ => none
 | k + 1, x3, x4, x5 => if x5 < (x3.length : Int) then (if 0 ≤ x5 then (if 0 ≤ (wrap64 (x5 - 1)) then (if (wrap64 (x5 - 1)) < (x3.length : Int) then (if (rd x3 x5) = (rd x3 (wrap64 (x5 - 1))) then (impl_TableSpans.l0 k x3 x4 (wrap64 (x5 + 1))) else (if x4.length < 17592186044416 then (impl_TableSpans.l0 k x3 (x4 ++ [x5]) (wrap64 (x5 + 1))) else (none))) else (none)) else (none)) else (none)) else (some x4)
def impl_TableSpans.f (k : Nat) (l0_0 : List (S30)) : Option (List Int) := (impl_TableOk.f k l0_0).bind fun t547 => (if t547 = true then ((impl_hopsOf.f k l0_0).bind fun t548 => (impl_TableSpans.l0 k t548 (([0] : List Int)) 1)) else (some ([] : List Int)))
set_option maxHeartbeats 8000000 in
set_option maxRecDepth 100000 in
theorem impl_TableSpans.calls (k : Nat) (A0_0 : Option Addr) (c0_0 : Nat) (l0_0 : List (S30)) (r : List Int) (w : World) (hr0_0 : Kd.C k30 w A0_0 l0_0.length l0_0) (hc0_0 : l0_0.length ≤ c0_0) (h : impl_TableSpans.f k l0_0 = some r) :
  Calls Try.prog 24 #[.agg #[.slice A0_0 l0_0.length c0_0]] w fun e w' => ∃ v0_ : Value, e = .returned (v0_) ∧ Kd.R (Kd.int .i64) 3 w' w.heap.size (fun _ => True) v0_ r ∧ Below w.heap.size w w' := by
 have hu26 := Try.underlying26
 have HR0_0 := Aside0.mk hr0_0
 have HC0_0 := Aside0.mk hc0_0
 clear hr0_0 hc0_0
 have HB := Aside0.mk (Below.refl w.heap.size w)
 have H : ((impl_TableOk.f k l0_0).bind fun t547 => (if t547 = true then ((impl_hopsOf.f k l0_0).bind fun t548 => (impl_TableSpans.l0 k t548 (([0] : List Int)) 1)) else (some ([] : List Int)))) = some r := h
 clear h
 obtain ⟨t547, A2, H⟩ := ob_ H
 by_cases c3 : t547 = true
 rotate_left
 ·replace c3 := Bool.eq_false_iff.mpr c3
  subst c3
  rw [if_neg (show ¬ (false = true) by decide)] at H
  obtain rfl := Option.some.inj H
  go_enter Try.func24, Try.ntmps24
  go_wp2_with (first | ((with_reducible refine gate_dst (N := 1) rfl ?_); refine be_ 1 #[.slice A0_0 l0_0.length c0_0] 26 ?_; intro gb546 hg w23 BK546 hb; have GW546 := ge_ HB hg; have GE546 := ge_ HB hg; replace HB := at_ HB hb; clear hb hg; have hcz24_0 := cz_ BK546 0 (.slice A0_0 l0_0.length c0_0); have hfz24_0 := fz_ BK546 0) | (go_at_call 48; (with_reducible refine (impl_TableOk.calls k _ _ l0_0 false _ ?side1 ?side2 A2.out).mono ?_); (case side1 => exact cb_ HR0_0 HB); (case side2 => exact HC0_0.out); rintro e w25 ⟨rfl, hb⟩; replace BK546 := ab_ BK546 hb; replace HB := at_ HB hb; clear hb))
  go_ret
  exact ⟨_, by first | rfl | (simp [errW_none, errW_some] <;> rfl) | (simp [*, errW_none, errW_some] <;> rfl), by first | exact Kd.R_nil _ _ _ _ _ | exact Kd.N_nil _ _ _ _ _ | exact Kd.V_nil _ _ _ _ _ | exact Kd.Q_nil _ _ _ _ _ | exact Kd.S_nil _ _ _ _ _, bw112_⟩
 subst c3
 rw [if_pos rfl] at H
 obtain ⟨t548, A4, H⟩ := ob_ H
 obtain ⟨y551, hy551⟩ : ∃ y_ : List Int, y_ = (([0] : List Int)) := ⟨_, rfl⟩
 replace H : (impl_TableSpans.l0 k t548 y551 1) = some r := by first | (rw [hy551]; with_reducible exact H) | (have H2_ := (Option.bind_some _ _).symm.trans H; rw [hy551]; with_reducible exact H2_) | (have H2_ := (Option.bind_some _ _).symm.trans H; with_reducible exact H2_) | with_reducible exact H | (rw [hy551]; exact H) | exact H
 have Ny551 := Aside0.mk hy551
 clear hy551
 have H' := Aside0.mk H
 clear H
 go_enter Try.func24, Try.ntmps24
 go_wp2_with (first | ((with_reducible refine gate_dst (N := 1) rfl ?_); refine be_ 1 #[.slice A0_0 l0_0.length c0_0] 26 ?_; intro gb546 hg w5 BK546 hb; have GW546 := ge_ HB hg; have GE546 := ge_ HB hg; replace HB := at_ HB hb; clear hb hg; have hcz6_0 := cz_ BK546 0 (.slice A0_0 l0_0.length c0_0); have hfz6_0 := fz_ BK546 0) | (go_at_call 48; (with_reducible refine (impl_TableOk.calls k _ _ l0_0 true _ ?side1 ?side2 A2.out).mono ?_); (case side1 => exact cb_ HR0_0 HB); (case side2 => exact HC0_0.out); rintro e w7 ⟨rfl, hb⟩; replace BK546 := ab_ BK546 hb; replace HB := at_ HB hb; clear hb; have hcz8_0 := cz_ BK546 0 (.slice A0_0 l0_0.length c0_0); have hfz8_0 := fz_ BK546 0) | (go_at_call 64; (with_reducible refine (impl_hopsOf.calls k _ _ l0_0 t548 _ ?side1 ?side2 A4.out).mono ?_); (case side1 => exact cb_ HR0_0 HB); (case side2 => exact HC0_0.out); rintro e w9 ⟨v549, rfl, ho0, hb⟩; have HO550 := Aside0.mk (Kd.R_lower ho0 (bz_ HB)); replace BK546 := ab_ BK546 hb; replace HB := at_ HB hb; clear hb ho0) | ((with_reducible refine gate_dst (N := 12) rfl ?_); refine Kd.R_lit (Kd.int .i64) _ 3 ?hg (N := 12) ?hd (xs := ([0] : List Int)) (inner := [.int .i64 0]) (ok := fun _ => True) (okp := fun _ => True) ?hr ?hp (fun _ hk => hk) trivial (Below.refl _ _) (Nat.le_refl _) (by simp) ?_; (case hd => rfl); (case hg => rfl); (case hr => first | (go_simp; done) | (go_simp; rfl)); (case hp => exact (Reps.one (show Kd.M (Kd.int .i64) _ _ _ 0 [.int .i64 0] from rfl) (Reps.none _ _))); intro v552 w10 ho11 hb hg_ hnew_; clear hg_ hnew_; (first | rw [← Ny551.out] at ho11 | (simp only [Int.reduceToNat] at ho11; rw [← Ny551.out] at ho11)); have HO553 := Aside0.mk (Kd.R_lower (Kd.R_new' ho11 (Kd.R_lt (hd_ HO550))) (bz_ HB)); replace HO550 := Aside0.mk (Kd.R_elder' (hd_ HO550) (Kd.R_base ho11) hb); replace BK546 := ab_ BK546 hb; replace HB := at_ HB hb; clear hb ho11))
 go_loopg [4, 5] k (fun kq v4 v5 w' => ∃ (x4_1 : List Int) (x5_1 : Int), v5 = .int .i64 x5_1 ∧ Aside0 (impl_TableSpans.l0 kq t548 x4_1 x5_1 = some r) ∧ Aside0 (kq ≤ k) ∧ Aside0 (Kd.R (Kd.int .i64) 3 w' w.heap.size (fun k_ => some k_ ≠ (v4 : Value).ownBlock) v549 t548) ∧ Aside0 (Kd.R (Kd.int .i64) 3 w' w.heap.size (fun k_ => some k_ ≠ (v549 : Value).ownBlock) v4 x4_1) ∧ Aside0 (w'.heap[gb546]? = some (.cells #[(.slice A0_0 l0_0.length c0_0)] 26 (0, 0))) ∧ Aside0 (Below w.heap.size w w'))
 case atStart => exact ⟨(y551), (1), er_, H', ⟨Nat.le_refl _⟩, ⟨by (with_reducible repeat (first | apply Kd.R_alloc | apply Kd.R_drewN | apply Kd.R_drew)); exact Kd.R_mono HO550.out (fun _ hk => hk.2)⟩, ⟨by (with_reducible repeat (first | apply Kd.R_alloc | apply Kd.R_drewN | apply Kd.R_drew)); exact Kd.R_mono HO553.out (fun _ hk => hk.2)⟩, ⟨bx_ BK546⟩, ⟨bw112_⟩⟩
 case round =>
  clear H' hcz6_0 hcz8_0 hfz6_0 hfz8_0
  obtain ⟨x4_1, x5_1, rfl, HA, HK1, HO_3, HO_4, BK546, HB⟩ := hrel
  cases gk with
  | zero => exact absurd HA.out (by simp [impl_TableSpans.l0])
  | succ k1 =>
   have H := HA.out
   clear HA
   simp only [impl_TableSpans.l0] at H
   by_cases c12 : x5_1 < (t548.length : Int)
   rotate_left
   ·rw [if_neg c12] at H
    have c12b0 : decide (x5_1 < (t548.length : Int)) = false := decide_eq_false c12
    clear c12
    obtain rfl := Option.some.inj H
    obtain ⟨Ao22, co22, eo22⟩ := Kd.R_slice HO_3.out
    subst eo22
    go_wp2
    repeat (go_quiet (fail); try go_wp2)
    go_ret
    exact ⟨_, by first | rfl | (simp [errW_none, errW_some] <;> rfl) | (simp [*, errW_none, errW_some] <;> rfl), by (with_reducible repeat (first | apply Kd.R_alloc | apply Kd.R_drewN | apply Kd.R_drew)); exact Kd.R_mono HO_4.out (fun _ hk => trivial), bw112_⟩
   rw [if_pos c12] at H
   have c12b0 : decide (x5_1 < (t548.length : Int)) = true := decide_eq_true c12
   clear c12
   obtain ⟨c13b0, H⟩ := iq_ H
   obtain ⟨ji14, hji14⟩ : ∃ j_ : Int, (wrap64 (x5_1 - 1)) = j_ := ⟨_, rfl⟩
   first | rw [hji14] at H | simp only [hji14] at H
   have hji14w : (IntKind.i64.wrap (x5_1 - 1)) = ji14 := (i64_w _).trans hji14
   obtain ⟨c15b0, H⟩ := iq_ H
   obtain ⟨c16b0, H⟩ := iq_ H
   by_cases c17 : (rd t548 x5_1) = (rd t548 (ji14))
   ·rw [if_pos c17] at H
    have c17b0 : ((rd t548 x5_1) == (rd t548 (ji14))) = true := beq_iff_eq.mpr c17
    have c17b1 : ((rd t548 x5_1) != (rd t548 (ji14))) = false := bne_eq_false_iff_eq.mpr c17
    clear c17
    have H' := Aside0.mk H
    clear H
    obtain ⟨Ao18, co18, eo18⟩ := Kd.R_slice HO_3.out
    subst eo18
    have p554 : 0 ≤ (x5_1 : Int) := oa_
    have q554 : x5_1 < (t548.length : Int) := oa_
    obtain ⟨ad554, e554, hx554_0⟩ := Kd.at_int (Kd.R_reads' HO_3.out).2.2 x5_1 p554 q554
    cases e554
    obtain ⟨p554, q554⟩ := et_ p554 q554
    have p555 : 0 ≤ ((ji14) : Int) := oa_
    have q555 : (ji14) < (t548.length : Int) := oa_
    obtain ⟨ad555, e555, hx555_0⟩ := Kd.at_int (Kd.R_reads' HO_3.out).2.2 (ji14) p555 q555
    obtain rfl : ad554 = ad555 := (by injection e555)
    obtain ⟨p555, q555⟩ := et_ p555 q555
    go_wp2
    repeat (go_quiet (fail); try go_wp2)
    go_roundg k1
    case measure => have := HK1.out; omega
    case rel => exact ⟨(x4_1), (wrap64 (x5_1 + 1)), er_, H', ⟨by have := HK1.out; omega⟩, ⟨hd_ HO_3⟩, ⟨hd_ HO_4⟩, ⟨bx_ BK546⟩, ⟨bw112_⟩⟩
   rw [if_neg c17] at H
   have c17b0 : ((rd t548 x5_1) == (rd t548 (ji14))) = false := beq_eq_false_iff_ne.mpr c17
   have c17b1 : ((rd t548 x5_1) != (rd t548 (ji14))) = true := bne_iff_ne.mpr c17
   by_cases c19 : x4_1.length < 17592186044416
   rotate_left
   ·rw [if_neg c19] at H
    exact absurd H (by simp)
   rw [if_pos c19] at H
   have LMc19 := Aside0.mk c19
   clear c19
   obtain ⟨y556, hy556⟩ : ∃ y_ : List Int, y_ = (x4_1 ++ [x5_1]) := ⟨_, rfl⟩
   replace H : (impl_TableSpans.l0 k1 t548 y556 (wrap64 (x5_1 + 1))) = some r := by first | (rw [hy556]; with_reducible exact H) | (have H2_ := (Option.bind_some _ _).symm.trans H; rw [hy556]; with_reducible exact H2_) | (have H2_ := (Option.bind_some _ _).symm.trans H; with_reducible exact H2_) | with_reducible exact H | (rw [hy556]; exact H) | exact H
   have Ny556 := Aside0.mk hy556
   clear hy556
   have H' := Aside0.mk H
   clear H
   obtain ⟨Ao20, co20, eo20⟩ := Kd.R_slice HO_3.out
   subst eo20
   have p554 : 0 ≤ (x5_1 : Int) := oa_
   have q554 : x5_1 < (t548.length : Int) := oa_
   obtain ⟨ad554, e554, hx554_0⟩ := Kd.at_int (Kd.R_reads' HO_3.out).2.2 x5_1 p554 q554
   cases e554
   obtain ⟨p554, q554⟩ := et_ p554 q554
   have p555 : 0 ≤ ((ji14) : Int) := oa_
   have q555 : (ji14) < (t548.length : Int) := oa_
   obtain ⟨ad555, e555, hx555_0⟩ := Kd.at_int (Kd.R_reads' HO_3.out).2.2 (ji14) p555 q555
   obtain rfl : ad554 = ad555 := (by injection e555)
   obtain ⟨p555, q555⟩ := et_ p555 q555
   go_wp2_with (fail)
   repeat (go_quiet (fail); try go_wp2_with ((with_reducible refine gate_builtin (b := .append) (xs := #[.tmp 29, .tmp 31]) rfl ?_); at_builtin; refine Kd.R_append (Kd.int .i64) (w0 := w) w.heap.size rfl (.tmp 29) (.tmp 31) 46 3 (.int .i64 0) 8 rfl Try.underlying46 info3 rfl (by decide) (by omega) u4 x4_1 x5_1 [.int .i64 x5_1] (fun k_ => some k_ ≠ (.slice (some ad554) t548.length co20 : Value).ownBlock) (fun _ => False) rfl rfl ?aP (fun _ hk => hk.elim) ?aF ?aO ?aB ?aS ?aL ?_; (case aP => exact rfl); (case aB => exact (bw112_)); (case aF => exact (fun k_ hk => Kd.fresh' (Kd.R_lt (hd_ HO_3)) k_ hk)); (case aO => exact (hd_ HO_4)); (case aS => exact (bz_ HB)); (case aL => have := LMc19.out; omega); intro v557 w21 ho hb hg hat; rw [← Ny556.out] at ho; have HO558 := Aside0.mk ho; replace HO_3 := Aside0.mk (Kd.R_after (ok := (fun _ => True)) (by (with_reducible repeat (first | apply Kd.R_alloc | apply Kd.R_drewN | apply Kd.R_drew)); exact Kd.R_mono HO_3.out (fun _ hk => by first | exact ⟨trivial, hk⟩ | grind)) hg hat); replace BK546 := Aside0.mk (blk_grown (g := gb546) (o := .cells #[.slice A0_0 l0_0.length c0_0] 26 (0, 0)) (bx_ BK546) hg (Kd.R_ne HO_4.out BK546.out (by decide))); replace HB := Aside0.mk (hb); clear HO_4 ho hb hg hat))
   go_roundg k1
   case measure => have := HK1.out; omega
   case rel => exact ⟨(y556), (wrap64 (x5_1 + 1)), er_, H', ⟨by have := HK1.out; omega⟩, ⟨by (with_reducible repeat (first | apply Kd.R_alloc | apply Kd.R_drewN | apply Kd.R_drew)); exact Kd.R_mono HO_3.out (fun _ hk => hk.2)⟩, ⟨hd_ HO558⟩, ⟨bx_ BK546⟩, ⟨bw112_⟩⟩

end Go.Proofs.Ytjepmdngbafonaa.QFnSqueezed
