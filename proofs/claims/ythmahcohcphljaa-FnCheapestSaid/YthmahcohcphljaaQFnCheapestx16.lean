/- Contracts of functions that the law reaches: what each call returns and what it leaves in memory. Made by this session over the print of the kit. -/
import Derived.Test.YthmahcohcphljaaQFnCheapestx0
import Derived.Test.YthmahcohcphljaaQFnCheapestx5
import Derived.Test.YthmahcohcphljaaQFnCheapestx7
namespace Go.Proofs.Ythmahcohcphljaa.QFnCheapest
open Go.RowKit Go.Proofs.YthmahcohcphljaaC.PrintWords Go.Proofs.YthmahcohcphljaaC.PrintLast Go.Proofs.YthmahcohcphljaaC.PrintMore
attribute [local go_sem] max2_int min2_int max_two min_two max_three min_three max_four min_four
set_option linter.unusedVariables false
set_option linter.unusedSimpArgs false
def ba16_0 := bs_ 31 0
def ba16_1 := bs_ 31 1
def ba16_2 := bs_ 31 3
def ba16_3 := bs_ 31 35
def ba16_4 := bs_ 31 39
def ba16_5 := bs_ 31 47
def ba16_6 := bs_ 31 63
def ba16_7 := bs_ 31 127
def ba16_8 := bs_ 31 255
def ba16_9 := bs_ 31 511
def ba16_10 := bs_ 31 1023
def ba16_11 := bs_ 31 2047
def ba16_12 := bs_ 31 6143
def ba16_13 := bs_ 31 14335
def ba16_14 := bs_ 31 145407
def ba16_15 := bs_ 31 2242559
def ba16_16 := bs_ 31 6436863
def ba16_17 := bs_ 31 73545727
def ba16_18 := bs_ 31 73547775
def ba16_19 := bs_ 31 73564159
def ba16_20 := bs_ 31 73596927
def ba16_21 := bs_ 31 73662463
def ba16_22 := bs_ 31 73924607
def ba16_23 := bs_ 31 74448895
def ba16_24 := bs_ 31 75497471
def ba16_25 := bs_ 31 83886079
def ba16_26 := bs_ 31 100663295
def ba16_27 := bs_ 31 134217727
def ba16_28 := bs_ 31 268435455
def ba16_29 := bs_ 31 536870911
def ba16_30 := bs_ 31 1073741823
def ba16_31 := bs_ 31 2147483647
def ba16_32 := bs_ 17 0
def ba16_33 := bs_ 17 1
def ba16_34 := bs_ 17 3
def ba16_35 := bs_ 17 11
def ba16_36 := bs_ 17 27
def ba16_37 := bs_ 17 283
def ba16_38 := bs_ 17 795
def ba16_39 := bs_ 17 799
def ba16_40 := bs_ 17 831
def ba16_41 := bs_ 17 895
def ba16_42 := bs_ 17 1023
def ba16_43 := bs_ 17 2047
def ba16_44 := bs_ 17 4095
def ba16_45 := bs_ 17 8191
def ba16_46 := bs_ 17 16383
def ba16_47 := bs_ 17 32767
def ba16_48 := bs_ 17 65535
def ba16_49 := bs_ 17 131071
def ba16_50 := bs_ 31 4095
def ba16_51 := bs_ 31 8191
def ba16_52 := bs_ 31 16383
def ba16_53 := bs_ 31 32767
def ba16_54 := bs_ 31 65535
def ba16_55 := bs_ 31 131071
def ba16_56 := bs_ 31 262143
def ba16_57 := bs_ 31 524287
def ba16_58 := bs_ 31 1048575
def ba16_59 := bs_ 31 2097151
def ba16_60 := bs_ 31 4194303
def ba16_61 := bs_ 31 8388607
def ba16_62 := bs_ 31 16777215
def ba16_63 := bs_ 31 33554431
def ba16_64 := bs_ 31 67108863
mutual
def impl_Graph_steps.l0 : Nat → Int → List (List Int) → List Int → Int → Int → Int → List (S76) → Option (List Int)
 | 0, _, _, _, _, _, _, _ => none
 | k + 1, x1, x2, x7, x18, x19, x491000, x491001 => if x19 < x18 then (impl_Graph_steps.l1 k x1 x2 x7 x18 x19 x491001 (x491001.length : Int) 0 x491000 x491001) else (some x7)
def impl_Graph_steps.l1 : Nat → Int → List (List Int) → List Int → Int → Int → List (S76) → Int → Int → Int → List (S76) → Option (List Int)
 | 0, _, _, _, _, _, _, _, _, _, _ => none
 | k + 1, x1, x2, x7, x18, x19, x22, x23, x24, x491000, x491001 => if x24 < x23 then (if 0 ≤ x24 then (if x24 < (x22.length : Int) then (if 0 ≤ ((rd_T76 x22 x24).f0) then (if ((rd_T76 x22 x24).f0) < (x2.length : Int) then (if 0 ≤ x1 then (if x1 < ((rd_L3 x2 ((rd_T76 x22 x24).f0)).length : Int) then (if (rd (rd_L3 x2 ((rd_T76 x22 x24).f0)) x1) < 1000000 then (if 0 ≤ ((rd_T76 x22 x24).f1) then (if ((rd_T76 x22 x24).f1) < (x2.length : Int) then (if x1 < ((rd_L3 x2 ((rd_T76 x22 x24).f1)).length : Int) then (if (wrap64 (((rd_T76 x22 x24).f2) + (rd (rd_L3 x2 ((rd_T76 x22 x24).f1)) x1))) = (rd (rd_L3 x2 ((rd_T76 x22 x24).f0)) x1) then (if ((rd_T76 x22 x24).f0) < (x7.length : Int) then (if ((rd_T76 x22 x24).f1) < (x7.length : Int) then (impl_Graph_steps.l1 k x1 x2 (x7.set (((rd_T76 x22 x24).f0) : Int).toNat (mn (rd x7 ((rd_T76 x22 x24).f0)) (wrap64 ((rd x7 ((rd_T76 x22 x24).f1)) + 1)))) x18 x19 x22 x23 (wrap64 (x24 + 1)) x491000 x491001) else (none)) else (none)) else (impl_Graph_steps.l1 k x1 x2 x7 x18 x19 x22 x23 (wrap64 (x24 + 1)) x491000 x491001)) else (none)) else (none)) else (none)) else (impl_Graph_steps.l1 k x1 x2 x7 x18 x19 x22 x23 (wrap64 (x24 + 1)) x491000 x491001)) else (none)) else (none)) else (none)) else (none)) else (none)) else (none)) else (impl_Graph_steps.l0 k x1 x2 x7 x18 (wrap64 (x19 + 1)) x491000 x491001)
end
def impl_Graph_steps.f (k : Nat) (a0_0 : Int) (l0_1 : List (S76)) (a1 : Int) (l2 : List (List Int)) : Option (List Int) := (slices_Repeat_int_int.f (([1000000] : List Int)) a0_0).bind fun t494 => (if 0 ≤ a1 then (if a1 < (t494.length : Int) then (impl_Graph_steps.l0 k a1 l2 (t494.set (a1 : Int).toNat 0) a0_0 0 a0_0 l0_1) else (none)) else (none))
def impl_Graph_steps.T8 : Bool × List (List Nat × List Nat) := (true, [([], []), ([], []), ([1], [1]), ([0, 2], [0, 2]), ([3], [3]), ([], []), ([4, 5], [4, 5]), ([6], [6]), ([7], [7]), ([8], [8]), ([9], [9]), ([10, 9], [9, 10]), ([9], [9]), ([9], [9]), ([13, 9], [9, 13]), ([12, 14, 9], [9, 12, 14]), ([15, 9], [9, 15]), ([9], [9]), ([16, 17, 9], [9, 16, 17]), ([18, 9], [9, 18]), ([11, 19, 9], [9, 11, 19]), ([9], [9]), ([9], [9]), ([22, 9], [9, 22]), ([21, 23, 9], [9, 21, 23]), ([24, 9], [9, 24]), ([9], [9]), ([25, 26, 9], [9, 25, 26]), ([27, 9], [9, 27]), ([20, 28, 9], [9, 20, 28]), ([9, 29], [9, 29])])
def impl_Graph_steps.B8 : List Nat := [0, 0, 2, 7, 15, 0, 63, 127, 255, 511, 1023, 2047, 1023, 1023, 9215, 29695, 62463, 1023, 259071, 521215, 1048575, 1023, 1023, 4195327, 14681087, 31458303, 1023, 132121599, 266339327, 536870911, 1073741823]
theorem impl_Graph_steps.tab8 : rtab .any (opsOf Try.f77 8) = impl_Graph_steps.T8 := by kernel_rfl
theorem impl_Graph_steps.bits8 : waitsOk impl_Graph_steps.T8.2 impl_Graph_steps.B8 = true := by kernel_rfl
def impl_Graph_steps.T9 : Bool × List (List Nat × List Nat) := (true, [([], []), ([], []), ([1], [1]), ([], []), ([], []), ([4], [4]), ([3, 5], [3, 5]), ([6], [6]), ([], []), ([], []), ([9], [9]), ([8, 10], [8, 10]), ([11], [11]), ([12], [12]), ([7, 13], [7, 13]), ([0, 2, 0, 1, 2, 3, 4, 5, 6, 7, 8, 9, 10, 11, 12, 13, 14], [0, 2]), ([15, 14, 0, 1, 2, 3, 4, 5, 6, 7, 8, 9, 10, 11, 12, 13, 14], [14, 15])])
def impl_Graph_steps.B9 : List Nat := [0, 0, 2, 0, 0, 16, 56, 120, 0, 0, 512, 1792, 3840, 7936, 16376, 32767, 65535]
theorem impl_Graph_steps.tab9 : rtab .any (opsOf Try.f77 9) = impl_Graph_steps.T9 := by kernel_rfl
theorem impl_Graph_steps.bits9 : waitsOk impl_Graph_steps.T9.2 impl_Graph_steps.B9 = true := by kernel_rfl
set_option maxHeartbeats 8000000 in
set_option maxRecDepth 100000 in
theorem impl_Graph_steps.calls (k : Nat) (a0_0 : Int) (A0_1 : Option Addr) (c0_1 : Nat) (l0_1 : List (S76)) (a1 : Int) (A2 : Option Addr) (c2 : Nat) (l2 : List (List Int)) (r : List Int) (w : World) (hr0_1 : Kd.C k76 w A0_1 l0_1.length l0_1) (hc0_1 : l0_1.length ≤ c0_1) (hr2 : Kd.C (Kd.slice 3 (Kd.int .i64)) w A2 l2.length l2) (hc2 : l2.length ≤ c2) (h : impl_Graph_steps.f k a0_0 l0_1 a1 l2 = some r) :
  Calls Try.prog 77 #[.agg #[.int .i64 a0_0, .slice A0_1 l0_1.length c0_1], .int .i64 a1, .slice A2 l2.length c2] w fun e w' => ∃ v0_ : Value, e = .returned (v0_) ∧ Kd.R (Kd.int .i64) 3 w' w.heap.size (fun _ => True) v0_ r ∧ Below w.heap.size w w' := by
 have hu30 := Try.underlying30
 have hu76 := Try.underlying76
 have HR0_1 := Aside0.mk hr0_1
 have HC0_1 := Aside0.mk hc0_1
 clear hr0_1 hc0_1
 have HR2 := Aside0.mk hr2
 have HC2 := Aside0.mk hc2
 clear hr2 hc2
 have HB := Aside0.mk (Below.refl w.heap.size w)
 have H : ((slices_Repeat_int_int.f (([1000000] : List Int)) a0_0).bind fun t494 => (if 0 ≤ a1 then (if a1 < (t494.length : Int) then (impl_Graph_steps.l0 k a1 l2 (t494.set (a1 : Int).toNat 0) a0_0 0 a0_0 l0_1) else (none)) else (none))) = some r := h
 clear h
 obtain ⟨y491, hy491⟩ : ∃ y_ : List Int, y_ = (([1000000] : List Int)) := ⟨_, rfl⟩
 replace H : ((slices_Repeat_int_int.f y491 a0_0).bind fun t494 => (if 0 ≤ a1 then (if a1 < (t494.length : Int) then (impl_Graph_steps.l0 k a1 l2 (t494.set (a1 : Int).toNat 0) a0_0 0 a0_0 l0_1) else (none)) else (none))) = some r := by first | (rw [hy491]; with_reducible exact H) | (have H2_ := (Option.bind_some _ _).symm.trans H; rw [hy491]; with_reducible exact H2_) | (have H2_ := (Option.bind_some _ _).symm.trans H; with_reducible exact H2_) | with_reducible exact H | (rw [hy491]; exact H) | exact H
 have Ny491 := Aside0.mk hy491
 clear hy491
 obtain ⟨t494, A4, H⟩ := ob_ H
 obtain ⟨c5b0, H⟩ := iq_ H
 obtain ⟨c6b0, H⟩ := iq_ H
 obtain ⟨y497, hy497⟩ : ∃ y_ : List Int, y_ = (t494.set (a1 : Int).toNat 0) := ⟨_, rfl⟩
 replace H : (impl_Graph_steps.l0 k a1 l2 y497 a0_0 0 a0_0 l0_1) = some r := by first | (rw [hy497]; with_reducible exact H) | (have H2_ := (Option.bind_some _ _).symm.trans H; rw [hy497]; with_reducible exact H2_) | (have H2_ := (Option.bind_some _ _).symm.trans H; with_reducible exact H2_) | with_reducible exact H | (rw [hy497]; exact H) | exact H
 have Ny497 := Aside0.mk hy497
 clear hy497
 have H' := Aside0.mk H
 clear H
 go_enter Try.func77, Try.ntmps77
 go_wp2_with (first | ((with_reducible refine gate_dst (N := 3) rfl ?_); refine be_ 3 #[.int .i64 a0_0, .slice A0_1 l0_1.length c0_1] 30 ?_; intro gb490 hg w8 BK490 hb; have GW490 := ge_ HB hg; have GE490 := ge_ HB hg; replace HB := at_ HB hb; clear hb hg) | ((with_reducible refine gate_dst (N := 10) rfl ?_); refine Kd.R_lit (Kd.int .i64) _ 3 ?hg (N := 10) ?hd (xs := ([1000000] : List Int)) (inner := [.int .i64 1000000]) (ok := fun _ => True) (okp := fun _ => True) ?hr ?hp (fun _ hk => hk) trivial (Below.refl _ _) (Nat.le_refl _) (by simp) ?_; (case hd => rfl); (case hg => rfl); (case hr => first | (go_simp; done) | (go_simp; rfl)); (case hp => exact (Reps.one (show Kd.M (Kd.int .i64) _ _ _ 1000000 [.int .i64 1000000] from rfl) (Reps.none _ _))); intro v492 w9 ho10 hb hg_ hnew_; clear hg_ hnew_; (first | rw [← Ny491.out] at ho10 | (simp only [Int.reduceToNat] at ho10; rw [← Ny491.out] at ho10)); have HO493 := Aside0.mk (Kd.R_lower ho10 (bz_ HB)); replace BK490 := ab_ BK490 hb; replace HB := at_ HB hb; clear hb ho10; have hcz11_0 := cz_ BK490 0 (.int .i64 a0_0); have hcz11_1 := cz_ BK490 1 (.slice A0_1 l0_1.length c0_1); have hfz11_0 := fz_ BK490 0; have hfz11_1 := fz_ BK490 1; obtain ⟨Ao12, co12, eo12⟩ := Kd.R_slice HO493.out; subst eo12) | ((with_reducible refine gate_callee (f := 87) rfl ?_); refine gl_ (some 13) Try.func87 #[.slice Ao12 y491.length co12, .int .i64 a0_0] ?_; (with_reducible refine (slices_Repeat_int_int.calls _ _ y491 a0_0 t494 _ ?side1 ?side2 A4.out).mono ?_); (case side1 => exact rc_ HO493); (case side2 => exact (Kd.R_reads' HO493.out).2.1); rintro e w13 ⟨v495, rfl, ho0, hb⟩; refine ⟨_, rfl, ?_⟩; have HO496 := Aside0.mk (Kd.R_lower (Kd.R_new' ho0 (Kd.R_lt (hd_ HO493))) (bz_ HB)); replace HO493 := Aside0.mk (Kd.R_elder' (hd_ HO493) (Kd.R_base ho0) hb); replace BK490 := ab_ BK490 hb; replace HB := at_ HB hb; clear hb ho0; have p7 : 0 ≤ (a1 : Int) := oa_; have q7 : (a1 : Int) < ((t494.length : Int) : Int) := oa_; obtain ⟨go7, co7, eo7, gb7, gl7, cl7, HG7⟩ := Kd.R_form HO496.out (by omega); (first | cases eo7 | (injection eo7 with ea_ en_ ec_; (first | subst ea_ | (injection ea_ with ea_; subst ea_)); subst ec_; clear en_)); have GB7 := Aside0.mk gb7; have GG7 := Aside0.mk HG7; clear gb7 gl7 HG7; obtain ⟨hx7_0, hf7_0⟩ := Kd.R_celln 0 HO496.out (a1 : Int) p7 q7; obtain ⟨p7, q7⟩ := et_ p7 q7; have n_ := Aside0.mk (Kd.R_mono (ok' := (fun k_ => some k_ ≠ (.slice Ao12 y491.length co12 : Value).ownBlock)) HO496.out (fun k_ hk => hk.2)); clear HO496; have HO496 := n_; clear n_; obtain ⟨hy14_, hz14_⟩ := Kd.R_celln 0 HO496.out (a1 : Int) oa_ oa_; have HP14 := Kd.R_putg HO496.out (a1 : Int) 0) | ((with_reducible refine gate_store (t := 3) (p := 16) rfl ?_); refine store_event (t := 3) (p := 16) (v := ?vo_w15) (w1 := (w13.setCell ⟨go7, (a1 : Int).toNat, none⟩ (.int .i64 0))) ?hg ?ho ?hn ?hr ?_; (case ho => rfl); (case hg => rfl); (case hn => rfl); (case hr => first | (go_simp; done) | (go_simp; rfl)); intro w15 hw; have hg : w13.grownBy w15 (some go7) := (by rw [hw]; exact HP14.2); have hp_ : Kd.R (Kd.int .i64) 3 w15 w.heap.size (fun k_ => some k_ ≠ (.slice Ao12 y491.length co12 : Value).ownBlock) (.slice (some ⟨go7, 0, none⟩) t494.length co7) y497 := (by rw [hw, Ny497.out]; exact HP14.1); clear HP14; replace BK490 := Aside0.mk (blk_grown (g := gb490) (o := .cells #[.int .i64 a0_0, .slice A0_1 l0_1.length c0_1] 30 (0, 0)) (bx_ BK490) hg (Kd.R_ne HO496.out BK490.out (by decide))); replace HO493 := Aside0.mk (Kd.R_after (v := (.slice (some ⟨go7, 0, none⟩) t494.length co7)) (v1 := (.slice (some ⟨go7, 0, none⟩) t494.length co7)) (ok := (fun _ => True)) (hd_ HO493) hg (.inl rfl)); replace HO496 := Aside0.mk (hp_); replace HB := Aside0.mk ((by rw [hw]; exact below_set (HB.out) GB7.out : Below w.heap.size w w15)); clear hg hw hp_; have hcz16_0 := cz_ BK490 0 (.int .i64 a0_0); have hcz16_1 := cz_ BK490 1 (.slice A0_1 l0_1.length c0_1); have hfz16_0 := fz_ BK490 0; have hfz16_1 := fz_ BK490 1))
 (try simp only [Act.put, List.setIfInBounds_toArray, List.set_cons_zero, List.set_cons_succ])
 go_loopg [19] k (fun kq v19 w' => ∃ (x7_1 : List Int) (x19_1 : Int), v19 = .int .i64 x19_1 ∧ Aside0 (impl_Graph_steps.l0 kq a1 l2 x7_1 a0_0 x19_1 a0_0 l0_1 = some r) ∧ Aside0 (kq ≤ k) ∧ Aside0 (Kd.R (Kd.int .i64) 3 w' w.heap.size (fun _ => True) (.slice (some ⟨go7, 0, none⟩) t494.length co7) x7_1) ∧ Aside0 (w'.heap[gb490]? = some (.cells #[.int .i64 a0_0, (.slice A0_1 l0_1.length c0_1)] 30 (0, 0))) ∧ Aside0 (Below w.heap.size w w'))
 case atStart => exact ⟨(y497), (0), er_, H', ⟨Nat.le_refl _⟩, ⟨hq_ (Kd.R_mono HO496.out (fun _ hk => trivial))⟩, ⟨bx_ BK490⟩, ⟨bw115_⟩⟩
 clear H' c5b0 c6b0 p7 q7 hcz11_0 hcz11_1 hcz16_0 hcz16_1 hfz11_0 hfz11_1 hfz16_0 hfz16_1 hx7_0
 clear p7 q7
 obtain ⟨x7_1, x19_1, rfl, HA, HK1, HO_7, BK490, HB⟩ := hrel
 have hl7_1 := (Kd.R_reads' HO_7.out).1
 rw [hl7_1] at HO_7
 (try simp only [hl7_1])
 (try simp only [hl7_1] at BK490)
 cases gk with
 | zero => exact absurd HA.out (by simp [impl_Graph_steps.l0])
 | succ k1 =>
  have H := HA.out
  clear HA
  simp only [impl_Graph_steps.l0] at H
  by_cases c17 : x19_1 < a0_0
  rotate_left
  ·rw [if_neg c17] at H
   have c17b0 : decide (x19_1 < a0_0) = false := decide_eq_false c17
   clear c17
   obtain rfl := Option.some.inj H
   go_wp2
   go_ret
   exact ⟨_, ew_, by (with_reducible repeat (first | apply Kd.R_alloc | apply Kd.R_drewN | apply Kd.R_drew)); exact HO_7.out, bw115_⟩
  rw [if_pos c17] at H
  have c17b0 : decide (x19_1 < a0_0) = true := decide_eq_true c17
  clear c17
  have H' := Aside0.mk H
  clear H
  have hcz18_0 := cz_ BK490 0 (.int .i64 a0_0)
  have hcz18_1 := cz_ BK490 1 (.slice A0_1 l0_1.length c0_1)
  have hfz18_0 := fz_ BK490 0
  have hfz18_1 := fz_ BK490 1
  go_wp2
  go_loopg [24] k1 (fun kq v24 w' => ∃ (x7_2 : List Int) (x24_2 : Int), v24 = .int .i64 x24_2 ∧ Aside0 (impl_Graph_steps.l1 kq a1 l2 x7_2 a0_0 x19_1 l0_1 (l0_1.length : Int) x24_2 a0_0 l0_1 = some r) ∧ Aside0 (kq ≤ k1) ∧ Aside0 (Kd.R (Kd.int .i64) 3 w' w.heap.size (fun _ => True) (.slice (some ⟨go7, 0, none⟩) x7_1.length co7) x7_2) ∧ Aside0 (w'.heap[gb490]? = some (.cells #[.int .i64 a0_0, (.slice A0_1 l0_1.length c0_1)] 30 (0, 0))) ∧ Aside0 (Below w.heap.size w w'))
  case atStart => exact ⟨(x7_1), (0), er_, H', ⟨Nat.le_refl _⟩, ⟨by (try simp only [hl7_1]); (with_reducible repeat (first | apply Kd.R_alloc | apply Kd.R_drewN | apply Kd.R_drew)); exact HO_7.out⟩, ⟨by (try simp only [hl7_1]); refine bd_ ?_; exact BK490.out⟩, ⟨bw115_⟩⟩
  clear H' c17b0 hcz18_0 hcz18_1 hfz18_0 hfz18_1
  obtain ⟨x7_2, x24_2, rfl, HA, HK2, HO_7, BK490, HB⟩ := hrel
  have hl7_2 := (Kd.R_reads' HO_7.out).1
  rw [hl7_2] at HO_7
  (try simp only [hl7_2])
  (try simp only [hl7_2] at BK490)
  cases gk with
  | zero => exact absurd HA.out (by simp [impl_Graph_steps.l1])
  | succ k2 =>
   have H := HA.out
   clear HA
   simp only [impl_Graph_steps.l1] at H
   by_cases c19 : x24_2 < (l0_1.length : Int)
   rotate_left
   ·rw [if_neg c19] at H
    have c19b0 : decide (x24_2 < (l0_1.length : Int)) = false := decide_eq_false c19
    (try simp only [hl7_1] at c19b0)
    (try simp only [hl7_2] at c19b0)
    clear c19
    have H' := Aside0.mk H
    clear H
    go_wp2
    (try simp only [← hl7_1, ← hl7_2])
    go_roundg k2
    case measure => have := HK1.out; have := HK2.out; omega
    case rel => exact ⟨(x7_2), (wrap64 (x19_1 + 1)), er_, H', ⟨by have := HK1.out; have := HK2.out; omega⟩, ⟨by (try simp only [hl7_1]); (try simp only [hl7_2]); (with_reducible repeat (first | apply Kd.R_alloc | apply Kd.R_drewN | apply Kd.R_drew)); exact HO_7.out⟩, ⟨by (try simp only [hl7_1]); (try simp only [hl7_2]); refine bd_ ?_; exact BK490.out⟩, ⟨bw115_⟩⟩
   rw [if_pos c19] at H
   have c19b0 : decide (x24_2 < (l0_1.length : Int)) = true := decide_eq_true c19
   clear c19
   obtain ⟨c20b0, H⟩ := iq_ H
   obtain ⟨c21b0, H⟩ := iq_ H
   obtain ⟨c22b0, H⟩ := iq_ H
   obtain ⟨c23b0, H⟩ := iq_ H
   obtain ⟨c24b0, H⟩ := iq_ H
   obtain ⟨c25b0, H⟩ := iq_ H
   by_cases c26 : (rd (rd_L3 l2 ((rd_T76 l0_1 x24_2).f0)) a1) < 1000000
   rotate_left
   ·rw [if_neg c26] at H
    have c26b0 : decide ((rd (rd_L3 l2 ((rd_T76 l0_1 x24_2).f0)) a1) < 1000000) = false := decide_eq_false c26
    clear c26
    have H' := Aside0.mk H
    clear H
    have p498 : 0 ≤ (x24_2 : Int) := oa_
    have q498 : x24_2 < (l0_1.length : Int) := oa_
    obtain ⟨ad498, e498, hx498_0, hx498_1, hx498_2⟩ := at_T76 HR0_1.out x24_2 p498 q498
    cases e498
    replace hx498_0 := hc5_ HB hx498_0
    replace hx498_1 := hc5_ HB hx498_1
    replace hx498_2 := hc5_ HB hx498_2
    obtain ⟨p498, q498⟩ := et_ p498 q498
    try go_wp2_with ((with_reducible refine gate_dst (N := 9) rfl ?_); refine be_ 9 #[.int .i64 0, .int .i64 0, .int .i64 0] 76 ?_; intro gb499 hg w47 BK499 hb; have GW499 := ge_ HB hg; have GE499 := ge_ HB hg; have NB490_499 := nl_ BK490 hg; have NB499_490 := ng_ BK490 hg; replace HO_7 := rb_ HO_7 hb; replace HB := at_ HB hb; replace BK490 := ab_ BK490 hb; clear hb hg; have hnb48 := NB499_490.out; have hnc48 := NB490_499.out; have hcz49_0 := cz_ BK499 0 (.int .i64 0); have hcz49_1 := cz_ BK499 1 (.int .i64 0); have hcz49_2 := cz_ BK499 2 (.int .i64 0); have hfz49_0 := fz_ BK499 0; have hfz49_1 := fz_ BK499 1; have hfz49_2 := fz_ BK499 2)
    generalize hW_ : (((w47.setCell ⟨gb499, 0, none⟩ (.int .i64 ((rd_T76 l0_1 x24_2).f0))).setCell ⟨gb499, 1, none⟩ (.int .i64 ((rd_T76 l0_1 x24_2).f1))).setCell ⟨gb499, 2, none⟩ (.int .i64 ((rd_T76 l0_1 x24_2).f2))) = w50
    have n0_ : Aside0 (Kd.R (Kd.int .i64) 3 w50 w.heap.size (fun _ => True) (.slice (some ⟨go7, 0, none⟩) x7_2.length co7) x7_2) := by subst hW_; exact ⟨hq_ (Kd.R_mono (Kd.R_far (Kd.R_far (Kd.R_far (Kd.R_types HO_7.out BK499.out (by decide)) (fun _ hk => hk.2) _) (fun _ hk => hk.2) _) (fun _ hk => hk.2) _) (fun _ hk => trivial))⟩
    have n1_ : Aside0 (w50.heap[gb490]? = some (.cells #[.int .i64 a0_0, .slice (some ad498) l0_1.length c0_1] 30 (0, 0))) := by subst hW_; exact ⟨bc_ BK490⟩
    have n2_ : Aside0 (w50.heap[gb499]? = some (.cells #[.int .i64 ((rd_T76 l0_1 x24_2).f0), .int .i64 ((rd_T76 l0_1 x24_2).f1), .int .i64 ((rd_T76 l0_1 x24_2).f2)] 76 (0, 0))) := by subst hW_; exact ⟨by refine bd_ ?_; refine blk_put (cs := #[.int .i64 ((rd_T76 l0_1 x24_2).f0), .int .i64 ((rd_T76 l0_1 x24_2).f1), .int .i64 0]) ?_ 2 _ rfl; refine bd_ ?_; refine blk_put (cs := #[.int .i64 ((rd_T76 l0_1 x24_2).f0), .int .i64 0, .int .i64 0]) ?_ 1 _ rfl; refine bd_ ?_; refine blk_put (cs := #[.int .i64 0, .int .i64 0, .int .i64 0]) ?_ 0 _ rfl; refine bd_ ?_; exact BK499.out⟩
    have n3_ : Aside0 (Below w.heap.size w w50) := by subst hW_; exact ⟨bw115_⟩
    clear hW_ HO_7 BK490 BK499 HB
    have HO_7 := n0_
    have BK490 := n1_
    have BK499 := n2_
    have HB := n3_
    clear n0_ n1_ n2_ n3_
    replace HO_7 := rw5_ HO_7
    replace BK490 := ad_ BK490
    replace BK499 := ad_ BK499
    replace HB := Aside0.mk (below_drew1 HB.out)
    have p500 : 0 ≤ (((rd_T76 l0_1 x24_2).f0) : Int) := oa_
    have q500 : ((rd_T76 l0_1 x24_2).f0) < (l2.length : Int) := oa_
    obtain ⟨ad500, A500_0, c500_0, e500, hx500_0, hl500_0, hi500_0⟩ := at_L3 HR2.out ((rd_T76 l0_1 x24_2).f0) p500 q500
    have hw500_0 := hx500_0
    cases e500
    replace hx500_0 := hc5_ HB hx500_0
    have HR500_0 := Aside0.mk hi500_0
    have HC500_0 := Aside0.mk hl500_0
    clear hi500_0 hl500_0
    obtain ⟨p500, q500⟩ := et_ p500 q500
    have p501 : 0 ≤ (a1 : Int) := oa_
    have q501 : a1 < ((rd_L3 l2 ((rd_T76 l0_1 x24_2).f0)).length : Int) := oa_
    obtain ⟨ad501, e501, hx501_0⟩ := Kd.at_int HR500_0.out a1 p501 q501
    have hw501_0 := hx501_0
    cases e501
    replace hx501_0 := hc5_ HB hx501_0
    obtain ⟨p501, q501⟩ := et_ p501 q501
    refine start_ (n := 31) (S := fun w' => w'.cell? ⟨gb499, 0, none⟩ = some (.int .i64 ((rd_T76 l0_1 x24_2).f0)) ∧ w'.cell? ⟨gb499, 1, none⟩ = some (.int .i64 ((rd_T76 l0_1 x24_2).f1)) ∧ w'.cell? ⟨gb499, 2, none⟩ = some (.int .i64 ((rd_T76 l0_1 x24_2).f2)) ∧ w'.cell? (ad500.add (((rd_T76 l0_1 x24_2).f0)).toNat) = some (.slice (some ad501) (rd_L3 l2 ((rd_T76 l0_1 x24_2).f0)).length c500_0) ∧ w'.cell? (ad501.add (a1).toNat) = some (.int .i64 (rd (rd_L3 l2 ((rd_T76 l0_1 x24_2).f0)) a1))) (ds := []) ba16_0 (by kernel_rfl) rfl rfl ⟨bq5_ BK499 0, bq5_ BK499 1, bq5_ BK499 2, (hc_ HB hw500_0), (hc_ HB hw501_0)⟩ (fun hHeld => ?_); refine with_tabW impl_Graph_steps.tab8 impl_Graph_steps.bits8 (fun HT_ HW_ => ?_)
    generalize w50.drew = w51 at HO_7 BK490 BK499 HB HR500_0 hx500_0 hx501_0 hHeld ⊢
    refine pz_ 0 28 ba16_1 HT_ ?_
    refine pz_ 1 29 ba16_2 HT_ ?_
    refine pz_ 5 33 ba16_3 HT_ ?_
    refine pt_ 2 30 ba16_4 HT_ HW_ hHeld ?_
    refine pz_ 3 31 ba16_5 HT_ ?_
    refine pt_ 4 32 ba16_6 HT_ HW_ hHeld ?_
    refine pz_ 6 34 ba16_7 HT_ ?_
    refine pt_ 7 35 ba16_8 HT_ HW_ hHeld ?_
    refine pz_ 8 36 ba16_9 HT_ ?_
    refine pz_ 9 37 ba16_10 HT_ ?_
    refine pu_ 10 38 ba16_11 HT_ ?_
    refine pu_ 11 39 ba16_50 HT_ ?_
    refine pu_ 12 40 ba16_51 HT_ ?_
    refine pu_ 13 41 ba16_52 HT_ ?_
    refine pu_ 14 42 ba16_53 HT_ ?_
    refine pu_ 15 43 ba16_54 HT_ ?_
    refine pu_ 16 44 ba16_55 HT_ ?_
    refine pu_ 17 45 ba16_56 HT_ ?_
    refine pu_ 18 46 ba16_57 HT_ ?_
    refine pu_ 19 47 ba16_58 HT_ ?_
    refine pu_ 20 48 ba16_59 HT_ ?_
    refine pu_ 21 49 ba16_60 HT_ ?_
    refine pu_ 22 50 ba16_61 HT_ ?_
    refine pu_ 23 51 ba16_62 HT_ ?_
    refine pu_ 24 52 ba16_63 HT_ ?_
    refine pu_ 25 53 ba16_64 HT_ ?_
    refine pu_ 26 54 ba16_27 HT_ ?_
    refine pu_ 27 55 ba16_28 HT_ ?_
    refine pu_ 28 56 ba16_29 HT_ ?_
    refine pu_ 29 57 ba16_30 HT_ ?_
    refine pz_ 30 58 ba16_31 HT_ ?_
    refine done_ (done_of HT_.out (by kernel_rfl)) ?_
    go_wp2
    (try simp only [← hl7_2])
    go_roundg k2
    case measure => have := HK1.out; have := HK2.out; omega
    case rel => exact ⟨(x7_2), (wrap64 (x24_2 + 1)), er_, H', ⟨by have := HK1.out; have := HK2.out; omega⟩, ⟨by (try simp only [hl7_1]); (try simp only [hl7_2]); (with_reducible repeat (first | apply Kd.R_alloc | apply Kd.R_drewN | apply Kd.R_drew)); exact HO_7.out⟩, ⟨by (try simp only [hl7_1]); (try simp only [hl7_2]); refine bd_ ?_; exact BK490.out⟩, ⟨bw115_⟩⟩
   rw [if_pos c26] at H
   have c26b0 : decide ((rd (rd_L3 l2 ((rd_T76 l0_1 x24_2).f0)) a1) < 1000000) = true := decide_eq_true c26
   clear c26
   obtain ⟨c27b0, H⟩ := iq_ H
   obtain ⟨c28b0, H⟩ := iq_ H
   obtain ⟨c29b0, H⟩ := iq_ H
   by_cases c30 : (wrap64 (((rd_T76 l0_1 x24_2).f2) + (rd (rd_L3 l2 ((rd_T76 l0_1 x24_2).f1)) a1))) = (rd (rd_L3 l2 ((rd_T76 l0_1 x24_2).f0)) a1)
   rotate_left
   ·rw [if_neg c30] at H
    have c30b0 : ((wrap64 (((rd_T76 l0_1 x24_2).f2) + (rd (rd_L3 l2 ((rd_T76 l0_1 x24_2).f1)) a1))) == (rd (rd_L3 l2 ((rd_T76 l0_1 x24_2).f0)) a1)) = false := beq_eq_false_iff_ne.mpr c30
    have c30b1 : ((wrap64 (((rd_T76 l0_1 x24_2).f2) + (rd (rd_L3 l2 ((rd_T76 l0_1 x24_2).f1)) a1))) != (rd (rd_L3 l2 ((rd_T76 l0_1 x24_2).f0)) a1)) = true := bne_iff_ne.mpr c30
    have H' := Aside0.mk H
    clear H
    have p498 : 0 ≤ (x24_2 : Int) := oa_
    have q498 : x24_2 < (l0_1.length : Int) := oa_
    obtain ⟨ad498, e498, hx498_0, hx498_1, hx498_2⟩ := at_T76 HR0_1.out x24_2 p498 q498
    cases e498
    replace hx498_0 := hc5_ HB hx498_0
    replace hx498_1 := hc5_ HB hx498_1
    replace hx498_2 := hc5_ HB hx498_2
    obtain ⟨p498, q498⟩ := et_ p498 q498
    try go_wp2_with ((with_reducible refine gate_dst (N := 9) rfl ?_); refine be_ 9 #[.int .i64 0, .int .i64 0, .int .i64 0] 76 ?_; intro gb499 hg w42 BK499 hb; have GW499 := ge_ HB hg; have GE499 := ge_ HB hg; have NB490_499 := nl_ BK490 hg; have NB499_490 := ng_ BK490 hg; replace HO_7 := rb_ HO_7 hb; replace HB := at_ HB hb; replace BK490 := ab_ BK490 hb; clear hb hg; have hnb43 := NB499_490.out; have hnc43 := NB490_499.out; have hcz44_0 := cz_ BK499 0 (.int .i64 0); have hcz44_1 := cz_ BK499 1 (.int .i64 0); have hcz44_2 := cz_ BK499 2 (.int .i64 0); have hfz44_0 := fz_ BK499 0; have hfz44_1 := fz_ BK499 1; have hfz44_2 := fz_ BK499 2)
    generalize hW_ : (((w42.setCell ⟨gb499, 0, none⟩ (.int .i64 ((rd_T76 l0_1 x24_2).f0))).setCell ⟨gb499, 1, none⟩ (.int .i64 ((rd_T76 l0_1 x24_2).f1))).setCell ⟨gb499, 2, none⟩ (.int .i64 ((rd_T76 l0_1 x24_2).f2))) = w45
    have n0_ : Aside0 (Kd.R (Kd.int .i64) 3 w45 w.heap.size (fun _ => True) (.slice (some ⟨go7, 0, none⟩) x7_2.length co7) x7_2) := by subst hW_; exact ⟨hq_ (Kd.R_mono (Kd.R_far (Kd.R_far (Kd.R_far (Kd.R_types HO_7.out BK499.out (by decide)) (fun _ hk => hk.2) _) (fun _ hk => hk.2) _) (fun _ hk => hk.2) _) (fun _ hk => trivial))⟩
    have n1_ : Aside0 (w45.heap[gb490]? = some (.cells #[.int .i64 a0_0, .slice (some ad498) l0_1.length c0_1] 30 (0, 0))) := by subst hW_; exact ⟨bc_ BK490⟩
    have n2_ : Aside0 (w45.heap[gb499]? = some (.cells #[.int .i64 ((rd_T76 l0_1 x24_2).f0), .int .i64 ((rd_T76 l0_1 x24_2).f1), .int .i64 ((rd_T76 l0_1 x24_2).f2)] 76 (0, 0))) := by subst hW_; exact ⟨by refine bd_ ?_; refine blk_put (cs := #[.int .i64 ((rd_T76 l0_1 x24_2).f0), .int .i64 ((rd_T76 l0_1 x24_2).f1), .int .i64 0]) ?_ 2 _ rfl; refine bd_ ?_; refine blk_put (cs := #[.int .i64 ((rd_T76 l0_1 x24_2).f0), .int .i64 0, .int .i64 0]) ?_ 1 _ rfl; refine bd_ ?_; refine blk_put (cs := #[.int .i64 0, .int .i64 0, .int .i64 0]) ?_ 0 _ rfl; refine bd_ ?_; exact BK499.out⟩
    have n3_ : Aside0 (Below w.heap.size w w45) := by subst hW_; exact ⟨bw115_⟩
    clear hW_ HO_7 BK490 BK499 HB
    have HO_7 := n0_
    have BK490 := n1_
    have BK499 := n2_
    have HB := n3_
    clear n0_ n1_ n2_ n3_
    replace HO_7 := rw5_ HO_7
    replace BK490 := ad_ BK490
    replace BK499 := ad_ BK499
    replace HB := Aside0.mk (below_drew1 HB.out)
    have p500 : 0 ≤ (((rd_T76 l0_1 x24_2).f0) : Int) := oa_
    have q500 : ((rd_T76 l0_1 x24_2).f0) < (l2.length : Int) := oa_
    obtain ⟨ad500, A500_0, c500_0, e500, hx500_0, hl500_0, hi500_0⟩ := at_L3 HR2.out ((rd_T76 l0_1 x24_2).f0) p500 q500
    have hw500_0 := hx500_0
    cases e500
    replace hx500_0 := hc5_ HB hx500_0
    have HR500_0 := Aside0.mk hi500_0
    have HC500_0 := Aside0.mk hl500_0
    clear hi500_0 hl500_0
    obtain ⟨p500, q500⟩ := et_ p500 q500
    have p501 : 0 ≤ (a1 : Int) := oa_
    have q501 : a1 < ((rd_L3 l2 ((rd_T76 l0_1 x24_2).f0)).length : Int) := oa_
    obtain ⟨ad501, e501, hx501_0⟩ := Kd.at_int HR500_0.out a1 p501 q501
    have hw501_0 := hx501_0
    cases e501
    replace hx501_0 := hc5_ HB hx501_0
    obtain ⟨p501, q501⟩ := et_ p501 q501
    have p502 : 0 ≤ (((rd_T76 l0_1 x24_2).f1) : Int) := oa_
    have q502 : ((rd_T76 l0_1 x24_2).f1) < (l2.length : Int) := oa_
    obtain ⟨ad502, A502_0, c502_0, e502, hx502_0, hl502_0, hi502_0⟩ := at_L3 HR2.out ((rd_T76 l0_1 x24_2).f1) p502 q502
    have hw502_0 := hx502_0
    obtain rfl : ad500 = ad502 := (by injection e502)
    replace hx502_0 := hc5_ HB hx502_0
    have HR502_0 := Aside0.mk hi502_0
    have HC502_0 := Aside0.mk hl502_0
    clear hi502_0 hl502_0
    obtain ⟨p502, q502⟩ := et_ p502 q502
    have p503 : 0 ≤ (a1 : Int) := oa_
    have q503 : a1 < ((rd_L3 l2 ((rd_T76 l0_1 x24_2).f1)).length : Int) := oa_
    obtain ⟨ad503, e503, hx503_0⟩ := Kd.at_int HR502_0.out a1 p503 q503
    have hw503_0 := hx503_0
    cases e503
    replace hx503_0 := hc5_ HB hx503_0
    obtain ⟨p503, q503⟩ := et_ p503 q503
    have p504 : 0 ≤ (((rd_T76 l0_1 x24_2).f0) : Int) := oa_
    have q504 : ((rd_T76 l0_1 x24_2).f0) < (l2.length : Int) := oa_
    obtain ⟨ad504, A504_0, c504_0, e504, hx504_0, hl504_0, hi504_0⟩ := at_L3 HR2.out ((rd_T76 l0_1 x24_2).f0) p504 q504
    have hw504_0 := hx504_0
    obtain rfl : ad500 = ad504 := (by injection e504)
    replace hx504_0 := hc5_ HB hx504_0
    have HR504_0 := Aside0.mk hi504_0
    have HC504_0 := Aside0.mk hl504_0
    clear hi504_0 hl504_0
    obtain ⟨p504, q504⟩ := et_ p504 q504
    have ea_ := Option.some.inj (hx500_0.symm.trans hx504_0)
    injection ea_ with ea_ en_ ec_
    subst ea_
    subst ec_
    clear en_
    have p505 : 0 ≤ (a1 : Int) := oa_
    have q505 : a1 < ((rd_L3 l2 ((rd_T76 l0_1 x24_2).f0)).length : Int) := oa_
    obtain ⟨ad505, e505, hx505_0⟩ := Kd.at_int HR504_0.out a1 p505 q505
    have hw505_0 := hx505_0
    cases e505
    replace hx505_0 := hc5_ HB hx505_0
    obtain ⟨p505, q505⟩ := et_ p505 q505
    refine start_ (n := 31) (S := fun w' => w'.cell? ⟨gb499, 0, none⟩ = some (.int .i64 ((rd_T76 l0_1 x24_2).f0)) ∧ w'.cell? ⟨gb499, 1, none⟩ = some (.int .i64 ((rd_T76 l0_1 x24_2).f1)) ∧ w'.cell? ⟨gb499, 2, none⟩ = some (.int .i64 ((rd_T76 l0_1 x24_2).f2)) ∧ w'.cell? (ad500.add (((rd_T76 l0_1 x24_2).f0)).toNat) = some (.slice (some ad501) (rd_L3 l2 ((rd_T76 l0_1 x24_2).f0)).length c500_0) ∧ w'.cell? (ad501.add (a1).toNat) = some (.int .i64 (rd (rd_L3 l2 ((rd_T76 l0_1 x24_2).f0)) a1)) ∧ w'.cell? (ad500.add (((rd_T76 l0_1 x24_2).f1)).toNat) = some (.slice (some ad503) (rd_L3 l2 ((rd_T76 l0_1 x24_2).f1)).length c502_0) ∧ w'.cell? (ad503.add (a1).toNat) = some (.int .i64 (rd (rd_L3 l2 ((rd_T76 l0_1 x24_2).f1)) a1)) ∧ w'.cell? (ad500.add (((rd_T76 l0_1 x24_2).f0)).toNat) = some (.slice (some ad501) (rd_L3 l2 ((rd_T76 l0_1 x24_2).f0)).length c500_0) ∧ w'.cell? (ad501.add (a1).toNat) = some (.int .i64 (rd (rd_L3 l2 ((rd_T76 l0_1 x24_2).f0)) a1))) (ds := []) ba16_0 (by kernel_rfl) rfl rfl ⟨bq5_ BK499 0, bq5_ BK499 1, bq5_ BK499 2, (hc_ HB hw500_0), (hc_ HB hw501_0), (hc_ HB hw502_0), (hc_ HB hw503_0), (hc_ HB hw504_0), (hc_ HB hw505_0)⟩ (fun hHeld => ?_); refine with_tabW impl_Graph_steps.tab8 impl_Graph_steps.bits8 (fun HT_ HW_ => ?_)
    generalize w45.drew = w46 at HO_7 BK490 BK499 HB HR500_0 HR502_0 HR504_0 hx500_0 hx501_0 hx502_0 hx503_0 hx504_0 hx505_0 hHeld ⊢
    refine pz_ 0 28 ba16_1 HT_ ?_
    refine pz_ 1 29 ba16_2 HT_ ?_
    refine pz_ 5 33 ba16_3 HT_ ?_
    refine pt_ 2 30 ba16_4 HT_ HW_ hHeld ?_
    refine pz_ 3 31 ba16_5 HT_ ?_
    refine pt_ 4 32 ba16_6 HT_ HW_ hHeld ?_
    refine pz_ 6 34 ba16_7 HT_ ?_
    refine pt_ 7 35 ba16_8 HT_ HW_ hHeld ?_
    refine pz_ 8 36 ba16_9 HT_ ?_
    refine pz_ 9 37 ba16_10 HT_ ?_
    refine pz_ 10 38 ba16_11 HT_ ?_
    refine pz_ 12 40 ba16_12 HT_ ?_
    refine pz_ 13 41 ba16_13 HT_ ?_
    refine pz_ 17 45 ba16_14 HT_ ?_
    refine pz_ 21 49 ba16_15 HT_ ?_
    refine pz_ 22 50 ba16_16 HT_ ?_
    refine pz_ 26 54 ba16_17 HT_ ?_
    refine pt_ 11 39 ba16_18 HT_ HW_ hHeld ?_
    refine pt_ 14 42 ba16_19 HT_ HW_ hHeld ?_
    refine pz_ 15 43 ba16_20 HT_ ?_
    refine pt_ 16 44 ba16_21 HT_ HW_ hHeld ?_
    refine pz_ 18 46 ba16_22 HT_ ?_
    refine pt_ 19 47 ba16_23 HT_ HW_ hHeld ?_
    refine pz_ 20 48 ba16_24 HT_ ?_
    refine pt_ 23 51 ba16_25 HT_ HW_ hHeld ?_
    refine pz_ 24 52 ba16_26 HT_ ?_
    refine pt_ 25 53 ba16_27 HT_ HW_ hHeld ?_
    refine pz_ 27 55 ba16_28 HT_ ?_
    refine pt_ 28 56 ba16_29 HT_ HW_ hHeld ?_
    refine pz_ 29 57 ba16_30 HT_ ?_
    refine pz_ 30 58 ba16_31 HT_ ?_
    refine done_ (done_of HT_.out (by kernel_rfl)) ?_
    go_wp2
    (try simp only [← hl7_2])
    go_roundg k2
    case measure => have := HK1.out; have := HK2.out; omega
    case rel => exact ⟨(x7_2), (wrap64 (x24_2 + 1)), er_, H', ⟨by have := HK1.out; have := HK2.out; omega⟩, ⟨by (try simp only [hl7_1]); (try simp only [hl7_2]); (with_reducible repeat (first | apply Kd.R_alloc | apply Kd.R_drewN | apply Kd.R_drew)); exact HO_7.out⟩, ⟨by (try simp only [hl7_1]); (try simp only [hl7_2]); refine bd_ ?_; exact BK490.out⟩, ⟨bw115_⟩⟩
   rw [if_pos c30] at H
   have c30b0 : ((wrap64 (((rd_T76 l0_1 x24_2).f2) + (rd (rd_L3 l2 ((rd_T76 l0_1 x24_2).f1)) a1))) == (rd (rd_L3 l2 ((rd_T76 l0_1 x24_2).f0)) a1)) = true := beq_iff_eq.mpr c30
   have c30b1 : ((wrap64 (((rd_T76 l0_1 x24_2).f2) + (rd (rd_L3 l2 ((rd_T76 l0_1 x24_2).f1)) a1))) != (rd (rd_L3 l2 ((rd_T76 l0_1 x24_2).f0)) a1)) = false := bne_eq_false_iff_eq.mpr c30
   clear c30
   obtain ⟨c31b0, H⟩ := iq_ H
   obtain ⟨c32b0, H⟩ := iq_ H
   obtain ⟨ji33, hji33⟩ : ∃ j_ : Int, (mn (rd x7_2 ((rd_T76 l0_1 x24_2).f0)) (wrap64 ((rd x7_2 ((rd_T76 l0_1 x24_2).f1)) + 1))) = j_ := ⟨_, rfl⟩
   first | rw [hji33] at H | simp only [hji33] at H
   have hji33_ : (if (wrap64 ((rd x7_2 ((rd_T76 l0_1 x24_2).f1)) + 1)) < (rd x7_2 ((rd_T76 l0_1 x24_2).f0)) then (wrap64 ((rd x7_2 ((rd_T76 l0_1 x24_2).f1)) + 1)) else (rd x7_2 ((rd_T76 l0_1 x24_2).f0))) = ji33 := hji33
   obtain ⟨y508, hy508⟩ : ∃ y_ : List Int, y_ = (x7_2.set (((rd_T76 l0_1 x24_2).f0) : Int).toNat (ji33)) := ⟨_, rfl⟩
   replace H : (impl_Graph_steps.l1 k2 a1 l2 y508 a0_0 x19_1 l0_1 (l0_1.length : Int) (wrap64 (x24_2 + 1)) a0_0 l0_1) = some r := by first | (rw [hy508]; with_reducible exact H) | (have H2_ := (Option.bind_some _ _).symm.trans H; rw [hy508]; with_reducible exact H2_) | (have H2_ := (Option.bind_some _ _).symm.trans H; with_reducible exact H2_) | with_reducible exact H | (rw [hy508]; exact H) | exact H
   have Ny508 := Aside0.mk hy508
   clear hy508
   have H' := Aside0.mk H
   clear H
   have p498 : 0 ≤ (x24_2 : Int) := oa_
   have q498 : x24_2 < (l0_1.length : Int) := oa_
   obtain ⟨ad498, e498, hx498_0, hx498_1, hx498_2⟩ := at_T76 HR0_1.out x24_2 p498 q498
   cases e498
   replace hx498_0 := hc5_ HB hx498_0
   replace hx498_1 := hc5_ HB hx498_1
   replace hx498_2 := hc5_ HB hx498_2
   obtain ⟨p498, q498⟩ := et_ p498 q498
   try go_wp2_with ((with_reducible refine gate_dst (N := 9) rfl ?_); refine be_ 9 #[.int .i64 0, .int .i64 0, .int .i64 0] 76 ?_; intro gb499 hg w35 BK499 hb; have GW499 := ge_ HB hg; have GE499 := ge_ HB hg; have NB490_499 := nl_ BK490 hg; have NB499_490 := ng_ BK490 hg; replace HO_7 := rb_ HO_7 hb; replace HB := at_ HB hb; replace BK490 := ab_ BK490 hb; clear hb hg; have hnb36 := NB499_490.out; have hnc36 := NB490_499.out; have hcz37_0 := cz_ BK499 0 (.int .i64 0); have hcz37_1 := cz_ BK499 1 (.int .i64 0); have hcz37_2 := cz_ BK499 2 (.int .i64 0); have hfz37_0 := fz_ BK499 0; have hfz37_1 := fz_ BK499 1; have hfz37_2 := fz_ BK499 2)
   generalize hW_ : (((w35.setCell ⟨gb499, 0, none⟩ (.int .i64 ((rd_T76 l0_1 x24_2).f0))).setCell ⟨gb499, 1, none⟩ (.int .i64 ((rd_T76 l0_1 x24_2).f1))).setCell ⟨gb499, 2, none⟩ (.int .i64 ((rd_T76 l0_1 x24_2).f2))) = w38
   have n0_ : Aside0 (Kd.R (Kd.int .i64) 3 w38 w.heap.size (fun _ => True) (.slice (some ⟨go7, 0, none⟩) x7_2.length co7) x7_2) := by subst hW_; exact ⟨hq_ (Kd.R_mono (Kd.R_far (Kd.R_far (Kd.R_far (Kd.R_types HO_7.out BK499.out (by decide)) (fun _ hk => hk.2) _) (fun _ hk => hk.2) _) (fun _ hk => hk.2) _) (fun _ hk => trivial))⟩
   have n1_ : Aside0 (w38.heap[gb490]? = some (.cells #[.int .i64 a0_0, .slice (some ad498) l0_1.length c0_1] 30 (0, 0))) := by subst hW_; exact ⟨bc_ BK490⟩
   have n2_ : Aside0 (w38.heap[gb499]? = some (.cells #[.int .i64 ((rd_T76 l0_1 x24_2).f0), .int .i64 ((rd_T76 l0_1 x24_2).f1), .int .i64 ((rd_T76 l0_1 x24_2).f2)] 76 (0, 0))) := by subst hW_; exact ⟨by refine bd_ ?_; refine blk_put (cs := #[.int .i64 ((rd_T76 l0_1 x24_2).f0), .int .i64 ((rd_T76 l0_1 x24_2).f1), .int .i64 0]) ?_ 2 _ rfl; refine bd_ ?_; refine blk_put (cs := #[.int .i64 ((rd_T76 l0_1 x24_2).f0), .int .i64 0, .int .i64 0]) ?_ 1 _ rfl; refine bd_ ?_; refine blk_put (cs := #[.int .i64 0, .int .i64 0, .int .i64 0]) ?_ 0 _ rfl; refine bd_ ?_; exact BK499.out⟩
   have n3_ : Aside0 (Below w.heap.size w w38) := by subst hW_; exact ⟨bw115_⟩
   clear hW_ HO_7 BK490 BK499 HB
   have HO_7 := n0_
   have BK490 := n1_
   have BK499 := n2_
   have HB := n3_
   clear n0_ n1_ n2_ n3_
   replace HO_7 := rw5_ HO_7
   replace BK490 := ad_ BK490
   replace BK499 := ad_ BK499
   replace HB := Aside0.mk (below_drew1 HB.out)
   have p500 : 0 ≤ (((rd_T76 l0_1 x24_2).f0) : Int) := oa_
   have q500 : ((rd_T76 l0_1 x24_2).f0) < (l2.length : Int) := oa_
   obtain ⟨ad500, A500_0, c500_0, e500, hx500_0, hl500_0, hi500_0⟩ := at_L3 HR2.out ((rd_T76 l0_1 x24_2).f0) p500 q500
   have hw500_0 := hx500_0
   cases e500
   replace hx500_0 := hc5_ HB hx500_0
   have HR500_0 := Aside0.mk hi500_0
   have HC500_0 := Aside0.mk hl500_0
   clear hi500_0 hl500_0
   obtain ⟨p500, q500⟩ := et_ p500 q500
   have p501 : 0 ≤ (a1 : Int) := oa_
   have q501 : a1 < ((rd_L3 l2 ((rd_T76 l0_1 x24_2).f0)).length : Int) := oa_
   obtain ⟨ad501, e501, hx501_0⟩ := Kd.at_int HR500_0.out a1 p501 q501
   have hw501_0 := hx501_0
   cases e501
   replace hx501_0 := hc5_ HB hx501_0
   obtain ⟨p501, q501⟩ := et_ p501 q501
   have p502 : 0 ≤ (((rd_T76 l0_1 x24_2).f1) : Int) := oa_
   have q502 : ((rd_T76 l0_1 x24_2).f1) < (l2.length : Int) := oa_
   obtain ⟨ad502, A502_0, c502_0, e502, hx502_0, hl502_0, hi502_0⟩ := at_L3 HR2.out ((rd_T76 l0_1 x24_2).f1) p502 q502
   have hw502_0 := hx502_0
   obtain rfl : ad500 = ad502 := (by injection e502)
   replace hx502_0 := hc5_ HB hx502_0
   have HR502_0 := Aside0.mk hi502_0
   have HC502_0 := Aside0.mk hl502_0
   clear hi502_0 hl502_0
   obtain ⟨p502, q502⟩ := et_ p502 q502
   have p503 : 0 ≤ (a1 : Int) := oa_
   have q503 : a1 < ((rd_L3 l2 ((rd_T76 l0_1 x24_2).f1)).length : Int) := oa_
   obtain ⟨ad503, e503, hx503_0⟩ := Kd.at_int HR502_0.out a1 p503 q503
   have hw503_0 := hx503_0
   cases e503
   replace hx503_0 := hc5_ HB hx503_0
   obtain ⟨p503, q503⟩ := et_ p503 q503
   have p504 : 0 ≤ (((rd_T76 l0_1 x24_2).f0) : Int) := oa_
   have q504 : ((rd_T76 l0_1 x24_2).f0) < (l2.length : Int) := oa_
   obtain ⟨ad504, A504_0, c504_0, e504, hx504_0, hl504_0, hi504_0⟩ := at_L3 HR2.out ((rd_T76 l0_1 x24_2).f0) p504 q504
   have hw504_0 := hx504_0
   obtain rfl : ad500 = ad504 := (by injection e504)
   replace hx504_0 := hc5_ HB hx504_0
   have HR504_0 := Aside0.mk hi504_0
   have HC504_0 := Aside0.mk hl504_0
   clear hi504_0 hl504_0
   obtain ⟨p504, q504⟩ := et_ p504 q504
   have ea_ := Option.some.inj (hx500_0.symm.trans hx504_0)
   injection ea_ with ea_ en_ ec_
   subst ea_
   subst ec_
   clear en_
   have p505 : 0 ≤ (a1 : Int) := oa_
   have q505 : a1 < ((rd_L3 l2 ((rd_T76 l0_1 x24_2).f0)).length : Int) := oa_
   obtain ⟨ad505, e505, hx505_0⟩ := Kd.at_int HR504_0.out a1 p505 q505
   have hw505_0 := hx505_0
   cases e505
   replace hx505_0 := hc5_ HB hx505_0
   obtain ⟨p505, q505⟩ := et_ p505 q505
   refine start_ (n := 31) (S := fun w' => w'.cell? ⟨gb499, 0, none⟩ = some (.int .i64 ((rd_T76 l0_1 x24_2).f0)) ∧ w'.cell? ⟨gb499, 1, none⟩ = some (.int .i64 ((rd_T76 l0_1 x24_2).f1)) ∧ w'.cell? ⟨gb499, 2, none⟩ = some (.int .i64 ((rd_T76 l0_1 x24_2).f2)) ∧ w'.cell? (ad500.add (((rd_T76 l0_1 x24_2).f0)).toNat) = some (.slice (some ad501) (rd_L3 l2 ((rd_T76 l0_1 x24_2).f0)).length c500_0) ∧ w'.cell? (ad501.add (a1).toNat) = some (.int .i64 (rd (rd_L3 l2 ((rd_T76 l0_1 x24_2).f0)) a1)) ∧ w'.cell? (ad500.add (((rd_T76 l0_1 x24_2).f1)).toNat) = some (.slice (some ad503) (rd_L3 l2 ((rd_T76 l0_1 x24_2).f1)).length c502_0) ∧ w'.cell? (ad503.add (a1).toNat) = some (.int .i64 (rd (rd_L3 l2 ((rd_T76 l0_1 x24_2).f1)) a1)) ∧ w'.cell? (ad500.add (((rd_T76 l0_1 x24_2).f0)).toNat) = some (.slice (some ad501) (rd_L3 l2 ((rd_T76 l0_1 x24_2).f0)).length c500_0) ∧ w'.cell? (ad501.add (a1).toNat) = some (.int .i64 (rd (rd_L3 l2 ((rd_T76 l0_1 x24_2).f0)) a1))) (ds := []) ba16_0 (by kernel_rfl) rfl rfl ⟨bq5_ BK499 0, bq5_ BK499 1, bq5_ BK499 2, (hc_ HB hw500_0), (hc_ HB hw501_0), (hc_ HB hw502_0), (hc_ HB hw503_0), (hc_ HB hw504_0), (hc_ HB hw505_0)⟩ (fun hHeld => ?_); refine with_tabW impl_Graph_steps.tab8 impl_Graph_steps.bits8 (fun HT_ HW_ => ?_)
   generalize w38.drew = w39 at HO_7 BK490 BK499 HB HR500_0 HR502_0 HR504_0 hx500_0 hx501_0 hx502_0 hx503_0 hx504_0 hx505_0 hHeld ⊢
   refine pz_ 0 28 ba16_1 HT_ ?_
   refine pz_ 1 29 ba16_2 HT_ ?_
   refine pz_ 5 33 ba16_3 HT_ ?_
   refine pt_ 2 30 ba16_4 HT_ HW_ hHeld ?_
   refine pz_ 3 31 ba16_5 HT_ ?_
   refine pt_ 4 32 ba16_6 HT_ HW_ hHeld ?_
   refine pz_ 6 34 ba16_7 HT_ ?_
   refine pt_ 7 35 ba16_8 HT_ HW_ hHeld ?_
   refine pz_ 8 36 ba16_9 HT_ ?_
   refine pz_ 9 37 ba16_10 HT_ ?_
   refine pz_ 10 38 ba16_11 HT_ ?_
   refine pz_ 12 40 ba16_12 HT_ ?_
   refine pz_ 13 41 ba16_13 HT_ ?_
   refine pz_ 17 45 ba16_14 HT_ ?_
   refine pz_ 21 49 ba16_15 HT_ ?_
   refine pz_ 22 50 ba16_16 HT_ ?_
   refine pz_ 26 54 ba16_17 HT_ ?_
   refine pt_ 11 39 ba16_18 HT_ HW_ hHeld ?_
   refine pt_ 14 42 ba16_19 HT_ HW_ hHeld ?_
   refine pz_ 15 43 ba16_20 HT_ ?_
   refine pt_ 16 44 ba16_21 HT_ HW_ hHeld ?_
   refine pz_ 18 46 ba16_22 HT_ ?_
   refine pt_ 19 47 ba16_23 HT_ HW_ hHeld ?_
   refine pz_ 20 48 ba16_24 HT_ ?_
   refine pt_ 23 51 ba16_25 HT_ HW_ hHeld ?_
   refine pz_ 24 52 ba16_26 HT_ ?_
   refine pt_ 25 53 ba16_27 HT_ HW_ hHeld ?_
   refine pz_ 27 55 ba16_28 HT_ ?_
   refine pt_ 28 56 ba16_29 HT_ HW_ hHeld ?_
   refine pz_ 29 57 ba16_30 HT_ ?_
   refine pz_ 30 58 ba16_31 HT_ ?_
   refine done_ (done_of HT_.out (by kernel_rfl)) ?_
   go_wp2
   replace HO_7 := rw5_ HO_7
   replace BK490 := ad_ BK490
   replace BK499 := ad_ BK499
   replace HB := Aside0.mk (below_drew1 HB.out)
   have p506 : 0 ≤ (((rd_T76 l0_1 x24_2).f0) : Int) := oa_
   have q506 : ((rd_T76 l0_1 x24_2).f0) < (x7_2.length : Int) := oa_
   obtain ⟨ad506, e506, hx506_0⟩ := Kd.at_int (Kd.R_reads' HO_7.out).2.2 ((rd_T76 l0_1 x24_2).f0) p506 q506
   obtain rfl : (⟨go7, 0, none⟩ : Addr) = ad506 := (by injection e506)
   simp only [add_plain] at hx506_0
   obtain ⟨p506, q506⟩ := et_ p506 q506
   have p507 : 0 ≤ (((rd_T76 l0_1 x24_2).f1) : Int) := oa_
   have q507 : ((rd_T76 l0_1 x24_2).f1) < (x7_2.length : Int) := oa_
   obtain ⟨ad507, e507, hx507_0⟩ := Kd.at_int (Kd.R_reads' HO_7.out).2.2 ((rd_T76 l0_1 x24_2).f1) p507 q507
   obtain rfl : (⟨go7, 0, none⟩ : Addr) = ad507 := (by injection e507)
   simp only [add_plain] at hx507_0
   obtain ⟨p507, q507⟩ := et_ p507 q507
   have p34 : 0 ≤ (((rd_T76 l0_1 x24_2).f0) : Int) := oa_
   have q34 : (((rd_T76 l0_1 x24_2).f0) : Int) < ((x7_2.length : Int) : Int) := oa_
   obtain ⟨hx34_0, hf34_0⟩ := Kd.R_celln 0 HO_7.out (((rd_T76 l0_1 x24_2).f0) : Int) p34 q34
   obtain ⟨p34, q34⟩ := et_ p34 q34
   have HP41 := Kd.R_putn HO_7.out (((rd_T76 l0_1 x24_2).f0) : Int) ji33
   rw [← Ny508.out] at HP41
   have HQ41 := Aside0.mk HP41
   clear HP41
   refine start_ (n := 17) (S := fun w' => w'.cell? ⟨gb499, 0, none⟩ = some (.int .i64 ((rd_T76 l0_1 x24_2).f0)) ∧ w'.cell? ⟨gb499, 1, none⟩ = some (.int .i64 ((rd_T76 l0_1 x24_2).f1)) ∧ w'.cell? ⟨gb499, 2, none⟩ = some (.int .i64 ((rd_T76 l0_1 x24_2).f2)) ∧ w'.cell? ⟨go7, (((rd_T76 l0_1 x24_2).f0)).toNat, none⟩ = some (.int .i64 (rd x7_2 ((rd_T76 l0_1 x24_2).f0))) ∧ w'.cell? ⟨go7, (((rd_T76 l0_1 x24_2).f1)).toNat, none⟩ = some (.int .i64 (rd x7_2 ((rd_T76 l0_1 x24_2).f1)))) (ds := [16]) ba16_32 (by kernel_rfl) rfl rfl ⟨bq5_ BK499 0, bq5_ BK499 1, bq5_ BK499 2, hx506_0, hx507_0⟩ (fun hHeld => ?_); refine with_tabW impl_Graph_steps.tab9 impl_Graph_steps.bits9 (fun HT_ HW_ => ?_)
   generalize w39.drew = w40 at HO_7 BK490 BK499 HB HQ41 hf34_0 hx34_0 hx506_0 hx507_0 hHeld ⊢
   refine pz_ 0 59 ba16_33 HT_ ?_
   refine pz_ 1 60 ba16_34 HT_ ?_
   refine pz_ 3 62 ba16_35 HT_ ?_
   refine pz_ 4 63 ba16_36 HT_ ?_
   refine pz_ 8 67 ba16_37 HT_ ?_
   refine pz_ 9 68 ba16_38 HT_ ?_
   refine pt_ 2 61 ba16_39 HT_ HW_ hHeld ?_
   refine pt_ 5 64 ba16_40 HT_ HW_ hHeld ?_
   refine pz_ 6 65 ba16_41 HT_ ?_
   refine pt_ 7 66 ba16_42 HT_ HW_ hHeld ?_
   refine pt_ 10 69 ba16_43 HT_ HW_ hHeld ?_
   refine pz_ 11 70 ba16_44 HT_ ?_
   refine pt_ 12 71 ba16_45 HT_ HW_ hHeld ?_
   refine pz_ 13 72 ba16_46 HT_ ?_
   refine pz_ 14 73 ba16_47 HT_ ?_
   refine pz_ 15 74 ba16_48 HT_ ?_
   refine last_ (i := 16) (N := none) ba16_49 rfl rfl (one_of HT_.out (by kernel_rfl)) (by decide) (fun K hK => ?_)
   refine skip_ (w1 := ?_) (by rfl) rfl ?_ ?_
   rotate_left; · go_simp; rfl
   refine hK.out _ _ ?_
   clear hK K
   refine done_ (done_of HT_.out (by kernel_rfl)) ?_
   go_wp2
   (try simp only [← hl7_2])
   go_roundg k2
   case measure => have := HK1.out; have := HK2.out; omega
   case rel => exact ⟨(y508), (wrap64 (x24_2 + 1)), er_, H', ⟨by have := HK1.out; have := HK2.out; omega⟩, ⟨by (try simp only [hl7_1]); (try simp only [hl7_2]); (with_reducible repeat (first | apply Kd.R_alloc | apply Kd.R_drewN | apply Kd.R_drew)); exact HQ41.out⟩, ⟨by (try simp only [hl7_1]); (try simp only [hl7_2]); refine bd_ ?_; refine blk_far ?_ (by have h_ := Kd.R_ne HO_7.out BK490.out (by decide); intro e_; exact h_ (by rw [e_]; rfl)) _; refine bd_ ?_; exact BK490.out⟩, ⟨by repeat (first | (with_reducible first | exact HB.out | apply below_alloc | apply pw_below_drewN | apply below_drew1 | refine below_set ?_ GB7.out | refine below_set ?_ GE490.out | refine below_set ?_ GE499.out) | exact HB.out)⟩⟩
end Go.Proofs.Ythmahcohcphljaa.QFnCheapest
