/- Contracts of functions that the law reaches: what each call returns and what it leaves in memory. Made by this session over the print of the kit. -/
import Derived.Test.YthmahcohcphljaaQFnCheapestx0
import Derived.Test.YthmahcohcphljaaQFnCheapestx1
import Derived.Test.YthmahcohcphljaaQFnCheapestx2
import Derived.Test.YthmahcohcphljaaQFnCheapestx6
import Derived.Test.YthmahcohcphljaaQFnCheapestx7
import Derived.Test.YthmahcohcphljaaQFnCheapestx12
import Derived.Test.YthmahcohcphljaaQFnCheapestx15
import Derived.Test.YthmahcohcphljaaQFnCheapestx17
import Derived.Test.YthmahcohcphljaaQFnCheapestx20
import Derived.Test.YthmahcohcphljaaQFnCheapestx21
namespace Go.Proofs.Ythmahcohcphljaa.QFnCheapest
open Go.RowKit Go.Proofs.YthmahcohcphljaaC.PrintWords Go.Proofs.YthmahcohcphljaaC.PrintLast Go.Proofs.YthmahcohcphljaaC.PrintMore
attribute [local go_sem] max2_int min2_int max_two min_two max_three min_three max_four min_four
set_option linter.unusedVariables false
set_option linter.unusedSimpArgs false
def ba23_0 := bs_ 27 0
def ba23_1 := bs_ 27 2
def ba23_2 := bs_ 27 18
def ba23_3 := bs_ 27 82
def ba23_4 := bs_ 27 83
def ba23_5 := bs_ 27 91
def ba23_6 := bs_ 27 95
def ba23_7 := bs_ 27 127
def ba23_8 := bs_ 27 255
def ba23_9 := bs_ 27 511
def ba23_10 := bs_ 27 1023
def ba23_11 := bs_ 27 2047
def ba23_12 := bs_ 27 4095
def ba23_13 := bs_ 27 8191
def ba23_14 := bs_ 27 24575
def ba23_15 := bs_ 27 32767
def ba23_16 := bs_ 27 65535
def ba23_17 := bs_ 27 131071
def ba23_18 := bs_ 27 262143
def ba23_19 := bs_ 27 524287
def ba23_20 := bs_ 27 1048575
def ba23_21 := bs_ 27 2097151
def ba23_22 := bs_ 27 4194303
def ba23_23 := bs_ 27 8388607
def ba23_24 := bs_ 27 25165823
def ba23_25 := bs_ 27 33554431
def ba23_26 := bs_ 27 67108863
def ba23_27 := bs_ 27 134217727
def ba23_28 := bs_ 27 16777215
def ba23_29 := bs_ 27 16383
def ba23_30 := bs_ 9 0
def ba23_31 := bs_ 9 2
def ba23_32 := bs_ 9 6
def ba23_33 := bs_ 9 14
def ba23_34 := bs_ 9 30
def ba23_35 := bs_ 9 62
def ba23_36 := bs_ 9 63
def ba23_37 := bs_ 9 127
def ba23_38 := bs_ 9 255
def ba23_39 := bs_ 9 511
def ba23_40 := bs_ 21 0
def ba23_41 := bs_ 21 1
def ba23_42 := bs_ 21 3
def ba23_43 := bs_ 21 7
def ba23_44 := bs_ 21 15
def ba23_45 := bs_ 21 31
def ba23_46 := bs_ 21 63
def ba23_47 := bs_ 21 191
def ba23_48 := bs_ 21 447
def ba23_49 := bs_ 21 959
def ba23_50 := bs_ 21 3007
def ba23_51 := bs_ 21 11199
def ba23_52 := bs_ 21 27583
def ba23_53 := bs_ 21 60351
def ba23_54 := bs_ 21 125887
def ba23_55 := bs_ 21 125951
def ba23_56 := bs_ 21 126975
def ba23_57 := bs_ 21 258047
def ba23_58 := bs_ 21 262143
def ba23_59 := bs_ 21 524287
def ba23_60 := bs_ 21 1048575
def ba23_61 := bs_ 21 2097151
def ba23_62 := bs_ 21 127
def ba23_63 := bs_ 21 255
def ba23_64 := bs_ 21 511
def ba23_65 := bs_ 21 1023
def ba23_66 := bs_ 21 2047
def ba23_67 := bs_ 21 4095
def ba23_68 := bs_ 21 8191
def ba23_69 := bs_ 21 16383
def ba23_70 := bs_ 21 32767
def ba23_71 := bs_ 21 65535
def ba23_72 := bs_ 21 131071
mutual
def laws_FnCheapest.j0 : Nat → Int → Int → Bool → List Int → Bool → Int → List (S76) → Option (Bool)
 | 0, _, _, _, _, _, _, _ => none
 | k + 1, x4, x5, x7, x8, x42, x620000, x620001 => if x42 = true then (some false) else ((impl_CountWays.f k x620000 x620001 x4 x5).bind fun t629 => ((spec_CountWays.f k x620000 x620001 x4 x5).bind fun t630 => (if t629 = t630 then (laws_FnCheapest.j1 k x4 x5 x7 x8 ((decide (t629 > 0)) != x7) x620000 x620001) else (laws_FnCheapest.j1 k x4 x5 x7 x8 true x620000 x620001))))
def laws_FnCheapest.j1 : Nat → Int → Int → Bool → List Int → Bool → Int → List (S76) → Option (Bool)
 | 0, _, _, _, _, _, _, _ => none
 | k + 1, x4, x5, x7, x8, x58, x620000, x620001 => if x58 = true then (some false) else (if x7 = true then ((impl_WayCost.f k x620000 x620001 x8).bind fun t631 => ((spec_Distances.f k x620000 x620001 x4).bind fun t632 => (if 0 ≤ x5 then (if x5 < (t632.length : Int) then (if t631 = (rd t632 x5) then (if 0 < (x8.length : Int) then (if (rd x8 0) = x4 then (if 0 ≤ (wrap64 ((x8.length : Int) - 1)) then (if (wrap64 ((x8.length : Int) - 1)) < (x8.length : Int) then (laws_FnCheapest.j2 k x4 x5 x8 ((rd x8 (wrap64 ((x8.length : Int) - 1))) != x5) x620000 x620001) else (none)) else (none)) else (laws_FnCheapest.j2 k x4 x5 x8 true x620000 x620001)) else (none)) else (laws_FnCheapest.j2 k x4 x5 x8 true x620000 x620001)) else (none)) else (none)))) else (some true))
def laws_FnCheapest.j2 : Nat → Int → Int → List Int → Bool → Int → List (S76) → Option (Bool)
 | 0, _, _, _, _, _, _ => none
 | k + 1, x4, x5, x8, x87, x620000, x620001 => if x87 = true then (some false) else (laws_FnCheapest.l0 k x4 x5 x8 0 x620000 x620001)
def laws_FnCheapest.l0 : Nat → Int → Int → List Int → Int → Int → List (S76) → Option (Bool)
 | 0, _, _, _, _, _, _ => none
 | k + 1, x4, x5, x8, x11, x620000, x620001 => if x11 < (x8.length : Int) then (if 0 ≤ x11 then ((impl_OnWay.f k x620000 x620001 x4 x5 (rd x8 x11)).bind fun t639 => (if t639 = true then (if (wrap64 (x11 + 1)) < (x8.length : Int) then ((impl_HopsTo.f k x620000 x620001 (rd x8 x11) x5).bind fun t641 => (if 0 ≤ (wrap64 (x11 + 1)) then ((laws_within.f k t641 (rd x8 (wrap64 (x11 + 1)))).bind fun t645 => (if t645 = true then (laws_FnCheapest.l0 k x4 x5 x8 (wrap64 (x11 + 1)) x620000 x620001) else (some false))) else (none))) else (laws_FnCheapest.l0 k x4 x5 x8 (wrap64 (x11 + 1)) x620000 x620001)) else (some false))) else (none)) else (some true)
end
def laws_FnCheapest.f (k : Nat) (l0 : List Int) : Option (Bool) := (laws_big.f l0).bind fun t612 => (if t612 = true then (some true) else ((spec_DrawCheapestWay.f k l0).bind fun bt613 => ((spec_CheapestWay.f k bt613.1 bt613.2.1 bt613.2.2.1 bt613.2.2.2).bind fun bt620 => ((impl_CheapestWay.f k bt613.1 bt613.2.1 bt613.2.2.1 bt613.2.2.2).bind fun bt624 => (if (bt624.2 != bt620.2) = true then (laws_FnCheapest.j0 k bt613.2.2.1 bt613.2.2.2 bt620.2 bt624.1 true bt613.1 bt613.2.1) else ((laws_same.f k bt624.1 bt620.1).bind fun t628 => (laws_FnCheapest.j0 k bt613.2.2.1 bt613.2.2.2 bt620.2 bt624.1 (!t628) bt613.1 bt613.2.1)))))))
def laws_FnCheapest.T13 : Bool × List (List Nat × List Nat) := (true, [([], []), ([], []), ([0, 1], [0, 1]), ([], []), ([], []), ([3, 4, 2], [3, 4]), ([], []), ([5, 6], [5, 6]), ([7], [7]), ([2, 8], [2, 8]), ([9, 5], [9]), ([10], [10]), ([11, 10], [10, 11]), ([12, 10], [10, 12]), ([10], [10]), ([13, 14, 10], [10, 13, 14]), ([10, 15], [10, 15]), ([16, 10], [16]), ([17], [17]), ([17], [17]), ([19, 17], [17, 19]), ([20, 17], [17, 20]), ([18, 21, 17], [17, 18, 21]), ([22, 17], [17, 22]), ([17], [17]), ([23, 24, 17], [17, 23, 24]), ([17, 25], [17, 25])])
def laws_FnCheapest.B13 : List Nat := [0, 0, 3, 0, 0, 31, 0, 127, 255, 511, 1023, 2047, 4095, 8191, 2047, 32767, 65535, 131071, 262143, 262143, 786431, 1835007, 4194303, 8388607, 262143, 33554431, 67108863]
theorem laws_FnCheapest.tab13 : rtab .any (opsOf Try.f9 13) = laws_FnCheapest.T13 := by kernel_rfl
theorem laws_FnCheapest.bits13 : waitsOk laws_FnCheapest.T13.2 laws_FnCheapest.B13 = true := by kernel_rfl
def laws_FnCheapest.T18 : Bool × List (List Nat × List Nat) := (true, [([], []), ([], []), ([], []), ([], []), ([], []), ([3, 4], [3, 4]), ([5], [5]), ([0, 1, 2, 6], [0, 1, 2, 6]), ([7], [7])])
def laws_FnCheapest.B18 : List Nat := [0, 0, 0, 0, 0, 24, 56, 127, 255]
theorem laws_FnCheapest.tab18 : rtab .any (opsOf Try.f9 18) = laws_FnCheapest.T18 := by kernel_rfl
theorem laws_FnCheapest.bits18 : waitsOk laws_FnCheapest.T18.2 laws_FnCheapest.B18 = true := by kernel_rfl
def laws_FnCheapest.T20 : Bool × List (List Nat × List Nat) := (true, [([], []), ([0], [0]), ([], []), ([2], [2]), ([1, 3], [1, 3]), ([4], [4]), ([5], [5]), ([5], [5]), ([5], [5]), ([7, 8, 5], [5, 7, 8]), ([9, 5], [5, 9]), ([5], [5]), ([6, 10, 11, 5, 5], [5, 6, 10, 11]), ([5], [5]), ([5], [5]), ([14, 5], [5, 14]), ([13, 15, 5], [5, 13, 15]), ([16, 5], [5, 16]), ([12, 17, 12, 5], [5, 12, 17]), ([18, 5], [5, 18]), ([5, 19], [5, 19])])
def laws_FnCheapest.B20 : List Nat := [0, 1, 0, 4, 15, 31, 63, 63, 63, 447, 959, 63, 4095, 63, 63, 16447, 57407, 122943, 262143, 524287, 1048575]
theorem laws_FnCheapest.tab20 : rtab .any (opsOf Try.f9 20) = laws_FnCheapest.T20 := by kernel_rfl
theorem laws_FnCheapest.bits20 : waitsOk laws_FnCheapest.T20.2 laws_FnCheapest.B20 = true := by kernel_rfl
set_option maxHeartbeats 8000000 in
set_option maxRecDepth 100000 in
theorem laws_FnCheapest.calls (k : Nat) (A0 : Option Addr) (c0 : Nat) (l0 : List Int) (r : Bool) (w : World) (hr0 : Kd.C (Kd.int .u8) w A0 l0.length l0) (hc0 : l0.length ≤ c0) (h : laws_FnCheapest.f k l0 = some r) :
  Calls Try.prog 9 #[.slice A0 l0.length c0] w fun e w' => e = .returned (.bool r) ∧ Below w.heap.size w w' := by
 have hu30 := Try.underlying30
 have HR0 := Aside0.mk hr0
 have HC0 := Aside0.mk hc0
 clear hr0 hc0
 have HB := Aside0.mk (Below.refl w.heap.size w)
 have H : ((laws_big.f l0).bind fun t612 => (if t612 = true then (some true) else ((spec_DrawCheapestWay.f k l0).bind fun bt613 => ((spec_CheapestWay.f k bt613.1 bt613.2.1 bt613.2.2.1 bt613.2.2.2).bind fun bt620 => ((impl_CheapestWay.f k bt613.1 bt613.2.1 bt613.2.2.1 bt613.2.2.2).bind fun bt624 => (if (bt624.2 != bt620.2) = true then (laws_FnCheapest.j0 k bt613.2.2.1 bt613.2.2.2 bt620.2 bt624.1 true bt613.1 bt613.2.1) else ((laws_same.f k bt624.1 bt620.1).bind fun t628 => (laws_FnCheapest.j0 k bt613.2.2.1 bt613.2.2.2 bt620.2 bt624.1 (!t628) bt613.1 bt613.2.1)))))))) = some r := h
 clear h
 obtain ⟨t612, A2, H⟩ := ob_ H
 by_cases c3 : t612 = true
 ·subst c3
  rw [if_pos rfl] at H
  obtain rfl := Option.some.inj H
  go_enter Try.func9, Try.ntmps9
  go_wp2_with ((with_reducible refine gate_callee (f := 23) rfl ?_); refine gl_ (some 13) Try.func23 #[.slice A0 l0.length c0] ?_; (with_reducible refine (laws_big.calls _ _ l0 true _ ?side1 ?side2 A2.out).mono ?_); (case side1 => repeat (first | exact HR0.out | (with_reducible refine Kd.C_alloc ?_ _) | (with_reducible refine Kd.C_drewN ?_ _) | (with_reducible refine Kd.C_drew ?_))); (case side2 => exact HC0.out); rintro e w' ⟨rfl, ⟨nd, rfl⟩⟩; refine ⟨_, rfl, ?_⟩)
  go_ret
  exact ⟨ew_, bw115_⟩
 replace c3 := Bool.eq_false_iff.mpr c3
 subst c3
 rw [if_neg (show ¬ (false = true) by decide)] at H
 obtain ⟨⟨t613, t614, t617, t618⟩, A4, H⟩ := ob_ H
 obtain ⟨⟨t620, t623⟩, A5, H⟩ := ob_ H
 obtain ⟨⟨t624, t627⟩, A6, H⟩ := ob_ H
 have HC7 := Aside0.mk H
 clear H
 go_enter Try.func9, Try.ntmps9
 go_upto_region 6 with (first | ((with_reducible refine gate_callee (f := 23) rfl ?_); refine gl_ (some 13) Try.func23 #[.slice A0 l0.length c0] ?_; (with_reducible refine (laws_big.calls _ _ l0 false _ ?side1 ?side2 A2.out).mono ?_); (case side1 => repeat (first | exact HR0.out | (with_reducible refine Kd.C_alloc ?_ _) | (with_reducible refine Kd.C_drewN ?_ _) | (with_reducible refine Kd.C_drew ?_))); (case side2 => exact HC0.out); rintro e w' ⟨rfl, ⟨nd, rfl⟩⟩; refine ⟨_, rfl, ?_⟩) | ((with_reducible refine gate_callee (f := 38) rfl ?_); refine gl_ (some 16) Try.func38 #[.slice A0 l0.length c0] ?_; (with_reducible refine (spec_DrawCheapestWay.calls k _ _ l0 t613 t614 t617 t618 _ ?side1 ?side2 A4.out).mono ?_); (case side1 => repeat (first | exact HR0.out | (with_reducible refine Kd.C_alloc ?_ _) | (with_reducible refine Kd.C_drewN ?_ _) | (with_reducible refine Kd.C_drew ?_))); (case side2 => exact HC0.out); rintro e w8 ⟨v615, rfl, ho0, hb⟩; refine ⟨_, rfl, ?_⟩; have HO616 := Aside0.mk (Kd.R_lower ho0 (bz_ HB)); replace HB := at_ HB hb; clear hb ho0) | ((with_reducible refine gate_dst (N := 3) rfl ?_); refine be_ 3 #[.int .i64 0, .slice none 0 0] 30 ?_; intro gb619 hg w9 BK619 hb; have GW619 := ge_ HB hg; have GE619 := ge_ HB hg; replace HO616 := rb_ HO616 hb; replace HB := at_ HB hb; clear hb hg; have hcz10_0 := cz_ BK619 0 (.int .i64 0); have hcz10_1 := cz_ BK619 1 (.slice none 0 0); have hfz10_0 := fz_ BK619 0; have hfz10_1 := fz_ BK619 1; obtain ⟨Ao11, co11, eo11⟩ := Kd.R_slice HO616.out; subst eo11) | ((with_reducible refine gate_callee (f := 39) rfl ?_); refine gl_ (some 24) Try.func39 #[.agg #[.int .i64 t613, .slice Ao11 t614.length co11], .int .i64 t617, .int .i64 t618] ?_; (with_reducible refine (spec_CheapestWay.calls k t613 _ _ t614 t617 t618 t620 t623 _ ?side1 ?side2 A5.out).mono ?_); (case side1 => refine (Kd.R_reads' (e := 76) (base := w.heap.size) (ok := fun k_ => True) (n := t614.length) (c := co11) ?_).2.2; exact (hs_ HO616 BK619)); (case side2 => exact (Kd.R_reads' HO616.out).2.1); rintro e w12 ⟨v621, rfl, ho0, hb⟩; refine ⟨_, rfl, ?_⟩; have HO622 := Aside0.mk (Kd.R_lower ho0 (bz_ HB)); replace HO616 := rs_ HO616 BK619 hb; replace BK619 := Aside0.mk (blk_below (g := gb619) (o := .cells #[.int .i64 t613, .slice Ao11 t614.length co11] 30 (0, 0)) (by refine bd_ ?_; refine blk_put (cs := #[.int .i64 t613, .slice none 0 0]) ?_ 1 _ rfl; refine bd_ ?_; refine blk_put (cs := #[.int .i64 0, .slice none 0 0]) ?_ 0 _ rfl; refine bd_ ?_; exact BK619.out) hb); replace HB := at_ HB hb; clear hb ho0; have hcz13_0 := cz_ BK619 0 (.int .i64 t613); have hcz13_1 := cz_ BK619 1 (.slice Ao11 t614.length co11); have hfz13_0 := fz_ BK619 0; have hfz13_1 := fz_ BK619 1) | ((with_reducible refine gate_callee (f := 40) rfl ?_); refine gl_ (some 31) Try.func40 #[.agg #[.int .i64 t613, .slice Ao11 t614.length co11], .int .i64 t617, .int .i64 t618] ?_; (with_reducible refine (impl_CheapestWay.calls k t613 _ _ t614 t617 t618 t624 t627 _ ?side1 ?side2 A6.out).mono ?_); (case side1 => exact rc_ HO616); (case side2 => exact (Kd.R_reads' HO616.out).2.1); rintro e w14 ⟨v625, rfl, ho0, hb⟩; refine ⟨_, rfl, ?_⟩; have HO626 := Aside0.mk (Kd.R_lower (Kd.R_new' ho0 (Kd.R_lt (hd_ HO622))) (bz_ HB)); replace HO616 := rb_ HO616 hb; replace HO622 := Aside0.mk (Kd.R_elder' (hd_ HO622) (Kd.R_base ho0) hb); replace BK619 := ab_ BK619 hb; replace HB := at_ HB hb; clear hb ho0))
 (try simp only [Act.put, List.setIfInBounds_toArray, List.set_cons_zero, List.set_cons_succ])
 go_cut [42] (fun v42 wc => ∃ (kq : Nat) (x42_6 : Bool), v42 = .bool x42_6 ∧ Aside0 (laws_FnCheapest.j0 kq t617 t618 t623 t624 x42_6 t613 t614 = some r) ∧ Aside0 (kq ≤ k) ∧ Aside0 (Kd.R (Kd.int .i64) 3 wc w.heap.size (fun _ => True) v625 t624) ∧ Aside0 (Kd.R k76 76 wc w.heap.size (fun _ => True) (.slice Ao11 t614.length co11) t614) ∧ Aside0 (wc.heap[gb619]? = some (.cells #[.int .i64 t613, (.slice Ao11 t614.length co11)] 30 (0, 0))) ∧ Aside0 (Below w.heap.size w wc))
 case first =>
  have H := HC7.out
  clear HC7
  by_cases c15 : (t627 != t623) = true
  ·rw [if_pos c15] at H
   have c15b0 : (t627 != t623) = true := c15
   have c15b1 : decide (t627 = t623) = false := by simpa using c15
   have c15b2 : (t627 == t623) = false := by simpa using c15
   have c15b3 : ¬ (t627 = t623) := by simpa using c15
   clear c15
   (first | rw [c15b0] | (simp only [i64_w, i32_w]; rw [c15b0]) | skip)
   have H' := Aside0.mk H
   clear H
   go_wp2
   go_meet
   case rel => exact ⟨_, (true), er_, H', ⟨by first | omega | exact Nat.le_refl _⟩, ⟨hq_ (Kd.R_mono HO626.out (fun _ hk => trivial))⟩, ⟨hd_ HO616⟩, ⟨bx_ BK619⟩, ⟨bw115_⟩⟩
  rw [if_neg c15] at H
  have c15b0 : (t627 != t623) = false := by simpa using c15
  have c15b1 : decide (t627 = t623) = true := by simpa using c15
  have c15b2 : (t627 == t623) = true := by simpa using c15
  clear c15
  (first | rw [c15b0] | (simp only [i64_w, i32_w]; rw [c15b0]) | skip)
  obtain ⟨t628, A16, H⟩ := ob_ H
  have H' := Aside0.mk H
  clear H
  obtain ⟨Ao17, co17, eo17⟩ := Kd.R_slice HO626.out
  subst eo17
  obtain ⟨Ao18, co18, eo18⟩ := Kd.R_slice HO622.out
  subst eo18
  go_wp2_with (go_at_call 28; (with_reducible refine (laws_same.calls k _ _ t624 _ _ t620 t628 _ ?side1 ?side2 ?side3 ?side4 A16.out).mono ?_); (case side1 => exact rc_ HO626); (case side2 => exact (Kd.R_reads' HO626.out).2.1); (case side3 => exact rc_ HO622); (case side4 => exact (Kd.R_reads' HO622.out).2.1); rintro e w' ⟨rfl, ⟨nd, rfl⟩⟩)
  go_meet
  case rel => exact ⟨_, (!t628), er_, H', ⟨by first | omega | exact Nat.le_refl _⟩, ⟨hq_ (Kd.R_mono HO626.out (fun _ hk => trivial))⟩, ⟨hd_ HO616⟩, ⟨bx_ BK619⟩, ⟨bw115_⟩⟩
 clear HC7 hcz10_0 hcz10_1 hcz13_0 hcz13_1 hfz10_0 hfz10_1 hfz13_0 hfz13_1
 obtain ⟨kq, x42_6, rfl, HA, HJ6, HO_8, HO_620001, BK619, HB⟩ := hcut
 cases kq with
 | zero => exact absurd HA.out (by simp [laws_FnCheapest.j0])
 | succ kj6 =>
  have H := HA.out
  clear HA
  simp only [laws_FnCheapest.j0] at H
  by_cases c19 : x42_6 = true
  ·subst c19
   rw [if_pos rfl] at H
   obtain rfl := Option.some.inj H
   go_wp2
   go_ret
   exact ⟨ew_, bw115_⟩
  replace c19 := Bool.eq_false_iff.mpr c19
  subst c19
  rw [if_neg (show ¬ (false = true) by decide)] at H
  obtain ⟨t629, A20, H⟩ := ob_ H
  have HC21 := Aside0.mk H
  clear H
  have hcz22_0 := cz_ BK619 0 (.int .i64 t613)
  have hcz22_1 := cz_ BK619 1 (.slice Ao11 t614.length co11)
  have hfz22_0 := fz_ BK619 0
  have hfz22_1 := fz_ BK619 1
  go_upto_region 9 with ((with_reducible refine gate_callee (f := 41) rfl ?_); refine gl_ (some 46) Try.func41 #[.agg #[.int .i64 t613, .slice Ao11 t614.length co11], .int .i64 t617, .int .i64 t618] ?_; (with_reducible refine (impl_CountWays.calls kj6 t613 _ _ t614 t617 t618 t629 _ ?side1 ?side2 A20.out).mono ?_); (case side1 => exact rc_ HO_620001); (case side2 => exact (Kd.R_reads' HO_620001.out).2.1); rintro e w23 ⟨rfl, hb⟩; refine ⟨_, rfl, ?_⟩; replace HO_8 := rb_ HO_8 hb; replace HO_620001 := rb_ HO_620001 hb; replace BK619 := ab_ BK619 hb; replace HB := at_ HB hb; clear hb)
  (try simp only [Act.put, List.setIfInBounds_toArray, List.set_cons_zero, List.set_cons_succ])
  go_cut [58] (fun v58 wc => ∃ (kq : Nat) (x58_20 : Bool), v58 = .bool x58_20 ∧ Aside0 (laws_FnCheapest.j1 kq t617 t618 t623 t624 x58_20 t613 t614 = some r) ∧ Aside0 (kq ≤ kj6) ∧ Aside0 (Kd.R (Kd.int .i64) 3 wc w.heap.size (fun _ => True) v625 t624) ∧ Aside0 (Kd.R k76 76 wc w.heap.size (fun _ => True) (.slice Ao11 t614.length co11) t614) ∧ Aside0 (wc.heap[gb619]? = some (.cells #[.int .i64 t613, (.slice Ao11 t614.length co11)] 30 (0, 0))) ∧ Aside0 (Below w.heap.size w wc))
  case first =>
   have H := HC21.out
   clear HC21
   obtain ⟨t630, A24, H⟩ := ob_ H
   by_cases c25 : t629 = t630
   rotate_left
   ·rw [if_neg c25] at H
    have c25b0 : (t629 == t630) = false := beq_eq_false_iff_ne.mpr c25
    have c25b1 : (t629 != t630) = true := bne_iff_ne.mpr c25
    (first | rw [c25b0] | (simp only [i64_w, i32_w]; rw [c25b0]) | skip)
    have H' := Aside0.mk H
    clear H
    have hcz28_0 := cz_ BK619 0 (.int .i64 t613)
    have hcz28_1 := cz_ BK619 1 (.slice Ao11 t614.length co11)
    have hfz28_0 := fz_ BK619 0
    have hfz28_1 := fz_ BK619 1
    go_wp2_with ((with_reducible refine gate_callee (f := 42) rfl ?_); refine gl_ (some 51) Try.func42 #[.agg #[.int .i64 t613, .slice Ao11 t614.length co11], .int .i64 t617, .int .i64 t618] ?_; (with_reducible refine (spec_CountWays.calls kj6 t613 _ _ t614 t617 t618 t630 _ ?side1 ?side2 A24.out).mono ?_); (case side1 => exact rc_ HO_620001); (case side2 => exact (Kd.R_reads' HO_620001.out).2.1); rintro e w29 ⟨rfl, hb⟩; refine ⟨_, rfl, ?_⟩; replace HO_8 := rb_ HO_8 hb; replace HO_620001 := rb_ HO_620001 hb; replace BK619 := ab_ BK619 hb; replace HB := at_ HB hb; clear hb)
    go_meet
    case rel => exact ⟨_, (true), er_, H', ⟨by have := HJ6.out; first | omega | exact Nat.le_refl _⟩, ⟨hd_ HO_8⟩, ⟨hd_ HO_620001⟩, ⟨bx_ BK619⟩, ⟨bw115_⟩⟩
   rw [if_pos c25] at H
   have c25b0 : (t629 == t630) = true := beq_iff_eq.mpr c25
   have c25b1 : (t629 != t630) = false := bne_eq_false_iff_eq.mpr c25
   clear c25
   (first | rw [c25b0] | (simp only [i64_w, i32_w]; rw [c25b0]) | skip)
   have H' := Aside0.mk H
   clear H
   have hcz26_0 := cz_ BK619 0 (.int .i64 t613)
   have hcz26_1 := cz_ BK619 1 (.slice Ao11 t614.length co11)
   have hfz26_0 := fz_ BK619 0
   have hfz26_1 := fz_ BK619 1
   go_wp2_with ((with_reducible refine gate_callee (f := 42) rfl ?_); refine gl_ (some 51) Try.func42 #[.agg #[.int .i64 t613, .slice Ao11 t614.length co11], .int .i64 t617, .int .i64 t618] ?_; (with_reducible refine (spec_CountWays.calls kj6 t613 _ _ t614 t617 t618 t630 _ ?side1 ?side2 A24.out).mono ?_); (case side1 => exact rc_ HO_620001); (case side2 => exact (Kd.R_reads' HO_620001.out).2.1); rintro e w27 ⟨rfl, hb⟩; refine ⟨_, rfl, ?_⟩; replace HO_8 := rb_ HO_8 hb; replace HO_620001 := rb_ HO_620001 hb; replace BK619 := ab_ BK619 hb; replace HB := at_ HB hb; clear hb)
   go_meet
   case rel => exact ⟨_, (((decide (t629 > 0)) != t623)), er_, H', ⟨by have := HJ6.out; first | omega | exact Nat.le_refl _⟩, ⟨hd_ HO_8⟩, ⟨hd_ HO_620001⟩, ⟨bx_ BK619⟩, ⟨bw115_⟩⟩
  clear HC21 hcz22_0 hcz22_1 hfz22_0 hfz22_1
  obtain ⟨kq, x58_20, rfl, HA, HJ20, HO_8, HO_620001, BK619, HB⟩ := hcut
  cases kq with
  | zero => exact absurd HA.out (by simp [laws_FnCheapest.j1])
  | succ kj20 =>
   have H := HA.out
   clear HA
   simp only [laws_FnCheapest.j1] at H
   by_cases c30 : x58_20 = true
   ·subst c30
    rw [if_pos rfl] at H
    obtain rfl := Option.some.inj H
    go_wp2
    go_ret
    exact ⟨ew_, bw115_⟩
   replace c30 := Bool.eq_false_iff.mpr c30
   subst c30
   rw [if_neg (show ¬ (false = true) by decide)] at H
   by_cases c31 : t623 = true
   rotate_left
   ·replace c31 := Bool.eq_false_iff.mpr c31
    subst c31
    rw [if_neg (show ¬ (false = true) by decide)] at H
    obtain rfl := Option.some.inj H
    go_wp2
    go_ret
    exact ⟨ew_, bw115_⟩
   subst c31
   rw [if_pos rfl] at H
   have HC32 := Aside0.mk H
   clear H
   go_upto_region 13 with (fail)
   go_cut [87] (fun v87 wc => ∃ (kq : Nat) (x87_31 : Bool), v87 = .bool x87_31 ∧ Aside0 (laws_FnCheapest.j2 kq t617 t618 t624 x87_31 t613 t614 = some r) ∧ Aside0 (kq ≤ kj20) ∧ Aside0 (Kd.R (Kd.int .i64) 3 wc w.heap.size (fun _ => True) v625 t624) ∧ Aside0 (Kd.R k76 76 wc w.heap.size (fun _ => True) (.slice Ao11 t614.length co11) t614) ∧ Aside0 (wc.heap[gb619]? = some (.cells #[.int .i64 t613, (.slice Ao11 t614.length co11)] 30 (0, 0))) ∧ Aside0 (Below w.heap.size w wc))
   case first =>
    have H := HC32.out
    clear HC32
    obtain ⟨t631, A33, H⟩ := ob_ H
    obtain ⟨t632, A34, H⟩ := ob_ H
    obtain ⟨c35b0, H⟩ := iq_ H
    (first | rw [c35b0] | (simp only [i64_w, i32_w]; rw [c35b0]) | skip)
    obtain ⟨c36b0, H⟩ := iq_ H
    by_cases c37 : t631 = (rd t632 t618)
    rotate_left
    ·rw [if_neg c37] at H
     have c37b0 : (t631 == (rd t632 t618)) = false := beq_eq_false_iff_ne.mpr c37
     have c37b1 : (t631 != (rd t632 t618)) = true := bne_iff_ne.mpr c37
     have H' := Aside0.mk H
     clear H
     go_wp2
     replace HO_8 := rw5_ HO_8
     replace HO_620001 := rw5_ HO_620001
     replace BK619 := ad_ BK619
     replace HB := Aside0.mk (below_drew1 HB.out)
     obtain ⟨Ao54, co54, eo54⟩ := Kd.R_slice HO_8.out
     subst eo54
     refine start_ (n := 27) (S := fun w' => w'.cell? ⟨gb619, 0, none⟩ = some (.int .i64 t613) ∧ w'.cell? ⟨gb619, 1, none⟩ = some (.slice Ao11 t614.length co11)) (ds := []) ba23_0 (by kernel_rfl) rfl rfl ⟨bq5_ BK619 0, bq5_ BK619 1⟩ (fun hHeld => ?_); refine with_tabW laws_FnCheapest.tab13 laws_FnCheapest.bits13 (fun HT_ HW_ => ?_)
     generalize wc.drew = w53 at HO_8 HO_620001 BK619 HB hHeld ⊢
     refine pz_ 1 62 ba23_1 HT_ ?_
     refine pz_ 4 65 ba23_2 HT_ ?_
     refine pz_ 6 67 ba23_3 HT_ ?_
     refine pt_ 0 61 ba23_4 HT_ HW_ hHeld ?_
     refine pt_ 3 64 ba23_5 HT_ HW_ hHeld ?_
     refine on_ 2 (some 63) ba23_6 HT_ (fun K hK => ?_)
     refine gz_ Try.func43 #[.agg #[.int .i64 t613, .slice Ao11 t614.length co11], .slice Ao54 t624.length co54] ?_
     with_reducible refine (impl_WayCost.calls kj20 t613 _ _ t614 _ _ t624 t631 _ ?side1 ?side2 ?side3 ?side4 A33.out).mono ?_
     (case side1 => exact rc_ HO_620001)
     (case side2 => exact (Kd.R_reads' HO_620001.out).2.1)
     (case side3 => exact rc_ HO_8)
     (case side4 => exact (Kd.R_reads' HO_8.out).2.1)
     rintro e w55 ⟨rfl, hb⟩
     refine ⟨_, rfl, ?_⟩
     replace HO_8 := rb_ HO_8 hb
     replace HO_620001 := rb_ HO_620001 hb
     replace BK619 := ab_ BK619 hb
     replace HB := at_ HB hb
     clear hb
     refine hK.out _ _ ⟨bq5_ BK619 0, bq5_ BK619 1⟩ (fun hHeld => ?_)
     clear hK K
     refine nz_ 63 ?_
     refine on_ 5 (some 66) ba23_7 HT_ (fun K hK => ?_)
     refine gz_ Try.func33 #[.agg #[.int .i64 t613, .slice Ao11 t614.length co11], .int .i64 t617] ?_
     with_reducible refine (spec_Distances.calls kj20 t613 _ _ t614 t617 t632 _ ?side1 ?side2 A34.out).mono ?_
     (case side1 => exact rc_ HO_620001)
     (case side2 => exact (Kd.R_reads' HO_620001.out).2.1)
     rintro e w56 ⟨v633, rfl, ho0, hb⟩
     refine ⟨_, rfl, ?_⟩
     have HO634 := Aside0.mk (Kd.R_lower (Kd.R_new' ho0 (Kd.R_lt (hd_ HO_8))) (bz_ HB))
     replace HO_620001 := rb_ HO_620001 hb
     replace HO_8 := Aside0.mk (Kd.R_elder' (hd_ HO_8) (Kd.R_base ho0) hb)
     replace BK619 := ab_ BK619 hb
     replace HB := at_ HB hb
     clear hb ho0
     obtain ⟨Ao57, co57, eo57⟩ := Kd.R_slice HO634.out
     subst eo57
     have p635 : 0 ≤ (t618 : Int) := oa_
     have q635 : t618 < (t632.length : Int) := oa_
     obtain ⟨ad635, e635, hx635_0⟩ := Kd.at_int (Kd.R_reads' HO634.out).2.2 t618 p635 q635
     cases e635
     obtain ⟨p635, q635⟩ := et_ p635 q635
     refine hK.out _ _ ⟨bq5_ BK619 0, bq5_ BK619 1⟩ (fun hHeld => ?_)
     clear hK K
     refine nz_ 66 ?_
     refine pz_ 7 68 ba23_8 HT_ ?_
     refine po_ 8 69 ba23_9 HT_ (fun w' => w'.cell? ⟨gb619, 0, none⟩ = some (.int .i64 t613) ∧ w'.cell? ⟨gb619, 1, none⟩ = some (.slice Ao11 t614.length co11) ∧ w'.cell? (ad635.add (t618).toNat) = some (.int .i64 (rd t632 t618))) ⟨hHeld.1, hHeld.2, hx635_0⟩ ?_
     refine pz_ 9 70 ba23_10 HT_ ?_
     refine pz_ 10 71 ba23_11 HT_ ?_
     refine pu_ 11 72 ba23_12 HT_ ?_
     refine pu_ 12 73 ba23_13 HT_ ?_
     refine pu_ 13 74 ba23_29 HT_ ?_
     refine pu_ 14 75 ba23_15 HT_ ?_
     refine pu_ 15 76 ba23_16 HT_ ?_
     refine pz_ 16 77 ba23_17 HT_ ?_
     refine pz_ 17 78 ba23_18 HT_ ?_
     refine pu_ 18 79 ba23_19 HT_ ?_
     refine pu_ 19 80 ba23_20 HT_ ?_
     refine pu_ 20 81 ba23_21 HT_ ?_
     refine pu_ 21 82 ba23_22 HT_ ?_
     refine pu_ 22 83 ba23_23 HT_ ?_
     refine pu_ 23 84 ba23_28 HT_ ?_
     refine pu_ 24 85 ba23_25 HT_ ?_
     refine pu_ 25 86 ba23_26 HT_ ?_
     refine pz_ 26 87 ba23_27 HT_ ?_
     refine done_ (done_of HT_.out (by kernel_rfl)) ?_
     go_wp2
     go_meet
     case rel => exact ⟨_, (true), er_, H', ⟨by have := HJ6.out; have := HJ20.out; first | omega | exact Nat.le_refl _⟩, ⟨hq_ (Kd.R_mono HO_8.out (fun _ hk => trivial))⟩, ⟨hd_ HO_620001⟩, ⟨bx_ BK619⟩, ⟨bw115_⟩⟩
    rw [if_pos c37] at H
    have c37b0 : (t631 == (rd t632 t618)) = true := beq_iff_eq.mpr c37
    have c37b1 : (t631 != (rd t632 t618)) = false := bne_eq_false_iff_eq.mpr c37
    clear c37
    by_cases c38 : 0 < (t624.length : Int)
    rotate_left
    ·rw [if_neg c38] at H
     exact absurd H (by simp)
    rw [if_pos c38] at H
    have c38b0 : decide (0 < (t624.length : Int)) = true := decide_eq_true c38
    have c38b1 : decide (0 < t624.length) = true := decide_eq_true (by omega)
    clear c38
    by_cases c39 : (rd t624 0) = t617
    rotate_left
    ·rw [if_neg c39] at H
     have c39b0 : ((rd t624 0) == t617) = false := beq_eq_false_iff_ne.mpr c39
     have c39b1 : ((rd t624 0) != t617) = true := bne_iff_ne.mpr c39
     have H' := Aside0.mk H
     clear H
     go_wp2
     replace HO_8 := rw5_ HO_8
     replace HO_620001 := rw5_ HO_620001
     replace BK619 := ad_ BK619
     replace HB := Aside0.mk (below_drew1 HB.out)
     obtain ⟨Ao49, co49, eo49⟩ := Kd.R_slice HO_8.out
     subst eo49
     have p636 : 0 ≤ (0 : Int) := (by omega)
     have q636 : 0 < (t624.length : Int) := oa_
     obtain ⟨ad636, e636, hx636_0⟩ := Kd.at_int (Kd.R_reads' HO_8.out).2.2 0 p636 q636
     cases e636
     have qi636 : (0 < t624.length) = True := eq_true (by omega)
     (try rw [show ((0 : Int)).toNat = 0 from rfl] at hx636_0)
     (try rw [Addr.add_zero'] at hx636_0)
     obtain ⟨p636, q636⟩ := et_ p636 q636
     refine start_ (n := 27) (S := fun w' => w'.cell? ⟨gb619, 0, none⟩ = some (.int .i64 t613) ∧ w'.cell? ⟨gb619, 1, none⟩ = some (.slice Ao11 t614.length co11) ∧ w'.cell? ad636 = some (.int .i64 (rd t624 0))) (ds := []) ba23_0 (by kernel_rfl) rfl rfl ⟨bq5_ BK619 0, bq5_ BK619 1, hx636_0⟩ (fun hHeld => ?_); refine with_tabW laws_FnCheapest.tab13 laws_FnCheapest.bits13 (fun HT_ HW_ => ?_)
     generalize wc.drew = w48 at HO_8 HO_620001 BK619 HB hx636_0 hHeld ⊢
     refine pz_ 1 62 ba23_1 HT_ ?_
     refine pz_ 4 65 ba23_2 HT_ ?_
     refine pz_ 6 67 ba23_3 HT_ ?_
     refine pt_ 0 61 ba23_4 HT_ HW_ hHeld ?_
     refine pt_ 3 64 ba23_5 HT_ HW_ hHeld ?_
     refine on_ 2 (some 63) ba23_6 HT_ (fun K hK => ?_)
     refine gz_ Try.func43 #[.agg #[.int .i64 t613, .slice Ao11 t614.length co11], .slice (some ad636) t624.length co49] ?_
     with_reducible refine (impl_WayCost.calls kj20 t613 _ _ t614 _ _ t624 t631 _ ?side1 ?side2 ?side3 ?side4 A33.out).mono ?_
     (case side1 => exact rc_ HO_620001)
     (case side2 => exact (Kd.R_reads' HO_620001.out).2.1)
     (case side3 => exact rc_ HO_8)
     (case side4 => exact (Kd.R_reads' HO_8.out).2.1)
     rintro e w50 ⟨rfl, hb⟩
     have HS3_ := (hb.cell (World.block_lt_of_cell? _ _ (hHeld.2.2))).trans (hHeld.2.2)
     refine ⟨_, rfl, ?_⟩
     replace HO_8 := rb_ HO_8 hb
     replace HO_620001 := rb_ HO_620001 hb
     replace BK619 := ab_ BK619 hb
     replace HB := at_ HB hb
     clear hb
     refine hK.out _ _ ⟨bq5_ BK619 0, bq5_ BK619 1, HS3_⟩ (fun hHeld => ?_)
     clear hK K
     refine nz_ 63 ?_
     refine on_ 5 (some 66) ba23_7 HT_ (fun K hK => ?_)
     refine gz_ Try.func33 #[.agg #[.int .i64 t613, .slice Ao11 t614.length co11], .int .i64 t617] ?_
     with_reducible refine (spec_Distances.calls kj20 t613 _ _ t614 t617 t632 _ ?side1 ?side2 A34.out).mono ?_
     (case side1 => exact rc_ HO_620001)
     (case side2 => exact (Kd.R_reads' HO_620001.out).2.1)
     rintro e w51 ⟨v633, rfl, ho0, hb⟩
     have HS3_ := (hb.cell (World.block_lt_of_cell? _ _ (hHeld.2.2))).trans (hHeld.2.2)
     refine ⟨_, rfl, ?_⟩
     have HO634 := Aside0.mk (Kd.R_lower (Kd.R_new' ho0 (Kd.R_lt (hd_ HO_8))) (bz_ HB))
     replace HO_620001 := rb_ HO_620001 hb
     replace HO_8 := Aside0.mk (Kd.R_elder' (hd_ HO_8) (Kd.R_base ho0) hb)
     replace BK619 := ab_ BK619 hb
     replace HB := at_ HB hb
     clear hb ho0
     obtain ⟨Ao52, co52, eo52⟩ := Kd.R_slice HO634.out
     subst eo52
     have p635 : 0 ≤ (t618 : Int) := oa_
     have q635 : t618 < (t632.length : Int) := oa_
     obtain ⟨ad635, e635, hx635_0⟩ := Kd.at_int (Kd.R_reads' HO634.out).2.2 t618 p635 q635
     cases e635
     obtain ⟨p635, q635⟩ := et_ p635 q635
     refine hK.out _ _ ⟨bq5_ BK619 0, bq5_ BK619 1, HS3_⟩ (fun hHeld => ?_)
     clear hK K
     refine nz_ 66 ?_
     refine pz_ 7 68 ba23_8 HT_ ?_
     refine po_ 8 69 ba23_9 HT_ (fun w' => w'.cell? ⟨gb619, 0, none⟩ = some (.int .i64 t613) ∧ w'.cell? ⟨gb619, 1, none⟩ = some (.slice Ao11 t614.length co11) ∧ w'.cell? ad636 = some (.int .i64 (rd t624 0)) ∧ w'.cell? (ad635.add (t618).toNat) = some (.int .i64 (rd t632 t618))) ⟨hHeld.1, hHeld.2.1, hHeld.2.2, hx635_0⟩ ?_
     refine pz_ 9 70 ba23_10 HT_ ?_
     refine pz_ 10 71 ba23_11 HT_ ?_
     refine pz_ 11 72 ba23_12 HT_ ?_
     refine pz_ 12 73 ba23_13 HT_ ?_
     refine pz_ 14 75 ba23_14 HT_ ?_
     refine po_ 13 74 ba23_15 HT_ (fun w' => w'.cell? ⟨gb619, 0, none⟩ = some (.int .i64 t613) ∧ w'.cell? ⟨gb619, 1, none⟩ = some (.slice Ao11 t614.length co11) ∧ w'.cell? ad636 = some (.int .i64 (rd t624 0)) ∧ w'.cell? (ad635.add (t618).toNat) = some (.int .i64 (rd t632 t618))) ⟨hHeld.1, hHeld.2.1, hHeld.2.2, hx635_0⟩ ?_
     refine pz_ 15 76 ba23_16 HT_ ?_
     refine pz_ 16 77 ba23_17 HT_ ?_
     refine pz_ 17 78 ba23_18 HT_ ?_
     refine pu_ 18 79 ba23_19 HT_ ?_
     refine pu_ 19 80 ba23_20 HT_ ?_
     refine pu_ 20 81 ba23_21 HT_ ?_
     refine pu_ 21 82 ba23_22 HT_ ?_
     refine pu_ 22 83 ba23_23 HT_ ?_
     refine pu_ 23 84 ba23_28 HT_ ?_
     refine pu_ 24 85 ba23_25 HT_ ?_
     refine pu_ 25 86 ba23_26 HT_ ?_
     refine pz_ 26 87 ba23_27 HT_ ?_
     refine done_ (done_of HT_.out (by kernel_rfl)) ?_
     go_wp2
     go_meet
     case rel => exact ⟨_, (true), er_, H', ⟨by have := HJ6.out; have := HJ20.out; first | omega | exact Nat.le_refl _⟩, ⟨hq_ (Kd.R_mono HO_8.out (fun _ hk => trivial))⟩, ⟨hd_ HO_620001⟩, ⟨bx_ BK619⟩, ⟨bw115_⟩⟩
    rw [if_pos c39] at H
    have c39b0 : ((rd t624 0) == t617) = true := beq_iff_eq.mpr c39
    have c39b1 : ((rd t624 0) != t617) = false := bne_eq_false_iff_eq.mpr c39
    clear c39
    obtain ⟨ji40, hji40⟩ : ∃ j_ : Int, (wrap64 ((t624.length : Int) - 1)) = j_ := ⟨_, rfl⟩
    first | rw [hji40] at H | simp only [hji40] at H
    (try rw [hji40] at A33)
    (try rw [hji40] at A34)
    have hji40w : (IntKind.i64.wrap ((t624.length : Int) - 1)) = ji40 := (i64_w _).trans hji40
    obtain ⟨c41b0, H⟩ := iq_ H
    obtain ⟨c42b0, H⟩ := iq_ H
    have H' := Aside0.mk H
    clear H
    go_wp2
    replace HO_8 := rw5_ HO_8
    replace HO_620001 := rw5_ HO_620001
    replace BK619 := ad_ BK619
    replace HB := Aside0.mk (below_drew1 HB.out)
    obtain ⟨Ao44, co44, eo44⟩ := Kd.R_slice HO_8.out
    subst eo44
    have p636 : 0 ≤ (0 : Int) := (by omega)
    have q636 : 0 < (t624.length : Int) := oa_
    obtain ⟨ad636, e636, hx636_0⟩ := Kd.at_int (Kd.R_reads' HO_8.out).2.2 0 p636 q636
    cases e636
    have qi636 : (0 < t624.length) = True := eq_true (by omega)
    (try rw [show ((0 : Int)).toNat = 0 from rfl] at hx636_0)
    (try rw [Addr.add_zero'] at hx636_0)
    obtain ⟨p636, q636⟩ := et_ p636 q636
    have p637 : 0 ≤ ((ji40) : Int) := oa_
    have q637 : (ji40) < (t624.length : Int) := oa_
    obtain ⟨ad637, e637, hx637_0⟩ := Kd.at_int (Kd.R_reads' HO_8.out).2.2 (ji40) p637 q637
    obtain rfl : ad636 = ad637 := (by injection e637)
    obtain ⟨p637, q637⟩ := et_ p637 q637
    refine start_ (n := 27) (S := fun w' => w'.cell? ⟨gb619, 0, none⟩ = some (.int .i64 t613) ∧ w'.cell? ⟨gb619, 1, none⟩ = some (.slice Ao11 t614.length co11) ∧ w'.cell? ad636 = some (.int .i64 (rd t624 0)) ∧ w'.cell? (ad636.add ((ji40)).toNat) = some (.int .i64 (rd t624 (ji40)))) (ds := []) ba23_0 (by kernel_rfl) rfl rfl ⟨bq5_ BK619 0, bq5_ BK619 1, hx636_0, hx637_0⟩ (fun hHeld => ?_); refine with_tabW laws_FnCheapest.tab13 laws_FnCheapest.bits13 (fun HT_ HW_ => ?_)
    generalize wc.drew = w43 at HO_8 HO_620001 BK619 HB hx636_0 hx637_0 hHeld ⊢
    refine pz_ 1 62 ba23_1 HT_ ?_
    refine pz_ 4 65 ba23_2 HT_ ?_
    refine pz_ 6 67 ba23_3 HT_ ?_
    refine pt_ 0 61 ba23_4 HT_ HW_ hHeld ?_
    refine pt_ 3 64 ba23_5 HT_ HW_ hHeld ?_
    refine on_ 2 (some 63) ba23_6 HT_ (fun K hK => ?_)
    refine gz_ Try.func43 #[.agg #[.int .i64 t613, .slice Ao11 t614.length co11], .slice (some ad636) t624.length co44] ?_
    with_reducible refine (impl_WayCost.calls kj20 t613 _ _ t614 _ _ t624 t631 _ ?side1 ?side2 ?side3 ?side4 A33.out).mono ?_
    (case side1 => exact rc_ HO_620001)
    (case side2 => exact (Kd.R_reads' HO_620001.out).2.1)
    (case side3 => exact rc_ HO_8)
    (case side4 => exact (Kd.R_reads' HO_8.out).2.1)
    rintro e w45 ⟨rfl, hb⟩
    have HS3_ := (hb.cell (World.block_lt_of_cell? _ _ (hHeld.2.2.1))).trans (hHeld.2.2.1)
    have HS4_ := (hb.cell (World.block_lt_of_cell? _ _ (hHeld.2.2.2))).trans (hHeld.2.2.2)
    refine ⟨_, rfl, ?_⟩
    replace HO_8 := rb_ HO_8 hb
    replace HO_620001 := rb_ HO_620001 hb
    replace BK619 := ab_ BK619 hb
    replace HB := at_ HB hb
    clear hb
    refine hK.out _ _ ⟨bq5_ BK619 0, bq5_ BK619 1, HS3_, HS4_⟩ (fun hHeld => ?_)
    clear hK K
    refine nz_ 63 ?_
    refine on_ 5 (some 66) ba23_7 HT_ (fun K hK => ?_)
    refine gz_ Try.func33 #[.agg #[.int .i64 t613, .slice Ao11 t614.length co11], .int .i64 t617] ?_
    with_reducible refine (spec_Distances.calls kj20 t613 _ _ t614 t617 t632 _ ?side1 ?side2 A34.out).mono ?_
    (case side1 => exact rc_ HO_620001)
    (case side2 => exact (Kd.R_reads' HO_620001.out).2.1)
    rintro e w46 ⟨v633, rfl, ho0, hb⟩
    have HS3_ := (hb.cell (World.block_lt_of_cell? _ _ (hHeld.2.2.1))).trans (hHeld.2.2.1)
    have HS4_ := (hb.cell (World.block_lt_of_cell? _ _ (hHeld.2.2.2))).trans (hHeld.2.2.2)
    refine ⟨_, rfl, ?_⟩
    have HO634 := Aside0.mk (Kd.R_lower (Kd.R_new' ho0 (Kd.R_lt (hd_ HO_8))) (bz_ HB))
    replace HO_620001 := rb_ HO_620001 hb
    replace HO_8 := Aside0.mk (Kd.R_elder' (hd_ HO_8) (Kd.R_base ho0) hb)
    replace BK619 := ab_ BK619 hb
    replace HB := at_ HB hb
    clear hb ho0
    obtain ⟨Ao47, co47, eo47⟩ := Kd.R_slice HO634.out
    subst eo47
    have p635 : 0 ≤ (t618 : Int) := oa_
    have q635 : t618 < (t632.length : Int) := oa_
    obtain ⟨ad635, e635, hx635_0⟩ := Kd.at_int (Kd.R_reads' HO634.out).2.2 t618 p635 q635
    cases e635
    obtain ⟨p635, q635⟩ := et_ p635 q635
    refine hK.out _ _ ⟨bq5_ BK619 0, bq5_ BK619 1, HS3_, HS4_⟩ (fun hHeld => ?_)
    clear hK K
    refine nz_ 66 ?_
    refine pz_ 7 68 ba23_8 HT_ ?_
    refine po_ 8 69 ba23_9 HT_ (fun w' => w'.cell? ⟨gb619, 0, none⟩ = some (.int .i64 t613) ∧ w'.cell? ⟨gb619, 1, none⟩ = some (.slice Ao11 t614.length co11) ∧ w'.cell? ad636 = some (.int .i64 (rd t624 0)) ∧ w'.cell? (ad636.add ((ji40)).toNat) = some (.int .i64 (rd t624 (ji40))) ∧ w'.cell? (ad635.add (t618).toNat) = some (.int .i64 (rd t632 t618))) ⟨hHeld.1, hHeld.2.1, hHeld.2.2.1, hHeld.2.2.2, hx635_0⟩ ?_
    refine pz_ 9 70 ba23_10 HT_ ?_
    refine pz_ 10 71 ba23_11 HT_ ?_
    refine pz_ 11 72 ba23_12 HT_ ?_
    refine pz_ 12 73 ba23_13 HT_ ?_
    refine pz_ 14 75 ba23_14 HT_ ?_
    refine po_ 13 74 ba23_15 HT_ (fun w' => w'.cell? ⟨gb619, 0, none⟩ = some (.int .i64 t613) ∧ w'.cell? ⟨gb619, 1, none⟩ = some (.slice Ao11 t614.length co11) ∧ w'.cell? ad636 = some (.int .i64 (rd t624 0)) ∧ w'.cell? (ad636.add ((ji40)).toNat) = some (.int .i64 (rd t624 (ji40))) ∧ w'.cell? (ad635.add (t618).toNat) = some (.int .i64 (rd t632 t618))) ⟨hHeld.1, hHeld.2.1, hHeld.2.2.1, hHeld.2.2.2, hx635_0⟩ ?_
    refine pz_ 15 76 ba23_16 HT_ ?_
    refine pz_ 16 77 ba23_17 HT_ ?_
    refine pz_ 17 78 ba23_18 HT_ ?_
    refine pz_ 18 79 ba23_19 HT_ ?_
    refine pz_ 19 80 ba23_20 HT_ ?_
    refine pz_ 20 81 ba23_21 HT_ ?_
    refine pz_ 21 82 ba23_22 HT_ ?_
    refine pz_ 22 83 ba23_23 HT_ ?_
    refine pz_ 24 85 ba23_24 HT_ ?_
    refine po_ 23 84 ba23_25 HT_ (fun w' => w'.cell? ⟨gb619, 0, none⟩ = some (.int .i64 t613) ∧ w'.cell? ⟨gb619, 1, none⟩ = some (.slice Ao11 t614.length co11) ∧ w'.cell? ad636 = some (.int .i64 (rd t624 0)) ∧ w'.cell? (ad636.add ((ji40)).toNat) = some (.int .i64 (rd t624 (ji40))) ∧ w'.cell? (ad635.add (t618).toNat) = some (.int .i64 (rd t632 t618))) ⟨hHeld.1, hHeld.2.1, hHeld.2.2.1, hHeld.2.2.2, hx635_0⟩ ?_
    refine pz_ 25 86 ba23_26 HT_ ?_
    refine pz_ 26 87 ba23_27 HT_ ?_
    refine done_ (done_of HT_.out (by kernel_rfl)) ?_
    go_wp2
    go_meet
    case rel => exact ⟨_, (((rd t624 (ji40)) != t618)), (by first | rfl | (simp; done) | (simp only [← hji40] <;> (first | rfl | simp)) | (simp [*]; done)), H', ⟨by have := HJ6.out; have := HJ20.out; first | omega | exact Nat.le_refl _⟩, ⟨hq_ (Kd.R_mono HO_8.out (fun _ hk => trivial))⟩, ⟨hd_ HO_620001⟩, ⟨bx_ BK619⟩, ⟨bw115_⟩⟩
   clear HC32
   obtain ⟨kq, x87_31, rfl, HA, HJ31, HO_8, HO_620001, BK619, HB⟩ := hcut
   cases kq with
   | zero => exact absurd HA.out (by simp [laws_FnCheapest.j2])
   | succ kj31 =>
    have H := HA.out
    clear HA
    simp only [laws_FnCheapest.j2] at H
    by_cases c58 : x87_31 = true
    ·subst c58
     rw [if_pos rfl] at H
     obtain rfl := Option.some.inj H
     go_wp2
     go_ret
     exact ⟨ew_, bw115_⟩
    replace c58 := Bool.eq_false_iff.mpr c58
    subst c58
    rw [if_neg (show ¬ (false = true) by decide)] at H
    have H' := Aside0.mk H
    clear H
    go_wp2
    go_loopg [11] kj31 (fun kq v11 w' => ∃ (x11_4 : Int), v11 = .int .i64 x11_4 ∧ Aside0 (laws_FnCheapest.l0 kq t617 t618 t624 x11_4 t613 t614 = some r) ∧ Aside0 (kq ≤ kj31) ∧ Aside0 (Kd.R (Kd.int .i64) 3 w' w.heap.size (fun _ => True) v625 t624) ∧ Aside0 (Kd.R k76 76 w' w.heap.size (fun _ => True) (.slice Ao11 t614.length co11) t614) ∧ Aside0 (w'.heap[gb619]? = some (.cells #[.int .i64 t613, (.slice Ao11 t614.length co11)] 30 (0, 0))) ∧ Aside0 (Below w.heap.size w w'))
    case atStart => exact ⟨(0), er_, H', ⟨Nat.le_refl _⟩, ⟨hd_ HO_8⟩, ⟨hd_ HO_620001⟩, ⟨bx_ BK619⟩, ⟨bw115_⟩⟩
    clear H'
    obtain ⟨x11_4, rfl, HA, HK4, HO_8, HO_620001, BK619, HB⟩ := hrel
    cases gk with
    | zero => exact absurd HA.out (by simp [laws_FnCheapest.l0])
    | succ k4 =>
     have H := HA.out
     clear HA
     simp only [laws_FnCheapest.l0] at H
     by_cases c59 : x11_4 < (t624.length : Int)
     rotate_left
     ·rw [if_neg c59] at H
      have c59b0 : decide (x11_4 < (t624.length : Int)) = false := decide_eq_false c59
      clear c59
      obtain rfl := Option.some.inj H
      obtain ⟨Ao88, co88, eo88⟩ := Kd.R_slice HO_8.out
      subst eo88
      go_wp2
      go_ret
      exact ⟨ew_, bw115_⟩
     rw [if_pos c59] at H
     have c59b0 : decide (x11_4 < (t624.length : Int)) = true := decide_eq_true c59
     clear c59
     obtain ⟨c60b0, H⟩ := iq_ H
     obtain ⟨t639, A61, H⟩ := ob_ H
     by_cases c62 : t639 = true
     rotate_left
     ·replace c62 := Bool.eq_false_iff.mpr c62
      subst c62
      rw [if_neg (show ¬ (false = true) by decide)] at H
      obtain rfl := Option.some.inj H
      obtain ⟨Ao85, co85, eo85⟩ := Kd.R_slice HO_8.out
      subst eo85
      go_wp2
      replace HO_8 := rw5_ HO_8
      replace HO_620001 := rw5_ HO_620001
      replace BK619 := ad_ BK619
      replace HB := Aside0.mk (below_drew1 HB.out)
      have p638 : 0 ≤ (x11_4 : Int) := oa_
      have q638 : x11_4 < (t624.length : Int) := oa_
      obtain ⟨ad638, e638, hx638_0⟩ := Kd.at_int (Kd.R_reads' HO_8.out).2.2 x11_4 p638 q638
      cases e638
      obtain ⟨p638, q638⟩ := et_ p638 q638
      refine start_ (n := 9) (S := fun w' => w'.cell? ⟨gb619, 0, none⟩ = some (.int .i64 t613) ∧ w'.cell? ⟨gb619, 1, none⟩ = some (.slice Ao11 t614.length co11) ∧ w'.cell? (ad638.add (x11_4).toNat) = some (.int .i64 (rd t624 x11_4))) (ds := []) ba23_30 (by kernel_rfl) rfl rfl ⟨bq5_ BK619 0, bq5_ BK619 1, hx638_0⟩ (fun hHeld => ?_); refine with_tabW laws_FnCheapest.tab18 laws_FnCheapest.bits18 (fun HT_ HW_ => ?_)
      generalize wr.drew = w86 at HO_8 HO_620001 BK619 HB hx638_0 hHeld ⊢
      refine pz_ 1 95 ba23_31 HT_ ?_
      refine pz_ 2 96 ba23_32 HT_ ?_
      refine pz_ 3 97 ba23_33 HT_ ?_
      refine pz_ 4 98 ba23_34 HT_ ?_
      refine pz_ 5 99 ba23_35 HT_ ?_
      refine pt_ 0 94 ba23_36 HT_ HW_ hHeld ?_
      refine pt_ 6 100 ba23_37 HT_ HW_ hHeld ?_
      refine on_ 7 (some 101) ba23_38 HT_ (fun K hK => ?_)
      refine gz_ Try.func37 #[.agg #[.int .i64 t613, .slice Ao11 t614.length co11], .int .i64 t617, .int .i64 t618, .int .i64 (rd t624 x11_4)] ?_
      with_reducible refine (impl_OnWay.calls k4 t613 _ _ t614 t617 t618 (rd t624 x11_4) false _ ?side1 ?side2 A61.out).mono ?_
      (case side1 => exact rc_ HO_620001)
      (case side2 => exact (Kd.R_reads' HO_620001.out).2.1)
      rintro e w87 ⟨rfl, hb⟩
      have HS2_ := (hb.cell (World.block_lt_of_cell? _ _ (hHeld.2.2))).trans (hHeld.2.2)
      refine ⟨_, rfl, ?_⟩
      replace HO_8 := rb_ HO_8 hb
      replace HO_620001 := rb_ HO_620001 hb
      replace BK619 := ab_ BK619 hb
      replace HB := at_ HB hb
      clear hb
      refine hK.out _ _ ⟨bq5_ BK619 0, bq5_ BK619 1, HS2_⟩ (fun hHeld => ?_)
      clear hK K
      refine nz_ 101 ?_
      refine pz_ 8 102 ba23_39 HT_ ?_
      refine done_ (done_of HT_.out (by kernel_rfl)) ?_
      go_wp2
      go_ret
      exact ⟨ew_, bw115_⟩
     subst c62
     rw [if_pos rfl] at H
     by_cases c63 : (wrap64 (x11_4 + 1)) < (t624.length : Int)
     rotate_left
     ·rw [if_neg c63] at H
      have c63b0 : decide ((wrap64 (x11_4 + 1)) < (t624.length : Int)) = false := decide_eq_false c63
      clear c63
      have H' := Aside0.mk H
      clear H
      obtain ⟨Ao81, co81, eo81⟩ := Kd.R_slice HO_8.out
      subst eo81
      go_wp2
      replace HO_8 := rw5_ HO_8
      replace HO_620001 := rw5_ HO_620001
      replace BK619 := ad_ BK619
      replace HB := Aside0.mk (below_drew1 HB.out)
      have p638 : 0 ≤ (x11_4 : Int) := oa_
      have q638 : x11_4 < (t624.length : Int) := oa_
      obtain ⟨ad638, e638, hx638_0⟩ := Kd.at_int (Kd.R_reads' HO_8.out).2.2 x11_4 p638 q638
      cases e638
      obtain ⟨p638, q638⟩ := et_ p638 q638
      refine start_ (n := 9) (S := fun w' => w'.cell? ⟨gb619, 0, none⟩ = some (.int .i64 t613) ∧ w'.cell? ⟨gb619, 1, none⟩ = some (.slice Ao11 t614.length co11) ∧ w'.cell? (ad638.add (x11_4).toNat) = some (.int .i64 (rd t624 x11_4))) (ds := []) ba23_30 (by kernel_rfl) rfl rfl ⟨bq5_ BK619 0, bq5_ BK619 1, hx638_0⟩ (fun hHeld => ?_); refine with_tabW laws_FnCheapest.tab18 laws_FnCheapest.bits18 (fun HT_ HW_ => ?_)
      generalize wr.drew = w82 at HO_8 HO_620001 BK619 HB hx638_0 hHeld ⊢
      refine pz_ 1 95 ba23_31 HT_ ?_
      refine pz_ 2 96 ba23_32 HT_ ?_
      refine pz_ 3 97 ba23_33 HT_ ?_
      refine pz_ 4 98 ba23_34 HT_ ?_
      refine pz_ 5 99 ba23_35 HT_ ?_
      refine pt_ 0 94 ba23_36 HT_ HW_ hHeld ?_
      refine pt_ 6 100 ba23_37 HT_ HW_ hHeld ?_
      refine on_ 7 (some 101) ba23_38 HT_ (fun K hK => ?_)
      refine gz_ Try.func37 #[.agg #[.int .i64 t613, .slice Ao11 t614.length co11], .int .i64 t617, .int .i64 t618, .int .i64 (rd t624 x11_4)] ?_
      with_reducible refine (impl_OnWay.calls k4 t613 _ _ t614 t617 t618 (rd t624 x11_4) true _ ?side1 ?side2 A61.out).mono ?_
      (case side1 => exact rc_ HO_620001)
      (case side2 => exact (Kd.R_reads' HO_620001.out).2.1)
      rintro e w83 ⟨rfl, hb⟩
      have HS2_ := (hb.cell (World.block_lt_of_cell? _ _ (hHeld.2.2))).trans (hHeld.2.2)
      refine ⟨_, rfl, ?_⟩
      replace HO_8 := rb_ HO_8 hb
      replace HO_620001 := rb_ HO_620001 hb
      replace BK619 := ab_ BK619 hb
      replace HB := at_ HB hb
      clear hb
      refine hK.out _ _ ⟨bq5_ BK619 0, bq5_ BK619 1, HS2_⟩ (fun hHeld => ?_)
      clear hK K
      refine nz_ 101 ?_
      refine pz_ 8 102 ba23_39 HT_ ?_
      refine done_ (done_of HT_.out (by kernel_rfl)) ?_
      go_wp2
      replace HO_8 := rw5_ HO_8
      replace HO_620001 := rw5_ HO_620001
      replace BK619 := ad_ BK619
      replace HB := Aside0.mk (below_drew1 HB.out)
      refine start_ (n := 21) (S := fun w' => True) (ds := []) ba23_40 (by kernel_rfl) rfl rfl trivial (fun hHeld => ?_); refine with_tabW laws_FnCheapest.tab20 laws_FnCheapest.bits20 (fun HT_ HW_ => ?_)
      generalize w83.drew = w84 at HO_8 HO_620001 BK619 HB hHeld ⊢
      refine pz_ 0 103 ba23_41 HT_ ?_
      refine pz_ 1 104 ba23_42 HT_ ?_
      refine pz_ 2 105 ba23_43 HT_ ?_
      refine pz_ 3 106 ba23_44 HT_ ?_
      refine pz_ 4 107 ba23_45 HT_ ?_
      refine pz_ 5 108 ba23_46 HT_ ?_
      refine pu_ 6 109 ba23_62 HT_ ?_
      refine pu_ 7 110 ba23_63 HT_ ?_
      refine pu_ 8 111 ba23_64 HT_ ?_
      refine pu_ 9 112 ba23_65 HT_ ?_
      refine pu_ 10 113 ba23_66 HT_ ?_
      refine pu_ 11 114 ba23_67 HT_ ?_
      refine pu_ 12 115 ba23_68 HT_ ?_
      refine pu_ 13 116 ba23_69 HT_ ?_
      refine pu_ 14 117 ba23_70 HT_ ?_
      refine pu_ 15 118 ba23_71 HT_ ?_
      refine pu_ 16 119 ba23_72 HT_ ?_
      refine pu_ 17 120 ba23_58 HT_ ?_
      refine pu_ 18 121 ba23_59 HT_ ?_
      refine pu_ 19 122 ba23_60 HT_ ?_
      refine pz_ 20 123 ba23_61 HT_ ?_
      refine done_ (done_of HT_.out (by kernel_rfl)) ?_
      go_wp2
      go_roundg k4
      case measure => have := HJ6.out; have := HJ20.out; have := HJ31.out; have := HK4.out; omega
      case rel => exact ⟨(wrap64 (x11_4 + 1)), er_, H', ⟨by have := HJ6.out; have := HJ20.out; have := HJ31.out; have := HK4.out; omega⟩, ⟨hd_ HO_8⟩, ⟨hd_ HO_620001⟩, ⟨bx_ BK619⟩, ⟨bw115_⟩⟩
     rw [if_pos c63] at H
     have c63b0 : decide ((wrap64 (x11_4 + 1)) < (t624.length : Int)) = true := decide_eq_true c63
     clear c63
     obtain ⟨t641, A64, H⟩ := ob_ H
     obtain ⟨ji65, hji65⟩ : ∃ j_ : Int, (wrap64 (x11_4 + 1)) = j_ := ⟨_, rfl⟩
     first | rw [hji65] at H | simp only [hji65] at H
     (try rw [hji65] at c63b0)
     (try rw [hji65] at A61)
     (try rw [hji65] at A64)
     have hji65w : (IntKind.i64.wrap (x11_4 + 1)) = ji65 := (i64_w _).trans hji65
     obtain ⟨c66b0, H⟩ := iq_ H
     obtain ⟨t645, A67, H⟩ := ob_ H
     by_cases c68 : t645 = true
     rotate_left
     ·replace c68 := Bool.eq_false_iff.mpr c68
      subst c68
      rw [if_neg (show ¬ (false = true) by decide)] at H
      obtain rfl := Option.some.inj H
      obtain ⟨Ao75, co75, eo75⟩ := Kd.R_slice HO_8.out
      subst eo75
      go_wp2
      replace HO_8 := rw5_ HO_8
      replace HO_620001 := rw5_ HO_620001
      replace BK619 := ad_ BK619
      replace HB := Aside0.mk (below_drew1 HB.out)
      have p638 : 0 ≤ (x11_4 : Int) := oa_
      have q638 : x11_4 < (t624.length : Int) := oa_
      obtain ⟨ad638, e638, hx638_0⟩ := Kd.at_int (Kd.R_reads' HO_8.out).2.2 x11_4 p638 q638
      cases e638
      obtain ⟨p638, q638⟩ := et_ p638 q638
      refine start_ (n := 9) (S := fun w' => w'.cell? ⟨gb619, 0, none⟩ = some (.int .i64 t613) ∧ w'.cell? ⟨gb619, 1, none⟩ = some (.slice Ao11 t614.length co11) ∧ w'.cell? (ad638.add (x11_4).toNat) = some (.int .i64 (rd t624 x11_4))) (ds := []) ba23_30 (by kernel_rfl) rfl rfl ⟨bq5_ BK619 0, bq5_ BK619 1, hx638_0⟩ (fun hHeld => ?_); refine with_tabW laws_FnCheapest.tab18 laws_FnCheapest.bits18 (fun HT_ HW_ => ?_)
      generalize wr.drew = w76 at HO_8 HO_620001 BK619 HB hx638_0 hHeld ⊢
      refine pz_ 1 95 ba23_31 HT_ ?_
      refine pz_ 2 96 ba23_32 HT_ ?_
      refine pz_ 3 97 ba23_33 HT_ ?_
      refine pz_ 4 98 ba23_34 HT_ ?_
      refine pz_ 5 99 ba23_35 HT_ ?_
      refine pt_ 0 94 ba23_36 HT_ HW_ hHeld ?_
      refine pt_ 6 100 ba23_37 HT_ HW_ hHeld ?_
      refine on_ 7 (some 101) ba23_38 HT_ (fun K hK => ?_)
      refine gz_ Try.func37 #[.agg #[.int .i64 t613, .slice Ao11 t614.length co11], .int .i64 t617, .int .i64 t618, .int .i64 (rd t624 x11_4)] ?_
      with_reducible refine (impl_OnWay.calls k4 t613 _ _ t614 t617 t618 (rd t624 x11_4) true _ ?side1 ?side2 A61.out).mono ?_
      (case side1 => exact rc_ HO_620001)
      (case side2 => exact (Kd.R_reads' HO_620001.out).2.1)
      rintro e w77 ⟨rfl, hb⟩
      have HS2_ := (hb.cell (World.block_lt_of_cell? _ _ (hHeld.2.2))).trans (hHeld.2.2)
      refine ⟨_, rfl, ?_⟩
      replace HO_8 := rb_ HO_8 hb
      replace HO_620001 := rb_ HO_620001 hb
      replace BK619 := ab_ BK619 hb
      replace HB := at_ HB hb
      clear hb
      refine hK.out _ _ ⟨bq5_ BK619 0, bq5_ BK619 1, HS2_⟩ (fun hHeld => ?_)
      clear hK K
      refine nz_ 101 ?_
      refine pz_ 8 102 ba23_39 HT_ ?_
      refine done_ (done_of HT_.out (by kernel_rfl)) ?_
      go_wp2
      replace HO_8 := rw5_ HO_8
      replace HO_620001 := rw5_ HO_620001
      replace BK619 := ad_ BK619
      replace HB := Aside0.mk (below_drew1 HB.out)
      have p640 : 0 ≤ (x11_4 : Int) := oa_
      have q640 : x11_4 < (t624.length : Int) := oa_
      obtain ⟨ad640, e640, hx640_0⟩ := Kd.at_int (Kd.R_reads' HO_8.out).2.2 x11_4 p640 q640
      obtain rfl : ad638 = ad640 := (by injection e640)
      obtain ⟨p640, q640⟩ := et_ p640 q640
      have p644 : 0 ≤ ((ji65) : Int) := oa_
      have q644 : (ji65) < (t624.length : Int) := oa_
      obtain ⟨ad644, e644, hx644_0⟩ := Kd.at_int (Kd.R_reads' HO_8.out).2.2 (ji65) p644 q644
      obtain rfl : ad638 = ad644 := (by injection e644)
      obtain ⟨p644, q644⟩ := et_ p644 q644
      refine start_ (n := 21) (S := fun w' => w'.cell? ⟨gb619, 0, none⟩ = some (.int .i64 t613) ∧ w'.cell? ⟨gb619, 1, none⟩ = some (.slice Ao11 t614.length co11) ∧ w'.cell? (ad638.add (x11_4).toNat) = some (.int .i64 (rd t624 x11_4)) ∧ w'.cell? (ad638.add ((ji65)).toNat) = some (.int .i64 (rd t624 (ji65)))) (ds := []) ba23_40 (by kernel_rfl) rfl rfl ⟨bq5_ BK619 0, bq5_ BK619 1, hx640_0, hx644_0⟩ (fun hHeld => ?_); refine with_tabW laws_FnCheapest.tab20 laws_FnCheapest.bits20 (fun HT_ HW_ => ?_)
      generalize w77.drew = w78 at HO_8 HO_620001 BK619 HB hx640_0 hx644_0 hHeld ⊢
      refine pz_ 0 103 ba23_41 HT_ ?_
      refine pz_ 1 104 ba23_42 HT_ ?_
      refine pz_ 2 105 ba23_43 HT_ ?_
      refine pz_ 3 106 ba23_44 HT_ ?_
      refine pz_ 4 107 ba23_45 HT_ ?_
      refine pz_ 5 108 ba23_46 HT_ ?_
      refine pz_ 7 110 ba23_47 HT_ ?_
      refine pz_ 8 111 ba23_48 HT_ ?_
      refine pz_ 9 112 ba23_49 HT_ ?_
      refine pz_ 11 114 ba23_50 HT_ ?_
      refine pz_ 13 116 ba23_51 HT_ ?_
      refine pz_ 14 117 ba23_52 HT_ ?_
      refine pz_ 15 118 ba23_53 HT_ ?_
      refine pz_ 16 119 ba23_54 HT_ ?_
      refine pt_ 6 109 ba23_55 HT_ HW_ hHeld ?_
      refine pt_ 10 113 ba23_56 HT_ HW_ hHeld ?_
      refine pt_ 17 120 ba23_57 HT_ HW_ hHeld ?_
      refine on_ 12 (some 115) ba23_58 HT_ (fun K hK => ?_)
      refine gz_ Try.func34 #[.agg #[.int .i64 t613, .slice Ao11 t614.length co11], .int .i64 (rd t624 x11_4), .int .i64 t618] ?_
      with_reducible refine (impl_HopsTo.calls k4 t613 _ _ t614 (rd t624 x11_4) t618 t641 _ ?side1 ?side2 A64.out).mono ?_
      (case side1 => exact rc_ HO_620001)
      (case side2 => exact (Kd.R_reads' HO_620001.out).2.1)
      rintro e w79 ⟨v642, rfl, ho0, hb⟩
      have HS2_ := (hb.cell (World.block_lt_of_cell? _ _ (hHeld.2.2.1))).trans (hHeld.2.2.1)
      have HS3_ := (hb.cell (World.block_lt_of_cell? _ _ (hHeld.2.2.2))).trans (hHeld.2.2.2)
      refine ⟨_, rfl, ?_⟩
      have HO643 := Aside0.mk (Kd.R_lower (Kd.R_new' ho0 (Kd.R_lt (hd_ HO_8))) (bz_ HB))
      replace HO_620001 := rb_ HO_620001 hb
      replace HO_8 := Aside0.mk (Kd.R_elder' (hd_ HO_8) (Kd.R_base ho0) hb)
      replace BK619 := ab_ BK619 hb
      replace HB := at_ HB hb
      clear hb ho0
      obtain ⟨Ao80, co80, eo80⟩ := Kd.R_slice HO643.out
      subst eo80
      refine hK.out _ _ ⟨bq5_ BK619 0, bq5_ BK619 1, HS2_, HS3_⟩ (fun hHeld => ?_)
      clear hK K
      refine nz_ 115 ?_
      refine on_ 18 (some 121) ba23_59 HT_ (fun K hK => ?_)
      refine goes_ Try.func35 (by kernel_rfl) rfl #[.slice Ao80 t641.length co80, .int .i64 (rd t624 (ji65))] (by rfl) rfl rfl (by (try simp only [List.map_toArray, List.map_cons, List.map_nil]); first | done | (simp only [hji65]; rfl) | rfl | (simp only [List.length_drop, List.length_take]; rfl)) ?_
      with_reducible refine (laws_within.calls k4 _ _ t641 (rd t624 (ji65)) false _ ?side1 ?side2 A67.out).mono ?_
      (case side1 => exact rc_ HO643)
      (case side2 => exact (Kd.R_reads' HO643.out).2.1)
      rintro e w' ⟨rfl, ⟨nd, rfl⟩⟩
      refine ⟨_, rfl, ?_⟩
      refine hK.out _ _ ⟨bq5_ BK619 0, bq5_ BK619 1, hHeld.2.2.1, hHeld.2.2.2⟩ (fun hHeld => ?_)
      clear hK K
      refine nz_ 121 ?_
      refine pz_ 19 122 ba23_60 HT_ ?_
      refine pz_ 20 123 ba23_61 HT_ ?_
      refine done_ (done_of HT_.out (by kernel_rfl)) ?_
      go_wp2
      go_ret
      exact ⟨by first | rfl | (simp [errW_none, errW_some] <;> rfl) | (simp only [← hji65]; first | rfl | (simp [errW_none, errW_some] <;> rfl)) | (simp [*, errW_none, errW_some] <;> rfl), bw115_⟩
     subst c68
     rw [if_pos rfl] at H
     have H' := Aside0.mk H
     clear H
     obtain ⟨Ao69, co69, eo69⟩ := Kd.R_slice HO_8.out
     subst eo69
     go_wp2
     replace HO_8 := rw5_ HO_8
     replace HO_620001 := rw5_ HO_620001
     replace BK619 := ad_ BK619
     replace HB := Aside0.mk (below_drew1 HB.out)
     have p638 : 0 ≤ (x11_4 : Int) := oa_
     have q638 : x11_4 < (t624.length : Int) := oa_
     obtain ⟨ad638, e638, hx638_0⟩ := Kd.at_int (Kd.R_reads' HO_8.out).2.2 x11_4 p638 q638
     cases e638
     obtain ⟨p638, q638⟩ := et_ p638 q638
     refine start_ (n := 9) (S := fun w' => w'.cell? ⟨gb619, 0, none⟩ = some (.int .i64 t613) ∧ w'.cell? ⟨gb619, 1, none⟩ = some (.slice Ao11 t614.length co11) ∧ w'.cell? (ad638.add (x11_4).toNat) = some (.int .i64 (rd t624 x11_4))) (ds := []) ba23_30 (by kernel_rfl) rfl rfl ⟨bq5_ BK619 0, bq5_ BK619 1, hx638_0⟩ (fun hHeld => ?_); refine with_tabW laws_FnCheapest.tab18 laws_FnCheapest.bits18 (fun HT_ HW_ => ?_)
     generalize wr.drew = w70 at HO_8 HO_620001 BK619 HB hx638_0 hHeld ⊢
     refine pz_ 1 95 ba23_31 HT_ ?_
     refine pz_ 2 96 ba23_32 HT_ ?_
     refine pz_ 3 97 ba23_33 HT_ ?_
     refine pz_ 4 98 ba23_34 HT_ ?_
     refine pz_ 5 99 ba23_35 HT_ ?_
     refine pt_ 0 94 ba23_36 HT_ HW_ hHeld ?_
     refine pt_ 6 100 ba23_37 HT_ HW_ hHeld ?_
     refine on_ 7 (some 101) ba23_38 HT_ (fun K hK => ?_)
     refine gz_ Try.func37 #[.agg #[.int .i64 t613, .slice Ao11 t614.length co11], .int .i64 t617, .int .i64 t618, .int .i64 (rd t624 x11_4)] ?_
     with_reducible refine (impl_OnWay.calls k4 t613 _ _ t614 t617 t618 (rd t624 x11_4) true _ ?side1 ?side2 A61.out).mono ?_
     (case side1 => exact rc_ HO_620001)
     (case side2 => exact (Kd.R_reads' HO_620001.out).2.1)
     rintro e w71 ⟨rfl, hb⟩
     have HS2_ := (hb.cell (World.block_lt_of_cell? _ _ (hHeld.2.2))).trans (hHeld.2.2)
     refine ⟨_, rfl, ?_⟩
     replace HO_8 := rb_ HO_8 hb
     replace HO_620001 := rb_ HO_620001 hb
     replace BK619 := ab_ BK619 hb
     replace HB := at_ HB hb
     clear hb
     refine hK.out _ _ ⟨bq5_ BK619 0, bq5_ BK619 1, HS2_⟩ (fun hHeld => ?_)
     clear hK K
     refine nz_ 101 ?_
     refine pz_ 8 102 ba23_39 HT_ ?_
     refine done_ (done_of HT_.out (by kernel_rfl)) ?_
     go_wp2
     replace HO_8 := rw5_ HO_8
     replace HO_620001 := rw5_ HO_620001
     replace BK619 := ad_ BK619
     replace HB := Aside0.mk (below_drew1 HB.out)
     have p640 : 0 ≤ (x11_4 : Int) := oa_
     have q640 : x11_4 < (t624.length : Int) := oa_
     obtain ⟨ad640, e640, hx640_0⟩ := Kd.at_int (Kd.R_reads' HO_8.out).2.2 x11_4 p640 q640
     obtain rfl : ad638 = ad640 := (by injection e640)
     obtain ⟨p640, q640⟩ := et_ p640 q640
     have p644 : 0 ≤ ((ji65) : Int) := oa_
     have q644 : (ji65) < (t624.length : Int) := oa_
     obtain ⟨ad644, e644, hx644_0⟩ := Kd.at_int (Kd.R_reads' HO_8.out).2.2 (ji65) p644 q644
     obtain rfl : ad638 = ad644 := (by injection e644)
     obtain ⟨p644, q644⟩ := et_ p644 q644
     refine start_ (n := 21) (S := fun w' => w'.cell? ⟨gb619, 0, none⟩ = some (.int .i64 t613) ∧ w'.cell? ⟨gb619, 1, none⟩ = some (.slice Ao11 t614.length co11) ∧ w'.cell? (ad638.add (x11_4).toNat) = some (.int .i64 (rd t624 x11_4)) ∧ w'.cell? (ad638.add ((ji65)).toNat) = some (.int .i64 (rd t624 (ji65)))) (ds := []) ba23_40 (by kernel_rfl) rfl rfl ⟨bq5_ BK619 0, bq5_ BK619 1, hx640_0, hx644_0⟩ (fun hHeld => ?_); refine with_tabW laws_FnCheapest.tab20 laws_FnCheapest.bits20 (fun HT_ HW_ => ?_)
     generalize w71.drew = w72 at HO_8 HO_620001 BK619 HB hx640_0 hx644_0 hHeld ⊢
     refine pz_ 0 103 ba23_41 HT_ ?_
     refine pz_ 1 104 ba23_42 HT_ ?_
     refine pz_ 2 105 ba23_43 HT_ ?_
     refine pz_ 3 106 ba23_44 HT_ ?_
     refine pz_ 4 107 ba23_45 HT_ ?_
     refine pz_ 5 108 ba23_46 HT_ ?_
     refine pz_ 7 110 ba23_47 HT_ ?_
     refine pz_ 8 111 ba23_48 HT_ ?_
     refine pz_ 9 112 ba23_49 HT_ ?_
     refine pz_ 11 114 ba23_50 HT_ ?_
     refine pz_ 13 116 ba23_51 HT_ ?_
     refine pz_ 14 117 ba23_52 HT_ ?_
     refine pz_ 15 118 ba23_53 HT_ ?_
     refine pz_ 16 119 ba23_54 HT_ ?_
     refine pt_ 6 109 ba23_55 HT_ HW_ hHeld ?_
     refine pt_ 10 113 ba23_56 HT_ HW_ hHeld ?_
     refine pt_ 17 120 ba23_57 HT_ HW_ hHeld ?_
     refine on_ 12 (some 115) ba23_58 HT_ (fun K hK => ?_)
     refine gz_ Try.func34 #[.agg #[.int .i64 t613, .slice Ao11 t614.length co11], .int .i64 (rd t624 x11_4), .int .i64 t618] ?_
     with_reducible refine (impl_HopsTo.calls k4 t613 _ _ t614 (rd t624 x11_4) t618 t641 _ ?side1 ?side2 A64.out).mono ?_
     (case side1 => exact rc_ HO_620001)
     (case side2 => exact (Kd.R_reads' HO_620001.out).2.1)
     rintro e w73 ⟨v642, rfl, ho0, hb⟩
     have HS2_ := (hb.cell (World.block_lt_of_cell? _ _ (hHeld.2.2.1))).trans (hHeld.2.2.1)
     have HS3_ := (hb.cell (World.block_lt_of_cell? _ _ (hHeld.2.2.2))).trans (hHeld.2.2.2)
     refine ⟨_, rfl, ?_⟩
     have HO643 := Aside0.mk (Kd.R_lower (Kd.R_new' ho0 (Kd.R_lt (hd_ HO_8))) (bz_ HB))
     replace HO_620001 := rb_ HO_620001 hb
     replace HO_8 := Aside0.mk (Kd.R_elder' (hd_ HO_8) (Kd.R_base ho0) hb)
     replace BK619 := ab_ BK619 hb
     replace HB := at_ HB hb
     clear hb ho0
     obtain ⟨Ao74, co74, eo74⟩ := Kd.R_slice HO643.out
     subst eo74
     refine hK.out _ _ ⟨bq5_ BK619 0, bq5_ BK619 1, HS2_, HS3_⟩ (fun hHeld => ?_)
     clear hK K
     refine nz_ 115 ?_
     refine on_ 18 (some 121) ba23_59 HT_ (fun K hK => ?_)
     refine goes_ Try.func35 (by kernel_rfl) rfl #[.slice Ao74 t641.length co74, .int .i64 (rd t624 (ji65))] (by rfl) rfl rfl (by (try simp only [List.map_toArray, List.map_cons, List.map_nil]); first | done | (simp only [hji65]; rfl) | rfl | (simp only [List.length_drop, List.length_take]; rfl)) ?_
     with_reducible refine (laws_within.calls k4 _ _ t641 (rd t624 (ji65)) true _ ?side1 ?side2 A67.out).mono ?_
     (case side1 => exact rc_ HO643)
     (case side2 => exact (Kd.R_reads' HO643.out).2.1)
     rintro e w' ⟨rfl, ⟨nd, rfl⟩⟩
     refine ⟨_, rfl, ?_⟩
     refine hK.out _ _ ⟨bq5_ BK619 0, bq5_ BK619 1, hHeld.2.2.1, hHeld.2.2.2⟩ (fun hHeld => ?_)
     clear hK K
     refine nz_ 121 ?_
     refine pz_ 19 122 ba23_60 HT_ ?_
     refine pz_ 20 123 ba23_61 HT_ ?_
     refine done_ (done_of HT_.out (by kernel_rfl)) ?_
     go_wp2
     go_roundg k4
     case measure => have := HJ6.out; have := HJ20.out; have := HJ31.out; have := HK4.out; omega
     case rel => exact ⟨(ji65), (by first | rfl | (simp; done) | (simp only [← hji65] <;> (first | rfl | simp)) | (simp [*]; done)), H', ⟨by have := HJ6.out; have := HJ20.out; have := HJ31.out; have := HK4.out; omega⟩, ⟨hq_ (Kd.R_mono HO_8.out (fun _ hk => trivial))⟩, ⟨hd_ HO_620001⟩, ⟨bx_ BK619⟩, ⟨bw115_⟩⟩
/-- THE ONE PURE STATEMENT of laws_FnCheapest: yours. -/
def laws_FnCheapest.Pure : Prop := ∀ (l0 : List Int), l0.length ≤ maxLen → l0.length * 1 ≤ 140737488351232 → (∀ x ∈ l0, (Lit.int .u8 x).wf = true) → ∃ k, laws_FnCheapest.f k l0 = some true
end Go.Proofs.Ythmahcohcphljaa.QFnCheapest
