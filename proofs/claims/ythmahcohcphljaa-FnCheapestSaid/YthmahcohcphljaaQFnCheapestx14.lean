/- Contracts of functions that the law reaches: what each call returns and what it leaves in memory. Made by this session over the print of the kit. -/
import Derived.Test.YthmahcohcphljaaQFnCheapestx0
import Derived.Test.YthmahcohcphljaaQFnCheapestx2
import Derived.Test.YthmahcohcphljaaQFnCheapestx7
import Derived.Test.YthmahcohcphljaaQFnCheapestx13
namespace Go.Proofs.Ythmahcohcphljaa.QFnCheapest
open Go.RowKit Go.Proofs.YthmahcohcphljaaC.PrintWords Go.Proofs.YthmahcohcphljaaC.PrintLast Go.Proofs.YthmahcohcphljaaC.PrintMore
attribute [local go_sem] max2_int min2_int max_two min_two max_three min_three max_four min_four
set_option linter.unusedVariables false
set_option linter.unusedSimpArgs false
def ba14_0 := bs_ 27 0
def ba14_1 := bs_ 27 1
def ba14_2 := bs_ 27 3
def ba14_3 := bs_ 27 7
def ba14_4 := bs_ 27 15
def ba14_5 := bs_ 27 31
def ba14_6 := bs_ 27 63
def ba14_7 := bs_ 27 127
def ba14_8 := bs_ 27 255
def ba14_9 := bs_ 27 511
def ba14_10 := bs_ 27 1023
def ba14_11 := bs_ 27 2047
def ba14_12 := bs_ 27 4095
def ba14_13 := bs_ 27 8191
def ba14_14 := bs_ 27 16383
def ba14_15 := bs_ 27 32767
def ba14_16 := bs_ 27 65535
def ba14_17 := bs_ 27 131071
def ba14_18 := bs_ 27 262143
def ba14_19 := bs_ 27 524287
def ba14_20 := bs_ 27 1048575
def ba14_21 := bs_ 27 2097151
def ba14_22 := bs_ 27 4194303
def ba14_23 := bs_ 27 8388607
def ba14_24 := bs_ 27 16777215
def ba14_25 := bs_ 27 33554431
def ba14_26 := bs_ 27 67108863
def ba14_27 := bs_ 27 134217727
def ba14_28 := bs_ 27 1572863
def ba14_29 := bs_ 27 3670015
def ba14_30 := bs_ 27 7864319
def ba14_31 := bs_ 27 2621439
def ba14_32 := bs_ 27 6815743
def ba14_33 := bs_ 27 15204351
def ba14_34 := bs_ 27 15728639
def ba14_35 := bs_ 13 0
def ba14_36 := bs_ 13 1
def ba14_37 := bs_ 13 3
def ba14_38 := bs_ 13 7
def ba14_39 := bs_ 13 15
def ba14_40 := bs_ 13 31
def ba14_41 := bs_ 13 95
def ba14_42 := bs_ 13 223
def ba14_43 := bs_ 13 479
def ba14_44 := bs_ 13 511
def ba14_45 := bs_ 13 1023
def ba14_46 := bs_ 13 2047
def ba14_47 := bs_ 13 4095
def ba14_48 := bs_ 13 8191
def ba14_49 := bs_ 17 0
def ba14_50 := bs_ 17 1
def ba14_51 := bs_ 17 3
def ba14_52 := bs_ 17 7
def ba14_53 := bs_ 17 15
def ba14_54 := bs_ 17 31
def ba14_55 := bs_ 17 63
def ba14_56 := bs_ 17 127
def ba14_57 := bs_ 17 255
def ba14_58 := bs_ 17 511
def ba14_59 := bs_ 17 1023
def ba14_60 := bs_ 17 2047
def ba14_61 := bs_ 17 4095
def ba14_62 := bs_ 17 8191
def ba14_63 := bs_ 17 16383
def ba14_64 := bs_ 17 32767
def ba14_65 := bs_ 17 65535
def ba14_66 := bs_ 17 131071
def ba14_67 := bs_ 17 2559
def ba14_68 := bs_ 17 6655
def ba14_69 := bs_ 17 14847
def ba14_70 := bs_ 17 15359
mutual
def spec_l03Steps.l0 : Nat → Int → List Int → Int → Int → List (S76) → Option (List Int × List Int)
 | 0, _, _, _, _, _ => none
 | k + 1, x1, x6, x7, x418000, x418001 => if x7 < x418000 then ((spec_Distances.f k x418000 x418001 x7).bind fun t421 => (if 0 ≤ x1 then (if x1 < (t421.length : Int) then (if x6.length < 17592186044416 then (spec_l03Steps.l0 k x1 (x6 ++ [rd t421 x1]) (wrap64 (x7 + 1)) x418000 x418001) else (none)) else (none)) else (none))) else (if 0 ≤ x418000 then (if (x418000 : Int).toNat ≤ 35184372088832 then (if (x418000 : Int).toNat ≤ 281474976710656 then (spec_l03Steps.l1 k x1 x6 (List.replicate (x418000 : Int).toNat 0) (List.replicate (x418000 : Int).toNat 0) (List.replicate (x418000 : Int).toNat false) 0 x418000 x418001) else (none)) else (none)) else (none))
def spec_l03Steps.l1 : Nat → Int → List Int → List Int → List Int → List Bool → Int → Int → List (S76) → Option (List Int × List Int)
 | 0, _, _, _, _, _, _, _, _ => none
 | k + 1, x1, x6, x8, x9, x10, x11, x418000, x418001 => if x11 < x418000 then (spec_l03Steps.l2 k x1 x6 x8 x9 x10 x11 (-1) 0 x418000 x418001) else (some (x8, x9))
def spec_l03Steps.l2 : Nat → Int → List Int → List Int → List Int → List Bool → Int → Int → Int → Int → List (S76) → Option (List Int × List Int)
 | 0, _, _, _, _, _, _, _, _, _, _ => none
 | k + 1, x1, x6, x8, x9, x10, x11, x12, x13, x418000, x418001 => if x13 < x418000 then (if 0 ≤ x13 then (if x13 < (x10.length : Int) then (if rdOf false x10 x13 = true then (spec_l03Steps.l2 k x1 x6 x8 x9 x10 x11 x12 (wrap64 (x13 + 1)) x418000 x418001) else (if x13 < (x6.length : Int) then (if (rd x6 x13) < 1000000 then (if x12 < 0 then (spec_l03Steps.l2 k x1 x6 x8 x9 x10 x11 x13 (wrap64 (x13 + 1)) x418000 x418001) else (if 0 ≤ x12 then (if x12 < (x6.length : Int) then (if (rd x6 x13) < (rd x6 x12) then (spec_l03Steps.l2 k x1 x6 x8 x9 x10 x11 x13 (wrap64 (x13 + 1)) x418000 x418001) else (spec_l03Steps.l2 k x1 x6 x8 x9 x10 x11 x12 (wrap64 (x13 + 1)) x418000 x418001)) else (none)) else (none))) else (spec_l03Steps.l2 k x1 x6 x8 x9 x10 x11 x12 (wrap64 (x13 + 1)) x418000 x418001)) else (none))) else (none)) else (none)) else (if x12 < 0 then (some (x8, x9)) else (if 0 ≤ x12 then (if x12 < (x10.length : Int) then ((some (x10.set (x12 : Int).toNat true : List Bool)).bind fun y441 => (if x12 = x1 then (if x12 < (x8.length : Int) then (if x12 < (x9.length : Int) then (spec_l03Steps.l1 k x1 x6 (x8.set (x12 : Int).toNat 1) (x9.set (x12 : Int).toNat 1) y441 (wrap64 (x11 + 1)) x418000 x418001) else (none)) else (none)) else (spec_l03Steps.l3 k x1 x6 x8 x9 y441 x11 x12 0 x418000 x418001))) else (none)) else (none)))
def spec_l03Steps.l3 : Nat → Int → List Int → List Int → List Int → List Bool → Int → Int → Int → Int → List (S76) → Option (List Int × List Int)
 | 0, _, _, _, _, _, _, _, _, _, _ => none
 | k + 1, x1, x6, x8, x9, x10, x11, x12, x14, x418000, x418001 => if x14 < x418000 then ((spec_l03Cost.f k x418000 x418001 x12 x14).bind fun t444 => (if x14 = x12 then (spec_l03Steps.j4 k x1 x6 x8 x9 x10 x11 x12 x14 true x418000 x418001) else (if t444 = 1000000 then (spec_l03Steps.j4 k x1 x6 x8 x9 x10 x11 x12 x14 true x418000 x418001) else (if 0 ≤ x14 then (if x14 < (x6.length : Int) then (if (rd x6 x14) = 1000000 then (spec_l03Steps.j4 k x1 x6 x8 x9 x10 x11 x12 x14 true x418000 x418001) else (if 0 ≤ x12 then (if x12 < (x6.length : Int) then (spec_l03Steps.j4 k x1 x6 x8 x9 x10 x11 x12 x14 ((wrap64 (t444 + (rd x6 x14))) != (rd x6 x12)) x418000 x418001) else (none)) else (none))) else (none)) else (none))))) else (spec_l03Steps.l1 k x1 x6 x8 x9 x10 (wrap64 (x11 + 1)) x418000 x418001)
def spec_l03Steps.j4 : Nat → Int → List Int → List Int → List Int → List Bool → Int → Int → Int → Bool → Int → List (S76) → Option (List Int × List Int)
 | 0, _, _, _, _, _, _, _, _, _, _, _ => none
 | k + 1, x1, x6, x8, x9, x10, x11, x12, x14, x131, x418000, x418001 => if x131 = true then (spec_l03Steps.l3 k x1 x6 x8 x9 x10 x11 x12 (wrap64 (x14 + 1)) x418000 x418001) else (if 0 ≤ x12 then (if x12 < (x9.length : Int) then (if 0 ≤ x14 then (if x14 < (x9.length : Int) then ((some (x9.set (x12 : Int).toNat (wrap64 ((rd x9 x12) + (rd x9 x14))) : List Int)).bind fun y450 => (if x12 < (x8.length : Int) then (if (rd x8 x12) = 0 then (if x14 < (x8.length : Int) then (spec_l03Steps.l3 k x1 x6 (x8.set (x12 : Int).toNat (wrap64 ((rd x8 x14) + 1))) y450 x10 x11 x12 (wrap64 (x14 + 1)) x418000 x418001) else (none)) else (if x14 < (x8.length : Int) then (if (wrap64 ((rd x8 x14) + 1)) < (rd x8 x12) then (spec_l03Steps.l3 k x1 x6 (x8.set (x12 : Int).toNat (wrap64 ((rd x8 x14) + 1))) y450 x10 x11 x12 (wrap64 (x14 + 1)) x418000 x418001) else (spec_l03Steps.l3 k x1 x6 x8 y450 x10 x11 x12 (wrap64 (x14 + 1)) x418000 x418001)) else (none))) else (none))) else (none)) else (none)) else (none)) else (none))
end
def spec_l03Steps.f (k : Nat) (a0_0 : Int) (l0_1 : List (S76)) (a1 : Int) : Option (List Int × List Int) := spec_l03Steps.l0 k a1 (([] : List Int)) 0 a0_0 l0_1
def spec_l03Steps.T16 : Bool × List (List Nat × List Nat) := (true, [([], []), ([], []), ([0, 1], [0, 1]), ([2], [2]), ([3], [3]), ([4], [4]), ([5], [5]), ([5], [5]), ([6, 7, 5], [5, 6, 7]), ([8, 5], [5, 8]), ([9, 5], [5, 9]), ([5, 10], [5, 10]), ([11, 5], [11]), ([12], [12]), ([13, 12], [12, 13]), ([14, 12, 12], [12, 14]), ([15], [15]), ([15], [15]), ([16, 17, 15], [15, 16, 17]), ([18, 15], [15, 18]), ([15], [15]), ([15], [15]), ([20, 21, 15], [15, 20, 21]), ([22, 15], [15, 22]), ([19, 23, 15], [15, 19, 23]), ([15, 24, 12], [12, 15, 24]), ([12, 25], [12, 25])])
def spec_l03Steps.B16 : List Nat := [0, 0, 3, 7, 15, 31, 63, 63, 255, 511, 1023, 2047, 4095, 8191, 16383, 32767, 65535, 65535, 262143, 524287, 65535, 65535, 3211263, 7405567, 16777215, 33554431, 67108863]
theorem spec_l03Steps.tab16 : rtab .any (opsOf Try.f71 16) = spec_l03Steps.T16 := by kernel_rfl
theorem spec_l03Steps.bits16 : waitsOk spec_l03Steps.T16.2 spec_l03Steps.B16 = true := by kernel_rfl
def spec_l03Steps.T27 : Bool × List (List Nat × List Nat) := (true, [([], []), ([], []), ([0, 1], [0, 1]), ([2], [2]), ([3], [3]), ([4, 3], [3, 4]), ([3, 5], [3, 5]), ([6, 3], [6]), ([7], [7]), ([7], [7]), ([8, 9, 7], [7, 8, 9]), ([10, 7], [7, 10]), ([11, 7], [7, 11]), ([7, 12], [7, 12]), ([13, 7], [13]), ([14], [14]), ([14], [14]), ([14], [14]), ([16, 17, 14], [14, 16, 17]), ([18, 14], [14, 18]), ([15, 19, 14], [14, 15, 19]), ([14], [14]), ([14], [14]), ([21, 22, 14], [14, 21, 22]), ([23, 14], [14, 23]), ([20, 24, 14], [14, 20, 24]), ([14, 25], [14, 25])])
def spec_l03Steps.B27 : List Nat := [0, 0, 3, 7, 15, 31, 63, 127, 255, 255, 1023, 2047, 4095, 8191, 16383, 32767, 32767, 32767, 229375, 491519, 1048575, 32767, 32767, 6324223, 14712831, 33554431, 67108863]
theorem spec_l03Steps.tab27 : rtab .any (opsOf Try.f71 27) = spec_l03Steps.T27 := by kernel_rfl
theorem spec_l03Steps.bits27 : waitsOk spec_l03Steps.T27.2 spec_l03Steps.B27 = true := by kernel_rfl
def spec_l03Steps.T28 : Bool × List (List Nat × List Nat) := (true, [([], []), ([], []), ([], []), ([], []), ([2, 3], [2, 3]), ([4], [4]), ([], []), ([], []), ([6, 7], [6, 7]), ([8], [8]), ([5, 9], [5, 9]), ([0, 1, 0, 1, 2, 3, 4, 5, 6, 7, 8, 9, 10], [0, 1]), ([11, 10, 0, 1, 2, 3, 4, 5, 6, 7, 8, 9, 10], [10, 11])])
def spec_l03Steps.B28 : List Nat := [0, 0, 0, 0, 12, 28, 0, 0, 192, 448, 1020, 2047, 4095]
theorem spec_l03Steps.tab28 : rtab .any (opsOf Try.f71 28) = spec_l03Steps.T28 := by kernel_rfl
theorem spec_l03Steps.bits28 : waitsOk spec_l03Steps.T28.2 spec_l03Steps.B28 = true := by kernel_rfl
def spec_l03Steps.T29 : Bool × List (List Nat × List Nat) := (true, [([], []), ([], []), ([0, 1], [0, 1]), ([2], [2]), ([3], [3]), ([4], [4]), ([5], [5]), ([5], [5]), ([6, 7, 5], [5, 6, 7]), ([8, 5], [5, 8]), ([9, 5], [5, 9]), ([5], [5]), ([5], [5]), ([11, 12, 5], [5, 11, 12]), ([13, 5], [5, 13]), ([10, 14, 5], [5, 10, 14]), ([5, 15], [5, 15])])
def spec_l03Steps.B29 : List Nat := [0, 0, 3, 7, 15, 31, 63, 63, 255, 511, 1023, 63, 63, 6207, 14399, 32767, 65535]
theorem spec_l03Steps.tab29 : rtab .any (opsOf Try.f71 29) = spec_l03Steps.T29 := by kernel_rfl
theorem spec_l03Steps.bits29 : waitsOk spec_l03Steps.T29.2 spec_l03Steps.B29 = true := by kernel_rfl
set_option maxHeartbeats 8000000 in
set_option maxRecDepth 100000 in
theorem spec_l03Steps.calls (k : Nat) (a0_0 : Int) (A0_1 : Option Addr) (c0_1 : Nat) (l0_1 : List (S76)) (a1 : Int) (r1 : List Int) (r2 : List Int) (w : World) (hr0_1 : Kd.C k76 w A0_1 l0_1.length l0_1) (hc0_1 : l0_1.length ≤ c0_1) (h : spec_l03Steps.f k a0_0 l0_1 a1 = some (r1, r2)) :
  Calls Try.prog 71 #[.agg #[.int .i64 a0_0, .slice A0_1 l0_1.length c0_1], .int .i64 a1] w fun e w' => ∃ v0_ v1_ : Value, e = .returned (.tuple #[v0_, v1_]) ∧ Kd.R (Kd.int .i64) 3 w' w.heap.size (fun k_ => some k_ ≠ (v1_ : Value).ownBlock) v0_ r1 ∧ Kd.R (Kd.int .i64) 3 w' w.heap.size (fun k_ => some k_ ≠ (v0_ : Value).ownBlock) v1_ r2 ∧ Below w.heap.size w w' := by
 have hu30 := Try.underlying30
 have HR0_1 := Aside0.mk hr0_1
 have HC0_1 := Aside0.mk hc0_1
 clear hr0_1 hc0_1
 have HB := Aside0.mk (Below.refl w.heap.size w)
 have H : (spec_l03Steps.l0 k a1 (([] : List Int)) 0 a0_0 l0_1) = some (r1, r2) := h
 clear h
 obtain ⟨y418, hy418⟩ : ∃ y_ : List Int, y_ = (([] : List Int)) := ⟨_, rfl⟩
 replace H : (spec_l03Steps.l0 k a1 y418 0 a0_0 l0_1) = some (r1, r2) := by first | (rw [hy418]; with_reducible exact H) | (have H2_ := (Option.bind_some _ _).symm.trans H; rw [hy418]; with_reducible exact H2_) | (have H2_ := (Option.bind_some _ _).symm.trans H; with_reducible exact H2_) | with_reducible exact H | (rw [hy418]; exact H) | exact H
 have Ny418 := Aside0.mk hy418
 clear hy418
 have H' := Aside0.mk H
 clear H
 go_enter Try.func71, Try.ntmps71
 go_wp2_with (first | ((with_reducible refine gate_dst (N := 2) rfl ?_); refine be_ 2 #[.int .i64 a0_0, .slice A0_1 l0_1.length c0_1] 30 ?_; intro gb417 hg w3 BK417 hb; have GW417 := ge_ HB hg; have GE417 := ge_ HB hg; replace HB := at_ HB hb; clear hb hg) | ((with_reducible refine gate_dst (N := 16) rfl ?_); refine Kd.R_lit (Kd.int .i64) _ 3 ?hg (N := 16) ?hd (xs := ([] : List Int)) (inner := []) (ok := fun _ => True) (okp := fun _ => True) ?hr ?hp (fun _ hk => hk) trivial (Below.refl _ _) (Nat.le_refl _) (by simp) ?_; (case hd => rfl); (case hg => rfl); (case hr => first | (go_simp; done) | (go_simp; rfl)); (case hp => exact (Reps.none _ _)); intro v419 w4 ho5 hb hg_ hnew_; clear hg_ hnew_; (first | rw [← Ny418.out] at ho5 | (simp only [Int.reduceToNat] at ho5; rw [← Ny418.out] at ho5)); have HO420 := Aside0.mk (Kd.R_lower ho5 (bz_ HB)); replace BK417 := ab_ BK417 hb; replace HB := at_ HB hb; clear hb ho5))
 go_loopg [6, 7] k (fun kq v6 v7 w' => ∃ (x6_1 : List Int) (x7_1 : Int), v7 = .int .i64 x7_1 ∧ Aside0 (spec_l03Steps.l0 kq a1 x6_1 x7_1 a0_0 l0_1 = some (r1, r2)) ∧ Aside0 (kq ≤ k) ∧ Aside0 (Kd.R (Kd.int .i64) 3 w' w.heap.size (fun _ => True) v6 x6_1) ∧ Aside0 (w'.heap[gb417]? = some (.cells #[.int .i64 a0_0, (.slice A0_1 l0_1.length c0_1)] 30 (0, 0))) ∧ Aside0 (Below w.heap.size w w'))
 case atStart => exact ⟨(y418), (0), er_, H', ⟨Nat.le_refl _⟩, ⟨hd_ HO420⟩, ⟨bx_ BK417⟩, ⟨bw115_⟩⟩
 clear H'
 obtain ⟨x6_1, x7_1, rfl, HA, HK1, HO_6, BK417, HB⟩ := hrel
 cases gk with
 | zero => exact absurd HA.out (by simp [spec_l03Steps.l0])
 | succ k1 =>
  have H := HA.out
  clear HA
  simp only [spec_l03Steps.l0] at H
  by_cases c6 : x7_1 < a0_0
  ·rw [if_pos c6] at H
   have c6b0 : decide (x7_1 < a0_0) = true := decide_eq_true c6
   clear c6
   obtain ⟨t421, A7, H⟩ := ob_ H
   obtain ⟨c8b0, H⟩ := iq_ H
   obtain ⟨c9b0, H⟩ := iq_ H
   by_cases c10 : x6_1.length < 17592186044416
   rotate_left
   ·rw [if_neg c10] at H
    exact absurd H (by simp)
   rw [if_pos c10] at H
   have LMc10 := Aside0.mk c10
   clear c10
   obtain ⟨y425, hy425⟩ : ∃ y_ : List Int, y_ = (x6_1 ++ [rd t421 a1]) := ⟨_, rfl⟩
   replace H : (spec_l03Steps.l0 k1 a1 y425 (wrap64 (x7_1 + 1)) a0_0 l0_1) = some (r1, r2) := by first | (rw [hy425]; with_reducible exact H) | (have H2_ := (Option.bind_some _ _).symm.trans H; rw [hy425]; with_reducible exact H2_) | (have H2_ := (Option.bind_some _ _).symm.trans H; with_reducible exact H2_) | with_reducible exact H | (rw [hy425]; exact H) | exact H
   have Ny425 := Aside0.mk hy425
   clear hy425
   have H' := Aside0.mk H
   clear H
   have hcz11_0 := cz_ BK417 0 (.int .i64 a0_0)
   have hcz11_1 := cz_ BK417 1 (.slice A0_1 l0_1.length c0_1)
   have hfz11_0 := fz_ BK417 0
   have hfz11_1 := fz_ BK417 1
   go_wp2_with (first | ((with_reducible refine gate_callee (f := 33) rfl ?_); refine gl_ (some 26) Try.func33 #[.agg #[.int .i64 a0_0, .slice A0_1 l0_1.length c0_1], .int .i64 x7_1] ?_; (with_reducible refine (spec_Distances.calls k1 a0_0 _ _ l0_1 x7_1 t421 _ ?side1 ?side2 A7.out).mono ?_); (case side1 => exact cb_ HR0_1 HB); (case side2 => exact HC0_1.out); rintro e w12 ⟨v422, rfl, ho0, hb⟩; refine ⟨_, rfl, ?_⟩; have HO423 := Aside0.mk (Kd.R_lower (Kd.R_new' ho0 (Kd.R_lt (hd_ HO_6))) (bz_ HB)); replace HO_6 := Aside0.mk (Kd.R_elder' (hd_ HO_6) (Kd.R_base ho0) hb); replace BK417 := ab_ BK417 hb; replace HB := at_ HB hb; clear hb ho0; obtain ⟨Ao13, co13, eo13⟩ := Kd.R_slice HO423.out; subst eo13; have p424 : 0 ≤ (a1 : Int) := oa_; have q424 : a1 < (t421.length : Int) := oa_; obtain ⟨ad424, e424, hx424_0⟩ := Kd.at_int (Kd.R_reads' HO423.out).2.2 a1 p424 q424; cases e424; obtain ⟨p424, q424⟩ := et_ p424 q424) | ((with_reducible refine gate_builtin (b := .append) (xs := #[.tmp 23, .tmp 30]) rfl ?_); at_builtin; refine Kd.R_append (Kd.int .i64) (w0 := w) w.heap.size rfl (.tmp 23) (.tmp 30) 26 3 (.int .i64 0) 8 rfl Try.underlying26 info3 rfl (by decide) (by omega) u6 x6_1 (rd t421 a1) [.int .i64 (rd t421 a1)] (fun k_ => some k_ ≠ (.slice (some ad424) t421.length co13 : Value).ownBlock) (fun _ => False) rfl rfl ?aP (fun _ hk => hk.elim) ?aF ?aO ?aB ?aS ?aL ?_; (case aP => exact rfl); (case aB => exact (bw115_)); (case aF => exact (fun k_ hk => Kd.fresh' (Kd.R_lt (hd_ HO423)) k_ hk)); (case aO => exact (hq_ (Kd.R_mono HO_6.out (fun _ hk => hk.2)))); (case aS => exact (bz_ HB)); (case aL => have := LMc10.out; omega); intro v426 w14 ho hb hg hat; rw [← Ny425.out] at ho; have HO427 := Aside0.mk ho; replace BK417 := Aside0.mk (blk_grown (g := gb417) (o := .cells #[.int .i64 a0_0, .slice A0_1 l0_1.length c0_1] 30 (0, 0)) (bx_ BK417) hg (Kd.R_ne HO_6.out BK417.out (by decide))); replace HO423 := Aside0.mk (Kd.R_after (ok := (fun _ => True)) (hd_ HO423) hg hat); replace HB := Aside0.mk (hb); clear HO_6 ho hb hg hat))
   go_roundg k1
   case measure => have := HK1.out; omega
   case rel => exact ⟨(y425), (wrap64 (x7_1 + 1)), er_, H', ⟨by have := HK1.out; omega⟩, ⟨hq_ (Kd.R_mono HO427.out (fun _ hk => trivial))⟩, ⟨bx_ BK417⟩, ⟨bw115_⟩⟩
  rw [if_neg c6] at H
  have c6b0 : decide (x7_1 < a0_0) = false := decide_eq_false c6
  clear c6
  by_cases c15 : 0 ≤ a0_0
  rotate_left
  ·rw [if_neg c15] at H
   exact absurd H (by simp)
  rw [if_pos c15] at H
  have c15b0 := eq_true c15
  have c15b1 : decide (0 ≤ a0_0) = true := decide_eq_true c15
  clear c15
  by_cases c16 : (a0_0 : Int).toNat ≤ 35184372088832
  rotate_left
  ·rw [if_neg c16] at H
   exact absurd H (by simp)
  rw [if_pos c16] at H
  have c16b0 := eq_true c16
  have c16b1 : decide ((a0_0 : Int).toNat ≤ 35184372088832) = true := decide_eq_true c16
  clear c16
  obtain ⟨y428, hy428⟩ : ∃ y_ : List Int, y_ = (List.replicate (a0_0 : Int).toNat 0) := ⟨_, rfl⟩
  replace H : (if (a0_0 : Int).toNat ≤ 281474976710656 then (spec_l03Steps.l1 k1 a1 x6_1 y428 (List.replicate (a0_0 : Int).toNat 0) (List.replicate (a0_0 : Int).toNat false) 0 a0_0 l0_1) else (none)) = some (r1, r2) := by first | (rw [hy428]; with_reducible exact H) | (have H2_ := (Option.bind_some _ _).symm.trans H; rw [hy428]; with_reducible exact H2_) | (have H2_ := (Option.bind_some _ _).symm.trans H; with_reducible exact H2_) | with_reducible exact H | (rw [hy428]; exact H) | exact H
  have Ny428 := Aside0.mk hy428
  clear hy428
  obtain ⟨y431, hy431⟩ : ∃ y_ : List Int, y_ = (List.replicate (a0_0 : Int).toNat 0) := ⟨_, rfl⟩
  replace H : (if (a0_0 : Int).toNat ≤ 281474976710656 then (spec_l03Steps.l1 k1 a1 x6_1 y428 y431 (List.replicate (a0_0 : Int).toNat false) 0 a0_0 l0_1) else (none)) = some (r1, r2) := by first | (rw [hy431]; with_reducible exact H) | (have H2_ := (Option.bind_some _ _).symm.trans H; rw [hy431]; with_reducible exact H2_) | (have H2_ := (Option.bind_some _ _).symm.trans H; with_reducible exact H2_) | with_reducible exact H | (rw [hy431]; exact H) | exact H
  have Ny431 := Aside0.mk hy431
  clear hy431
  by_cases c17 : (a0_0 : Int).toNat ≤ 281474976710656
  rotate_left
  ·rw [if_neg c17] at H
   exact absurd H (by simp)
  rw [if_pos c17] at H
  have c17b0 := eq_true c17
  have c17b1 : decide ((a0_0 : Int).toNat ≤ 281474976710656) = true := decide_eq_true c17
  clear c17
  obtain ⟨y434, hy434⟩ : ∃ y_ : List Bool, y_ = (List.replicate (a0_0 : Int).toNat false) := ⟨_, rfl⟩
  replace H : (spec_l03Steps.l1 k1 a1 x6_1 y428 y431 y434 0 a0_0 l0_1) = some (r1, r2) := by first | (rw [hy434]; with_reducible exact H) | (have H2_ := (Option.bind_some _ _).symm.trans H; rw [hy434]; with_reducible exact H2_) | (have H2_ := (Option.bind_some _ _).symm.trans H; with_reducible exact H2_) | with_reducible exact H | (rw [hy434]; exact H) | exact H
  have Ny434 := Aside0.mk hy434
  clear hy434
  have H' := Aside0.mk H
  clear H
  have hcz18_0 := cz_ BK417 0 (.int .i64 a0_0)
  have hcz18_1 := cz_ BK417 1 (.slice A0_1 l0_1.length c0_1)
  have hfz18_0 := fz_ BK417 0
  have hfz18_1 := fz_ BK417 1
  go_wp2_with (first | ((with_reducible refine gate_dst (N := 34) rfl ?_); refine Kd.R_make (Kd.int .i64) _ 3 rfl (N := 34) rfl 26 _ _ rfl a0_0 rfl rfl Try.underlying26 (.int .i64 0) 8 info3 rfl (by decide) (by omega) 0 (ok := fun _ => True) (okp := fun _ => True) rfl (fun _ hk => hk) trivial oa_ (Nat.le_trans (Nat.mul_le_mul_right _ (oa_ : a0_0.toNat ≤ 35184372088832)) (by omega)) (Below.refl _ _) (Nat.le_refl _) ?_; intro v429 w19 ho20 hb hg_ hnew_; clear hg_ hnew_; (first | rw [← Ny428.out] at ho20 | (simp only [Int.reduceToNat] at ho20; rw [← Ny428.out] at ho20)); have HO430 := Aside0.mk (Kd.R_lower (Kd.R_new' ho20 (Kd.R_lt (hd_ HO_6))) (bz_ HB)); replace HO_6 := Aside0.mk (Kd.R_elder' (hd_ HO_6) (Kd.R_base ho20) hb); replace BK417 := ab_ BK417 hb; replace HB := at_ HB hb; clear hb ho20; have hcz21_0 := cz_ BK417 0 (.int .i64 a0_0); have hcz21_1 := cz_ BK417 1 (.slice A0_1 l0_1.length c0_1); have hfz21_0 := fz_ BK417 0; have hfz21_1 := fz_ BK417 1) | ((with_reducible refine gate_dst (N := 37) rfl ?_); refine Kd.R_make (Kd.int .i64) _ 3 rfl (N := 37) rfl 26 _ _ rfl a0_0 rfl rfl Try.underlying26 (.int .i64 0) 8 info3 rfl (by decide) (by omega) 0 (ok := fun _ => True) (okp := fun _ => True) rfl (fun _ hk => hk) trivial oa_ (Nat.le_trans (Nat.mul_le_mul_right _ (oa_ : a0_0.toNat ≤ 35184372088832)) (by omega)) (Below.refl _ _) (Nat.le_refl _) ?_; intro v432 w22 ho23 hb hg_ hnew_; clear hg_ hnew_; (first | rw [← Ny431.out] at ho23 | (simp only [Int.reduceToNat] at ho23; rw [← Ny431.out] at ho23)); have HO433 := Aside0.mk (Kd.R_lower (Kd.R_new' (Kd.R_new' ho23 (Kd.R_lt (hd_ HO_6))) (Kd.R_lt (hd_ HO430))) (bz_ HB)); replace HO_6 := Aside0.mk (Kd.R_elder' (hd_ HO_6) (Kd.R_base ho23) hb); replace HO430 := Aside0.mk (Kd.R_elder' (hd_ HO430) (Kd.R_base ho23) hb); replace BK417 := ab_ BK417 hb; replace HB := at_ HB hb; clear hb ho23; have hcz24_0 := cz_ BK417 0 (.int .i64 a0_0); have hcz24_1 := cz_ BK417 1 (.slice A0_1 l0_1.length c0_1); have hfz24_0 := fz_ BK417 0; have hfz24_1 := fz_ BK417 1) | ((with_reducible refine gate_dst (N := 40) rfl ?_); refine Kd.R_make Kd.bool _ 4 rfl (N := 40) rfl 69 _ _ rfl a0_0 rfl rfl Try.underlying69 (.bool false) 1 info4 rfl (by decide) (by omega) false (ok := fun _ => True) (okp := fun _ => True) rfl (fun _ hk => hk) trivial oa_ (Nat.le_trans (Nat.mul_le_mul_right _ (oa_ : a0_0.toNat ≤ 281474976710656)) (by omega)) (Below.refl _ _) (Nat.le_refl _) ?_; intro v435 w25 ho26 hb hg_ hnew_; clear hg_ hnew_; (first | rw [← Ny434.out] at ho26 | (simp only [Int.reduceToNat] at ho26; rw [← Ny434.out] at ho26)); have HO436 := Aside0.mk (Kd.R_lower ho26 (bz_ HB)); replace HO_6 := rb_ HO_6 hb; replace HO430 := rb_ HO430 hb; replace HO433 := rb_ HO433 hb; replace BK417 := ab_ BK417 hb; replace HB := at_ HB hb; clear hb ho26))
  go_loopg [11] k1 (fun kq v11 w' => ∃ (x8_2 : List Int) (x9_2 : List Int) (x10_2 : List Bool) (x11_2 : Int), v11 = .int .i64 x11_2 ∧ Aside0 (spec_l03Steps.l1 kq a1 x6_1 x8_2 x9_2 x10_2 x11_2 a0_0 l0_1 = some (r1, r2)) ∧ Aside0 (kq ≤ k1) ∧ Aside0 (Kd.R (Kd.int .i64) 3 w' w.heap.size (fun k_ => some k_ ≠ (v429 : Value).ownBlock ∧ some k_ ≠ (v432 : Value).ownBlock) u6 x6_1) ∧ Aside0 (Kd.R (Kd.int .i64) 3 w' w.heap.size (fun k_ => some k_ ≠ (u6 : Value).ownBlock ∧ some k_ ≠ (v432 : Value).ownBlock) v429 x8_2) ∧ Aside0 (Kd.R (Kd.int .i64) 3 w' w.heap.size (fun k_ => some k_ ≠ (u6 : Value).ownBlock ∧ some k_ ≠ (v429 : Value).ownBlock) v432 x9_2) ∧ Aside0 (Kd.R Kd.bool 4 w' w.heap.size (fun _ => True) v435 x10_2) ∧ Aside0 (w'.heap[gb417]? = some (.cells #[.int .i64 a0_0, (.slice A0_1 l0_1.length c0_1)] 30 (0, 0))) ∧ Aside0 (Below w.heap.size w w'))
  case atStart => exact ⟨(y428), (y431), (y434), (0), er_, H', ⟨Nat.le_refl _⟩, ⟨hq_ (Kd.R_mono HO_6.out (fun _ hk => by first | exact ⟨hk.1.2, hk.2⟩ | grind))⟩, ⟨hq_ (Kd.R_mono HO430.out (fun _ hk => by first | exact ⟨hk.1.2, hk.2⟩ | grind))⟩, ⟨hq_ (Kd.R_mono HO433.out (fun _ hk => by first | exact ⟨hk.1.2, hk.2⟩ | grind))⟩, ⟨hd_ HO436⟩, ⟨bx_ BK417⟩, ⟨bw115_⟩⟩
  clear H' c6b0 c15b0 c15b1 c16b0 c16b1 c17b0 c17b1 hcz18_0 hcz18_1 hcz21_0 hcz21_1 hcz24_0 hcz24_1 hfz18_0 hfz18_1 hfz21_0 hfz21_1 hfz24_0 hfz24_1
  obtain ⟨x8_2, x9_2, x10_2, x11_2, rfl, HA, HK2, HO_6, HO_8, HO_9, HO_10, BK417, HB⟩ := hrel
  cases gk with
  | zero => exact absurd HA.out (by simp [spec_l03Steps.l1])
  | succ k2 =>
   have H := HA.out
   clear HA
   simp only [spec_l03Steps.l1] at H
   by_cases c27 : x11_2 < a0_0
   rotate_left
   ·rw [if_neg c27] at H
    have c27b0 : decide (x11_2 < a0_0) = false := decide_eq_false c27
    clear c27
    simp only [Option.some.injEq, Prod.mk.injEq] at H
    obtain ⟨rfl, rfl⟩ := H
    have hcz133_0 := cz_ BK417 0 (.int .i64 a0_0)
    have hcz133_1 := cz_ BK417 1 (.slice A0_1 l0_1.length c0_1)
    have hfz133_0 := fz_ BK417 0
    have hfz133_1 := fz_ BK417 1
    go_wp2
    go_ret2
    exact ⟨_, _, ew_, by (with_reducible repeat (first | apply Kd.R_alloc | apply Kd.R_drewN | apply Kd.R_drew)); exact Kd.R_mono HO_8.out (fun _ hk => hk.2), by (with_reducible repeat (first | apply Kd.R_alloc | apply Kd.R_drewN | apply Kd.R_drew)); exact Kd.R_mono HO_9.out (fun _ hk => hk.2), bw115_⟩
   rw [if_pos c27] at H
   have c27b0 : decide (x11_2 < a0_0) = true := decide_eq_true c27
   clear c27
   have H' := Aside0.mk H
   clear H
   have hcz28_0 := cz_ BK417 0 (.int .i64 a0_0)
   have hcz28_1 := cz_ BK417 1 (.slice A0_1 l0_1.length c0_1)
   have hfz28_0 := fz_ BK417 0
   have hfz28_1 := fz_ BK417 1
   go_wp2
   go_loopg [12, 13] k2 (fun kq v12 v13 w' => ∃ (x12_3 : Int) (x13_3 : Int), v12 = .int .i64 x12_3 ∧ v13 = .int .i64 x13_3 ∧ Aside0 (spec_l03Steps.l2 kq a1 x6_1 x8_2 x9_2 x10_2 x11_2 x12_3 x13_3 a0_0 l0_1 = some (r1, r2)) ∧ Aside0 (kq ≤ k2) ∧ Aside0 (Kd.R (Kd.int .i64) 3 w' w.heap.size (fun k_ => some k_ ≠ (v429 : Value).ownBlock ∧ some k_ ≠ (v432 : Value).ownBlock) u6 x6_1) ∧ Aside0 (Kd.R (Kd.int .i64) 3 w' w.heap.size (fun k_ => some k_ ≠ (u6 : Value).ownBlock ∧ some k_ ≠ (v432 : Value).ownBlock) v429 x8_2) ∧ Aside0 (Kd.R (Kd.int .i64) 3 w' w.heap.size (fun k_ => some k_ ≠ (u6 : Value).ownBlock ∧ some k_ ≠ (v429 : Value).ownBlock) v432 x9_2) ∧ Aside0 (Kd.R Kd.bool 4 w' w.heap.size (fun _ => True) v435 x10_2) ∧ Aside0 (w'.heap[gb417]? = some (.cells #[.int .i64 a0_0, (.slice A0_1 l0_1.length c0_1)] 30 (0, 0))) ∧ Aside0 (Below w.heap.size w w'))
   case atStart => exact ⟨((-1)), (0), er_, er_, H', ⟨Nat.le_refl _⟩, ⟨hd_ HO_6⟩, ⟨hd_ HO_8⟩, ⟨hd_ HO_9⟩, ⟨hd_ HO_10⟩, ⟨bx_ BK417⟩, ⟨bw115_⟩⟩
   clear H' c27b0 hcz28_0 hcz28_1 hfz28_0 hfz28_1
   obtain ⟨x12_3, x13_3, rfl, rfl, HA, HK3, HO_6, HO_8, HO_9, HO_10, BK417, HB⟩ := hrel
   cases gk with
   | zero => exact absurd HA.out (by simp [spec_l03Steps.l2])
   | succ k3 =>
    have H := HA.out
    clear HA
    simp only [spec_l03Steps.l2] at H
    by_cases c29 : x13_3 < a0_0
    ·rw [if_pos c29] at H
     have c29b0 : decide (x13_3 < a0_0) = true := decide_eq_true c29
     clear c29
     obtain ⟨c30b0, H⟩ := iq_ H
     obtain ⟨c31b0, H⟩ := iq_ H
     obtain ⟨bq32, hbq32⟩ : ∃ b_ : Bool, b_ = (rdOf false x10_2 x13_3) := ⟨_, rfl⟩
     replace H : (if bq32 = true then (spec_l03Steps.l2 k3 a1 x6_1 x8_2 x9_2 x10_2 x11_2 x12_3 (wrap64 (x13_3 + 1)) a0_0 l0_1) else (if x13_3 < (x6_1.length : Int) then (if (rd x6_1 x13_3) < 1000000 then (if x12_3 < 0 then (spec_l03Steps.l2 k3 a1 x6_1 x8_2 x9_2 x10_2 x11_2 x13_3 (wrap64 (x13_3 + 1)) a0_0 l0_1) else (if 0 ≤ x12_3 then (if x12_3 < (x6_1.length : Int) then (if (rd x6_1 x13_3) < (rd x6_1 x12_3) then (spec_l03Steps.l2 k3 a1 x6_1 x8_2 x9_2 x10_2 x11_2 x13_3 (wrap64 (x13_3 + 1)) a0_0 l0_1) else (spec_l03Steps.l2 k3 a1 x6_1 x8_2 x9_2 x10_2 x11_2 x12_3 (wrap64 (x13_3 + 1)) a0_0 l0_1)) else (none)) else (none))) else (spec_l03Steps.l2 k3 a1 x6_1 x8_2 x9_2 x10_2 x11_2 x12_3 (wrap64 (x13_3 + 1)) a0_0 l0_1)) else (none))) = some (r1, r2) := by rw [← hbq32] at H; exact H
     have Nbq32 := Aside0.mk hbq32
     clear hbq32
     by_cases c33 : bq32 = true
     ·subst c33
      rw [if_pos rfl] at H
      have H' := Aside0.mk H
      clear H
      have hcz34_0 := cz_ BK417 0 (.int .i64 a0_0)
      have hcz34_1 := cz_ BK417 1 (.slice A0_1 l0_1.length c0_1)
      have hfz34_0 := fz_ BK417 0
      have hfz34_1 := fz_ BK417 1
      go_wp2
      replace HO_6 := rw5_ HO_6
      replace HO_8 := rw5_ HO_8
      replace HO_9 := rw5_ HO_9
      replace HO_10 := rw5_ HO_10
      replace BK417 := ad_ BK417
      replace HB := Aside0.mk (below_drew1 HB.out)
      obtain ⟨Ao36, co36, eo36⟩ := Kd.R_slice HO_10.out
      subst eo36
      have p437 : 0 ≤ (x13_3 : Int) := oa_
      have q437 : x13_3 < (x10_2.length : Int) := oa_
      obtain ⟨ad437, e437, hx437_0⟩ := Kd.at_bool (Kd.R_reads' HO_10.out).2.2 x13_3 p437 q437
      (try rw [← Nbq32.out] at hx437_0)
      cases e437
      obtain ⟨p437, q437⟩ := et_ p437 q437
      refine start_ (n := 27) (S := fun w' => w'.cell? (ad437.add (x13_3).toNat) = some (.bool true)) (ds := []) ba14_0 (by kernel_rfl) rfl rfl (hx437_0) (fun hHeld => ?_); refine with_tabW spec_l03Steps.tab16 spec_l03Steps.bits16 (fun HT_ HW_ => ?_)
      generalize wr.drew = w35 at HO_6 HO_8 HO_9 HO_10 BK417 HB hx437_0 hHeld ⊢
      refine pz_ 0 53 ba14_1 HT_ ?_
      refine pz_ 1 54 ba14_2 HT_ ?_
      refine pz_ 2 55 ba14_3 HT_ ?_
      refine take_ (i := 3) (N := some 56) (v := ?_) (a' := ?_) ba14_4 rfl rfl (take_ofW HT_.out HW_.out (by kernel_rfl)) (fun _ _ _ h => h) (Or.inl ⟨by rfl, ?_⟩) hHeld ?_ ?_
      rotate_left; · intro w' s0; go_simp; with_reducible rfl
      rotate_left; · simp only [Act.put, List.setIfInBounds_toArray, List.set_cons_zero, List.set_cons_succ, i64_w, i32_w]; rfl
      refine pz_ 4 57 ba14_5 HT_ ?_
      refine pz_ 5 58 ba14_6 HT_ ?_
      refine pu_ 6 59 ba14_7 HT_ ?_
      refine pu_ 7 60 ba14_8 HT_ ?_
      refine pu_ 8 61 ba14_9 HT_ ?_
      refine pu_ 9 62 ba14_10 HT_ ?_
      refine pu_ 10 63 ba14_11 HT_ ?_
      refine pz_ 11 64 ba14_12 HT_ ?_
      refine pz_ 12 65 ba14_13 HT_ ?_
      refine pu_ 13 66 ba14_14 HT_ ?_
      refine pu_ 14 67 ba14_15 HT_ ?_
      refine pu_ 15 68 ba14_16 HT_ ?_
      refine pu_ 16 69 ba14_17 HT_ ?_
      refine pu_ 17 70 ba14_18 HT_ ?_
      refine pu_ 18 71 ba14_19 HT_ ?_
      refine pu_ 19 72 ba14_20 HT_ ?_
      refine pu_ 20 73 ba14_21 HT_ ?_
      refine pu_ 21 74 ba14_22 HT_ ?_
      refine pu_ 22 75 ba14_23 HT_ ?_
      refine pu_ 23 76 ba14_24 HT_ ?_
      refine pu_ 24 77 ba14_25 HT_ ?_
      refine pu_ 25 78 ba14_26 HT_ ?_
      refine pz_ 26 79 ba14_27 HT_ ?_
      refine done_ (done_of HT_.out (by kernel_rfl)) ?_
      go_wp2
      go_roundg k3
      case measure => have := HK1.out; have := HK2.out; have := HK3.out; omega
      case rel => exact ⟨(x12_3), (wrap64 (x13_3 + 1)), er_, er_, H', ⟨by have := HK1.out; have := HK2.out; have := HK3.out; omega⟩, ⟨hd_ HO_6⟩, ⟨hd_ HO_8⟩, ⟨hd_ HO_9⟩, ⟨hd_ HO_10⟩, ⟨bx_ BK417⟩, ⟨bw115_⟩⟩
     replace c33 := Bool.eq_false_iff.mpr c33
     subst c33
     rw [if_neg (show ¬ (false = true) by decide)] at H
     obtain ⟨c37b0, H⟩ := iq_ H
     by_cases c38 : (rd x6_1 x13_3) < 1000000
     rotate_left
     ·rw [if_neg c38] at H
      have c38b0 : decide ((rd x6_1 x13_3) < 1000000) = false := decide_eq_false c38
      clear c38
      have H' := Aside0.mk H
      clear H
      have hcz55_0 := cz_ BK417 0 (.int .i64 a0_0)
      have hcz55_1 := cz_ BK417 1 (.slice A0_1 l0_1.length c0_1)
      have hfz55_0 := fz_ BK417 0
      have hfz55_1 := fz_ BK417 1
      go_wp2
      replace HO_6 := rw5_ HO_6
      replace HO_8 := rw5_ HO_8
      replace HO_9 := rw5_ HO_9
      replace HO_10 := rw5_ HO_10
      replace BK417 := ad_ BK417
      replace HB := Aside0.mk (below_drew1 HB.out)
      obtain ⟨Ao57, co57, eo57⟩ := Kd.R_slice HO_10.out
      subst eo57
      have p437 : 0 ≤ (x13_3 : Int) := oa_
      have q437 : x13_3 < (x10_2.length : Int) := oa_
      obtain ⟨ad437, e437, hx437_0⟩ := Kd.at_bool (Kd.R_reads' HO_10.out).2.2 x13_3 p437 q437
      (try rw [← Nbq32.out] at hx437_0)
      cases e437
      obtain ⟨p437, q437⟩ := et_ p437 q437
      obtain ⟨Ao58, co58, eo58⟩ := Kd.R_slice HO_6.out
      subst eo58
      have p438 : 0 ≤ (x13_3 : Int) := oa_
      have q438 : x13_3 < (x6_1.length : Int) := oa_
      obtain ⟨ad438, e438, hx438_0⟩ := Kd.at_int (Kd.R_reads' HO_6.out).2.2 x13_3 p438 q438
      cases e438
      obtain ⟨p438, q438⟩ := et_ p438 q438
      refine start_ (n := 27) (S := fun w' => w'.cell? (ad437.add (x13_3).toNat) = some (.bool false) ∧ w'.cell? (ad438.add (x13_3).toNat) = some (.int .i64 (rd x6_1 x13_3))) (ds := []) ba14_0 (by kernel_rfl) rfl rfl ⟨hx437_0, hx438_0⟩ (fun hHeld => ?_); refine with_tabW spec_l03Steps.tab16 spec_l03Steps.bits16 (fun HT_ HW_ => ?_)
      generalize wr.drew = w56 at HO_6 HO_8 HO_9 HO_10 BK417 HB hx437_0 hx438_0 hHeld ⊢
      refine pz_ 0 53 ba14_1 HT_ ?_
      refine pz_ 1 54 ba14_2 HT_ ?_
      refine pz_ 2 55 ba14_3 HT_ ?_
      refine pt_ 3 56 ba14_4 HT_ HW_ hHeld ?_
      refine pz_ 4 57 ba14_5 HT_ ?_
      refine pz_ 5 58 ba14_6 HT_ ?_
      refine pz_ 6 59 ba14_7 HT_ ?_
      refine pz_ 7 60 ba14_8 HT_ ?_
      refine pz_ 8 61 ba14_9 HT_ ?_
      refine pt_ 9 62 ba14_10 HT_ HW_ hHeld ?_
      refine pz_ 10 63 ba14_11 HT_ ?_
      refine pz_ 11 64 ba14_12 HT_ ?_
      refine pz_ 12 65 ba14_13 HT_ ?_
      refine pu_ 13 66 ba14_14 HT_ ?_
      refine pu_ 14 67 ba14_15 HT_ ?_
      refine pu_ 15 68 ba14_16 HT_ ?_
      refine pu_ 16 69 ba14_17 HT_ ?_
      refine pu_ 17 70 ba14_18 HT_ ?_
      refine pu_ 18 71 ba14_19 HT_ ?_
      refine pu_ 19 72 ba14_20 HT_ ?_
      refine pu_ 20 73 ba14_21 HT_ ?_
      refine pu_ 21 74 ba14_22 HT_ ?_
      refine pu_ 22 75 ba14_23 HT_ ?_
      refine pu_ 23 76 ba14_24 HT_ ?_
      refine pu_ 24 77 ba14_25 HT_ ?_
      refine pu_ 25 78 ba14_26 HT_ ?_
      refine pz_ 26 79 ba14_27 HT_ ?_
      refine done_ (done_of HT_.out (by kernel_rfl)) ?_
      go_wp2
      go_roundg k3
      case measure => have := HK1.out; have := HK2.out; have := HK3.out; omega
      case rel => exact ⟨(x12_3), (wrap64 (x13_3 + 1)), er_, er_, H', ⟨by have := HK1.out; have := HK2.out; have := HK3.out; omega⟩, ⟨hd_ HO_6⟩, ⟨hd_ HO_8⟩, ⟨hd_ HO_9⟩, ⟨hd_ HO_10⟩, ⟨bx_ BK417⟩, ⟨bw115_⟩⟩
     rw [if_pos c38] at H
     have c38b0 : decide ((rd x6_1 x13_3) < 1000000) = true := decide_eq_true c38
     clear c38
     by_cases c39 : x12_3 < 0
     ·rw [if_pos c39] at H
      have c39b0 : decide (x12_3 < 0) = true := decide_eq_true c39
      clear c39
      have H' := Aside0.mk H
      clear H
      have hcz40_0 := cz_ BK417 0 (.int .i64 a0_0)
      have hcz40_1 := cz_ BK417 1 (.slice A0_1 l0_1.length c0_1)
      have hfz40_0 := fz_ BK417 0
      have hfz40_1 := fz_ BK417 1
      go_wp2
      replace HO_6 := rw5_ HO_6
      replace HO_8 := rw5_ HO_8
      replace HO_9 := rw5_ HO_9
      replace HO_10 := rw5_ HO_10
      replace BK417 := ad_ BK417
      replace HB := Aside0.mk (below_drew1 HB.out)
      obtain ⟨Ao42, co42, eo42⟩ := Kd.R_slice HO_10.out
      subst eo42
      have p437 : 0 ≤ (x13_3 : Int) := oa_
      have q437 : x13_3 < (x10_2.length : Int) := oa_
      obtain ⟨ad437, e437, hx437_0⟩ := Kd.at_bool (Kd.R_reads' HO_10.out).2.2 x13_3 p437 q437
      (try rw [← Nbq32.out] at hx437_0)
      cases e437
      obtain ⟨p437, q437⟩ := et_ p437 q437
      obtain ⟨Ao43, co43, eo43⟩ := Kd.R_slice HO_6.out
      subst eo43
      have p438 : 0 ≤ (x13_3 : Int) := oa_
      have q438 : x13_3 < (x6_1.length : Int) := oa_
      obtain ⟨ad438, e438, hx438_0⟩ := Kd.at_int (Kd.R_reads' HO_6.out).2.2 x13_3 p438 q438
      cases e438
      obtain ⟨p438, q438⟩ := et_ p438 q438
      refine start_ (n := 27) (S := fun w' => w'.cell? (ad437.add (x13_3).toNat) = some (.bool false) ∧ w'.cell? (ad438.add (x13_3).toNat) = some (.int .i64 (rd x6_1 x13_3))) (ds := []) ba14_0 (by kernel_rfl) rfl rfl ⟨hx437_0, hx438_0⟩ (fun hHeld => ?_); refine with_tabW spec_l03Steps.tab16 spec_l03Steps.bits16 (fun HT_ HW_ => ?_)
      generalize wr.drew = w41 at HO_6 HO_8 HO_9 HO_10 BK417 HB hx437_0 hx438_0 hHeld ⊢
      refine pz_ 0 53 ba14_1 HT_ ?_
      refine pz_ 1 54 ba14_2 HT_ ?_
      refine pz_ 2 55 ba14_3 HT_ ?_
      refine pt_ 3 56 ba14_4 HT_ HW_ hHeld ?_
      refine pz_ 4 57 ba14_5 HT_ ?_
      refine pz_ 5 58 ba14_6 HT_ ?_
      refine pz_ 6 59 ba14_7 HT_ ?_
      refine pz_ 7 60 ba14_8 HT_ ?_
      refine pz_ 8 61 ba14_9 HT_ ?_
      refine pt_ 9 62 ba14_10 HT_ HW_ hHeld ?_
      refine pz_ 10 63 ba14_11 HT_ ?_
      refine pz_ 11 64 ba14_12 HT_ ?_
      refine pz_ 12 65 ba14_13 HT_ ?_
      refine pz_ 13 66 ba14_14 HT_ ?_
      refine pz_ 14 67 ba14_15 HT_ ?_
      refine pz_ 15 68 ba14_16 HT_ ?_
      refine pu_ 16 69 ba14_17 HT_ ?_
      refine pu_ 17 70 ba14_18 HT_ ?_
      refine pu_ 18 71 ba14_19 HT_ ?_
      refine pu_ 19 72 ba14_20 HT_ ?_
      refine pu_ 20 73 ba14_21 HT_ ?_
      refine pu_ 21 74 ba14_22 HT_ ?_
      refine pu_ 22 75 ba14_23 HT_ ?_
      refine pu_ 23 76 ba14_24 HT_ ?_
      refine pu_ 24 77 ba14_25 HT_ ?_
      refine pz_ 25 78 ba14_26 HT_ ?_
      refine pz_ 26 79 ba14_27 HT_ ?_
      refine done_ (done_of HT_.out (by kernel_rfl)) ?_
      go_wp2
      go_roundg k3
      case measure => have := HK1.out; have := HK2.out; have := HK3.out; omega
      case rel => exact ⟨(x13_3), (wrap64 (x13_3 + 1)), er_, er_, H', ⟨by have := HK1.out; have := HK2.out; have := HK3.out; omega⟩, ⟨hd_ HO_6⟩, ⟨hd_ HO_8⟩, ⟨hd_ HO_9⟩, ⟨hd_ HO_10⟩, ⟨bx_ BK417⟩, ⟨bw115_⟩⟩
     rw [if_neg c39] at H
     have c39b0 : decide (x12_3 < 0) = false := decide_eq_false c39
     clear c39
     obtain ⟨c44b0, H⟩ := iq_ H
     obtain ⟨c45b0, H⟩ := iq_ H
     have Hh_ := Aside0.mk H
     clear H
     have hcz47_0 := cz_ BK417 0 (.int .i64 a0_0)
     have hcz47_1 := cz_ BK417 1 (.slice A0_1 l0_1.length c0_1)
     have hfz47_0 := fz_ BK417 0
     have hfz47_1 := fz_ BK417 1
     go_wp2
     replace HO_6 := rw5_ HO_6
     replace HO_8 := rw5_ HO_8
     replace HO_9 := rw5_ HO_9
     replace HO_10 := rw5_ HO_10
     replace BK417 := ad_ BK417
     replace HB := Aside0.mk (below_drew1 HB.out)
     obtain ⟨Ao49, co49, eo49⟩ := Kd.R_slice HO_10.out
     subst eo49
     have p437 : 0 ≤ (x13_3 : Int) := oa_
     have q437 : x13_3 < (x10_2.length : Int) := oa_
     obtain ⟨ad437, e437, hx437_0⟩ := Kd.at_bool (Kd.R_reads' HO_10.out).2.2 x13_3 p437 q437
     (try rw [← Nbq32.out] at hx437_0)
     cases e437
     obtain ⟨p437, q437⟩ := et_ p437 q437
     obtain ⟨Ao50, co50, eo50⟩ := Kd.R_slice HO_6.out
     subst eo50
     have p438 : 0 ≤ (x13_3 : Int) := oa_
     have q438 : x13_3 < (x6_1.length : Int) := oa_
     obtain ⟨ad438, e438, hx438_0⟩ := Kd.at_int (Kd.R_reads' HO_6.out).2.2 x13_3 p438 q438
     cases e438
     obtain ⟨p438, q438⟩ := et_ p438 q438
     have p439 : 0 ≤ (x13_3 : Int) := oa_
     have q439 : x13_3 < (x6_1.length : Int) := oa_
     obtain ⟨ad439, e439, hx439_0⟩ := Kd.at_int (Kd.R_reads' HO_6.out).2.2 x13_3 p439 q439
     obtain rfl : ad438 = ad439 := (by injection e439)
     obtain ⟨p439, q439⟩ := et_ p439 q439
     have p440 : 0 ≤ (x12_3 : Int) := oa_
     have q440 : x12_3 < (x6_1.length : Int) := oa_
     obtain ⟨ad440, e440, hx440_0⟩ := Kd.at_int (Kd.R_reads' HO_6.out).2.2 x12_3 p440 q440
     obtain rfl : ad438 = ad440 := (by injection e440)
     obtain ⟨p440, q440⟩ := et_ p440 q440
     refine start_ (n := 27) (S := fun w' => w'.cell? (ad437.add (x13_3).toNat) = some (.bool false) ∧ w'.cell? (ad438.add (x13_3).toNat) = some (.int .i64 (rd x6_1 x13_3)) ∧ w'.cell? (ad438.add (x13_3).toNat) = some (.int .i64 (rd x6_1 x13_3)) ∧ w'.cell? (ad438.add (x12_3).toNat) = some (.int .i64 (rd x6_1 x12_3))) (ds := []) ba14_0 (by kernel_rfl) rfl rfl ⟨hx437_0, hx438_0, hx439_0, hx440_0⟩ (fun hHeld => ?_); refine with_tabW spec_l03Steps.tab16 spec_l03Steps.bits16 (fun HT_ HW_ => ?_)
     generalize wr.drew = w48 at HO_6 HO_8 HO_9 HO_10 BK417 HB hx437_0 hx438_0 hx439_0 hx440_0 hHeld ⊢
     have H := Hh_.out
     clear Hh_
     by_cases c46 : (rd x6_1 x13_3) < (rd x6_1 x12_3)
     ·rw [if_pos c46] at H
      have c46b0 : decide ((rd x6_1 x13_3) < (rd x6_1 x12_3)) = true := decide_eq_true c46
      clear c46
      have H' := Aside0.mk H
      clear H
      refine pz_ 0 53 ba14_1 HT_ ?_
      refine pz_ 1 54 ba14_2 HT_ ?_
      refine pz_ 2 55 ba14_3 HT_ ?_
      refine pt_ 3 56 ba14_4 HT_ HW_ hHeld ?_
      refine pz_ 4 57 ba14_5 HT_ ?_
      refine pz_ 5 58 ba14_6 HT_ ?_
      refine pz_ 6 59 ba14_7 HT_ ?_
      refine pz_ 7 60 ba14_8 HT_ ?_
      refine pz_ 8 61 ba14_9 HT_ ?_
      refine pt_ 9 62 ba14_10 HT_ HW_ hHeld ?_
      refine pz_ 10 63 ba14_11 HT_ ?_
      refine pz_ 11 64 ba14_12 HT_ ?_
      refine pz_ 12 65 ba14_13 HT_ ?_
      refine pz_ 13 66 ba14_14 HT_ ?_
      refine pz_ 14 67 ba14_15 HT_ ?_
      refine pz_ 15 68 ba14_16 HT_ ?_
      refine pz_ 16 69 ba14_17 HT_ ?_
      refine pz_ 17 70 ba14_18 HT_ ?_
      refine pz_ 18 71 ba14_19 HT_ ?_
      refine pz_ 20 73 ba14_28 HT_ ?_
      refine pz_ 21 74 ba14_29 HT_ ?_
      refine pz_ 22 75 ba14_30 HT_ ?_
      refine pt_ 19 72 ba14_23 HT_ HW_ hHeld ?_
      refine pt_ 23 76 ba14_24 HT_ HW_ hHeld ?_
      refine pz_ 24 77 ba14_25 HT_ ?_
      refine pz_ 25 78 ba14_26 HT_ ?_
      refine pz_ 26 79 ba14_27 HT_ ?_
      refine done_ (done_of HT_.out (by kernel_rfl)) ?_
      go_wp2
      go_roundg k3
      case measure => have := HK1.out; have := HK2.out; have := HK3.out; omega
      case rel => exact ⟨(x13_3), (wrap64 (x13_3 + 1)), er_, er_, H', ⟨by have := HK1.out; have := HK2.out; have := HK3.out; omega⟩, ⟨hd_ HO_6⟩, ⟨hd_ HO_8⟩, ⟨hd_ HO_9⟩, ⟨hd_ HO_10⟩, ⟨bx_ BK417⟩, ⟨bw115_⟩⟩
     rw [if_neg c46] at H
     have c46b0 : decide ((rd x6_1 x13_3) < (rd x6_1 x12_3)) = false := decide_eq_false c46
     clear c46
     have H' := Aside0.mk H
     clear H
     refine pz_ 0 53 ba14_1 HT_ ?_
     refine pz_ 1 54 ba14_2 HT_ ?_
     refine pz_ 2 55 ba14_3 HT_ ?_
     refine pt_ 3 56 ba14_4 HT_ HW_ hHeld ?_
     refine pz_ 4 57 ba14_5 HT_ ?_
     refine pz_ 5 58 ba14_6 HT_ ?_
     refine pz_ 6 59 ba14_7 HT_ ?_
     refine pz_ 7 60 ba14_8 HT_ ?_
     refine pz_ 8 61 ba14_9 HT_ ?_
     refine pt_ 9 62 ba14_10 HT_ HW_ hHeld ?_
     refine pz_ 10 63 ba14_11 HT_ ?_
     refine pz_ 11 64 ba14_12 HT_ ?_
     refine pz_ 12 65 ba14_13 HT_ ?_
     refine pz_ 13 66 ba14_14 HT_ ?_
     refine pz_ 14 67 ba14_15 HT_ ?_
     refine pz_ 15 68 ba14_16 HT_ ?_
     refine pz_ 16 69 ba14_17 HT_ ?_
     refine pz_ 17 70 ba14_18 HT_ ?_
     refine pz_ 18 71 ba14_19 HT_ ?_
     refine pz_ 20 73 ba14_28 HT_ ?_
     refine pz_ 21 74 ba14_29 HT_ ?_
     refine pz_ 22 75 ba14_30 HT_ ?_
     refine pt_ 19 72 ba14_23 HT_ HW_ hHeld ?_
     refine pt_ 23 76 ba14_24 HT_ HW_ hHeld ?_
     refine pz_ 24 77 ba14_25 HT_ ?_
     refine pz_ 25 78 ba14_26 HT_ ?_
     refine pz_ 26 79 ba14_27 HT_ ?_
     refine done_ (done_of HT_.out (by kernel_rfl)) ?_
     go_wp2
     go_roundg k3
     case measure => have := HK1.out; have := HK2.out; have := HK3.out; omega
     case rel => exact ⟨(x12_3), (wrap64 (x13_3 + 1)), er_, er_, H', ⟨by have := HK1.out; have := HK2.out; have := HK3.out; omega⟩, ⟨hd_ HO_6⟩, ⟨hd_ HO_8⟩, ⟨hd_ HO_9⟩, ⟨hd_ HO_10⟩, ⟨bx_ BK417⟩, ⟨bw115_⟩⟩
    rw [if_neg c29] at H
    have c29b0 : decide (x13_3 < a0_0) = false := decide_eq_false c29
    clear c29
    by_cases c59 : x12_3 < 0
    ·rw [if_pos c59] at H
     have c59b0 : decide (x12_3 < 0) = true := decide_eq_true c59
     clear c59
     simp only [Option.some.injEq, Prod.mk.injEq] at H
     obtain ⟨rfl, rfl⟩ := H
     have hcz60_0 := cz_ BK417 0 (.int .i64 a0_0)
     have hcz60_1 := cz_ BK417 1 (.slice A0_1 l0_1.length c0_1)
     have hfz60_0 := fz_ BK417 0
     have hfz60_1 := fz_ BK417 1
     go_wp2
     go_ret2
     exact ⟨_, _, ew_, by (with_reducible repeat (first | apply Kd.R_alloc | apply Kd.R_drewN | apply Kd.R_drew)); exact Kd.R_mono HO_8.out (fun _ hk => hk.2), by (with_reducible repeat (first | apply Kd.R_alloc | apply Kd.R_drewN | apply Kd.R_drew)); exact Kd.R_mono HO_9.out (fun _ hk => hk.2), bw115_⟩
    rw [if_neg c59] at H
    have c59b0 : decide (x12_3 < 0) = false := decide_eq_false c59
    clear c59
    obtain ⟨c61b0, H⟩ := iq_ H
    obtain ⟨c62b0, H⟩ := iq_ H
    obtain ⟨y441, hy441⟩ : ∃ y_ : List Bool, y_ = (x10_2.set (x12_3 : Int).toNat true) := ⟨_, rfl⟩
    replace H : (if x12_3 = a1 then (if x12_3 < (x8_2.length : Int) then (if x12_3 < (x9_2.length : Int) then (spec_l03Steps.l1 k3 a1 x6_1 (x8_2.set (x12_3 : Int).toNat 1) (x9_2.set (x12_3 : Int).toNat 1) y441 (wrap64 (x11_2 + 1)) a0_0 l0_1) else (none)) else (none)) else (spec_l03Steps.l3 k3 a1 x6_1 x8_2 x9_2 y441 x11_2 x12_3 0 a0_0 l0_1)) = some (r1, r2) := by first | (rw [hy441]; with_reducible exact H) | (have H2_ := (Option.bind_some _ _).symm.trans H; rw [hy441]; with_reducible exact H2_) | (have H2_ := (Option.bind_some _ _).symm.trans H; with_reducible exact H2_) | with_reducible exact H | (rw [hy441]; exact H) | exact H
    have Ny441 := Aside0.mk hy441
    clear hy441
    by_cases c64 : x12_3 = a1
    ·rw [if_pos c64] at H
     have c64b0 : (x12_3 == a1) = true := beq_iff_eq.mpr c64
     have c64b1 : (x12_3 != a1) = false := bne_eq_false_iff_eq.mpr c64
     clear c64
     obtain ⟨c65b0, H⟩ := iq_ H
     obtain ⟨y442, hy442⟩ : ∃ y_ : List Int, y_ = (x8_2.set (x12_3 : Int).toNat 1) := ⟨_, rfl⟩
     replace H : (if x12_3 < (x9_2.length : Int) then (spec_l03Steps.l1 k3 a1 x6_1 y442 (x9_2.set (x12_3 : Int).toNat 1) y441 (wrap64 (x11_2 + 1)) a0_0 l0_1) else (none)) = some (r1, r2) := by first | (rw [hy442]; with_reducible exact H) | (have H2_ := (Option.bind_some _ _).symm.trans H; rw [hy442]; with_reducible exact H2_) | (have H2_ := (Option.bind_some _ _).symm.trans H; with_reducible exact H2_) | with_reducible exact H | (rw [hy442]; exact H) | exact H
     have Ny442 := Aside0.mk hy442
     clear hy442
     obtain ⟨c67b0, H⟩ := iq_ H
     obtain ⟨y443, hy443⟩ : ∃ y_ : List Int, y_ = (x9_2.set (x12_3 : Int).toNat 1) := ⟨_, rfl⟩
     replace H : (spec_l03Steps.l1 k3 a1 x6_1 y442 y443 y441 (wrap64 (x11_2 + 1)) a0_0 l0_1) = some (r1, r2) := by first | (rw [hy443]; with_reducible exact H) | (have H2_ := (Option.bind_some _ _).symm.trans H; rw [hy443]; with_reducible exact H2_) | (have H2_ := (Option.bind_some _ _).symm.trans H; with_reducible exact H2_) | with_reducible exact H | (rw [hy443]; exact H) | exact H
     have Ny443 := Aside0.mk hy443
     clear hy443
     have H' := Aside0.mk H
     clear H
     have hcz69_0 := cz_ BK417 0 (.int .i64 a0_0)
     have hcz69_1 := cz_ BK417 1 (.slice A0_1 l0_1.length c0_1)
     have hfz69_0 := fz_ BK417 0
     have hfz69_1 := fz_ BK417 1
     have p63 : 0 ≤ (x12_3 : Int) := oa_
     have q63 : (x12_3 : Int) < ((x10_2.length : Int) : Int) := oa_
     obtain ⟨go63, co63, eo63, gb63, gl63, cl63, HG63⟩ := Kd.R_form HO_10.out (by omega)
     (first | cases eo63 | (injection eo63 with ea_ en_ ec_; (first | subst ea_ | (injection ea_ with ea_; subst ea_)); subst ec_; clear en_))
     have GB63 := Aside0.mk gb63
     have GG63 := Aside0.mk HG63
     clear gb63 gl63 HG63
     obtain ⟨hx63_0, hf63_0⟩ := Kd.R_celln false HO_10.out (x12_3 : Int) p63 q63
     obtain ⟨p63, q63⟩ := et_ p63 q63
     have HP70 := Kd.R_putg HO_10.out (x12_3 : Int) true
     go_wp2_with (first | ((with_reducible refine gate_store (t := 4) (p := 85) rfl ?_); refine store_event (t := 4) (p := 85) (v := ?vo_w71) (w1 := (wr.setCell ⟨go63, (x12_3 : Int).toNat, none⟩ (.bool true))) ?hg ?ho ?hn ?hr ?_; (case ho => rfl); (case hg => rfl); (case hn => rfl); (case hr => first | (go_simp; done) | (go_simp; rfl)); intro w71 hw; have hg : wr.grownBy w71 (some go63) := (by rw [hw]; exact HP70.2); have hp_ : Kd.R Kd.bool 4 w71 w.heap.size (fun _ => True) (.slice (some ⟨go63, 0, none⟩) x10_2.length co63) y441 := (by rw [hw, Ny441.out]; exact HP70.1); clear HP70; replace HO_6 := Aside0.mk (Kd.R_over' (v := (.slice (some ⟨go63, 0, none⟩) x10_2.length co63)) (hd_ HO_6) (Kd.R_typed HO_10.out) (by decide) hg); replace HO_8 := Aside0.mk (Kd.R_over' (v := (.slice (some ⟨go63, 0, none⟩) x10_2.length co63)) (hd_ HO_8) (Kd.R_typed HO_10.out) (by decide) hg); replace HO_9 := Aside0.mk (Kd.R_over' (v := (.slice (some ⟨go63, 0, none⟩) x10_2.length co63)) (hd_ HO_9) (Kd.R_typed HO_10.out) (by decide) hg); replace BK417 := Aside0.mk (blk_grown (g := gb417) (o := .cells #[.int .i64 a0_0, .slice A0_1 l0_1.length c0_1] 30 (0, 0)) (bx_ BK417) hg (Kd.R_ne HO_10.out BK417.out (by decide))); replace HO_10 := Aside0.mk (hp_); replace HB := Aside0.mk ((by rw [hw]; exact below_set (HB.out) GB63.out : Below w.heap.size w w71)); clear hg hw hp_; have p66 : 0 ≤ (x12_3 : Int) := oa_; have q66 : (x12_3 : Int) < ((x8_2.length : Int) : Int) := oa_; obtain ⟨go66, co66, eo66, gb66, gl66, cl66, HG66⟩ := Kd.R_form HO_8.out (by omega); (first | cases eo66 | (injection eo66 with ea_ en_ ec_; (first | subst ea_ | (injection ea_ with ea_; subst ea_)); subst ec_; clear en_)); have GB66 := Aside0.mk gb66; have GG66 := Aside0.mk HG66; clear gb66 gl66 HG66; obtain ⟨hx66_0, hf66_0⟩ := Kd.R_celln 0 HO_8.out (x12_3 : Int) p66 q66; obtain ⟨p66, q66⟩ := et_ p66 q66; obtain ⟨hy72_, hz72_⟩ := Kd.R_celln 0 HO_8.out (x12_3 : Int) oa_ oa_; have HP72 := Kd.R_putg HO_8.out (x12_3 : Int) 1) | ((with_reducible refine gate_store (t := 3) (p := 91) rfl ?_); refine store_event (t := 3) (p := 91) (v := ?vo_w73) (w1 := (w71.setCell ⟨go66, (x12_3 : Int).toNat, none⟩ (.int .i64 1))) ?hg ?ho ?hn ?hr ?_; (case ho => rfl); (case hg => rfl); (case hn => rfl); (case hr => first | (go_simp; done) | (go_simp; rfl)); intro w73 hw; have hg : w71.grownBy w73 (some go66) := (by rw [hw]; exact HP72.2); have hp_ : Kd.R (Kd.int .i64) 3 w73 w.heap.size (fun k_ => some k_ ≠ (u6 : Value).ownBlock ∧ some k_ ≠ (v432 : Value).ownBlock) (.slice (some ⟨go66, 0, none⟩) x8_2.length co66) y442 := (by rw [hw, Ny442.out]; exact HP72.1); clear HP72; replace HO_6 := Aside0.mk (Kd.R_after (v := (.slice (some ⟨go66, 0, none⟩) x8_2.length co66)) (v1 := (.slice (some ⟨go66, 0, none⟩) x8_2.length co66)) (ok := (fun k_ => some k_ ≠ (v432 : Value).ownBlock)) (hq_ (Kd.R_mono HO_6.out (fun _ hk => by first | exact ⟨hk.2, hk.1⟩ | grind))) hg (.inl rfl)); replace HO_9 := Aside0.mk (Kd.R_after (v := (.slice (some ⟨go66, 0, none⟩) x8_2.length co66)) (v1 := (.slice (some ⟨go66, 0, none⟩) x8_2.length co66)) (ok := (fun k_ => some k_ ≠ (u6 : Value).ownBlock)) (hd_ HO_9) hg (.inl rfl)); replace HO_10 := Aside0.mk (Kd.R_over' (v := (.slice (some ⟨go66, 0, none⟩) x8_2.length co66)) (hd_ HO_10) (Kd.R_typed HO_8.out) (by decide) hg); replace BK417 := Aside0.mk (blk_grown (g := gb417) (o := .cells #[.int .i64 a0_0, .slice A0_1 l0_1.length c0_1] 30 (0, 0)) (bx_ BK417) hg (Kd.R_ne HO_8.out BK417.out (by decide))); replace HO_8 := Aside0.mk (hp_); replace HB := Aside0.mk ((by rw [hw]; exact below_set (HB.out) GB66.out : Below w.heap.size w w73)); clear hg hw hp_; have p68 : 0 ≤ (x12_3 : Int) := oa_; have q68 : (x12_3 : Int) < ((x9_2.length : Int) : Int) := oa_; obtain ⟨go68, co68, eo68, gb68, gl68, cl68, HG68⟩ := Kd.R_form HO_9.out (by omega); (first | cases eo68 | (injection eo68 with ea_ en_ ec_; (first | subst ea_ | (injection ea_ with ea_; subst ea_)); subst ec_; clear en_)); have GB68 := Aside0.mk gb68; have GG68 := Aside0.mk HG68; clear gb68 gl68 HG68; obtain ⟨hx68_0, hf68_0⟩ := Kd.R_celln 0 HO_9.out (x12_3 : Int) p68 q68; obtain ⟨p68, q68⟩ := et_ p68 q68; obtain ⟨hy74_, hz74_⟩ := Kd.R_celln 0 HO_9.out (x12_3 : Int) oa_ oa_; have HP74 := Kd.R_putg HO_9.out (x12_3 : Int) 1) | ((with_reducible refine gate_store (t := 3) (p := 94) rfl ?_); refine store_event (t := 3) (p := 94) (v := ?vo_w75) (w1 := (w73.setCell ⟨go68, (x12_3 : Int).toNat, none⟩ (.int .i64 1))) ?hg ?ho ?hn ?hr ?_; (case ho => rfl); (case hg => rfl); (case hn => rfl); (case hr => first | (go_simp; done) | (go_simp; rfl)); intro w75 hw; have hg : w73.grownBy w75 (some go68) := (by rw [hw]; exact HP74.2); have hp_ : Kd.R (Kd.int .i64) 3 w75 w.heap.size (fun k_ => some k_ ≠ (u6 : Value).ownBlock ∧ some k_ ≠ (.slice (some ⟨go66, 0, none⟩) x8_2.length co66 : Value).ownBlock) (.slice (some ⟨go68, 0, none⟩) x9_2.length co68) y443 := (by rw [hw, Ny443.out]; exact HP74.1); clear HP74; replace HO_6 := Aside0.mk (Kd.R_after (v := (.slice (some ⟨go68, 0, none⟩) x9_2.length co68)) (v1 := (.slice (some ⟨go68, 0, none⟩) x9_2.length co68)) (ok := (fun k_ => some k_ ≠ (.slice (some ⟨go66, 0, none⟩) x8_2.length co66 : Value).ownBlock)) (hq_ (Kd.R_mono HO_6.out (fun _ hk => by first | exact ⟨hk.2, hk.1⟩ | grind))) hg (.inl rfl)); replace HO_8 := Aside0.mk (Kd.R_after (v := (.slice (some ⟨go68, 0, none⟩) x9_2.length co68)) (v1 := (.slice (some ⟨go68, 0, none⟩) x9_2.length co68)) (ok := (fun k_ => some k_ ≠ (u6 : Value).ownBlock)) (hd_ HO_8) hg (.inl rfl)); replace HO_10 := Aside0.mk (Kd.R_over' (v := (.slice (some ⟨go68, 0, none⟩) x9_2.length co68)) (hd_ HO_10) (Kd.R_typed HO_9.out) (by decide) hg); replace BK417 := Aside0.mk (blk_grown (g := gb417) (o := .cells #[.int .i64 a0_0, .slice A0_1 l0_1.length c0_1] 30 (0, 0)) (bx_ BK417) hg (Kd.R_ne HO_9.out BK417.out (by decide))); replace HO_9 := Aside0.mk (hp_); replace HB := Aside0.mk ((by rw [hw]; exact below_set (HB.out) GB68.out : Below w.heap.size w w75)); clear hg hw hp_))
     go_roundg k3
     case measure => have := HK1.out; have := HK2.out; have := HK3.out; omega
     case rel => exact ⟨(y442), (y443), (y441), (wrap64 (x11_2 + 1)), er_, H', ⟨by have := HK1.out; have := HK2.out; have := HK3.out; omega⟩, ⟨hd_ HO_6⟩, ⟨hd_ HO_8⟩, ⟨hd_ HO_9⟩, ⟨hd_ HO_10⟩, ⟨bx_ BK417⟩, ⟨bw115_⟩⟩
    rw [if_neg c64] at H
    have c64b0 : (x12_3 == a1) = false := beq_eq_false_iff_ne.mpr c64
    have c64b1 : (x12_3 != a1) = true := bne_iff_ne.mpr c64
    have H' := Aside0.mk H
    clear H
    have hcz76_0 := cz_ BK417 0 (.int .i64 a0_0)
    have hcz76_1 := cz_ BK417 1 (.slice A0_1 l0_1.length c0_1)
    have hfz76_0 := fz_ BK417 0
    have hfz76_1 := fz_ BK417 1
    have p63 : 0 ≤ (x12_3 : Int) := oa_
    have q63 : (x12_3 : Int) < ((x10_2.length : Int) : Int) := oa_
    obtain ⟨go63, co63, eo63, gb63, gl63, cl63, HG63⟩ := Kd.R_form HO_10.out (by omega)
    (first | cases eo63 | (injection eo63 with ea_ en_ ec_; (first | subst ea_ | (injection ea_ with ea_; subst ea_)); subst ec_; clear en_))
    have GB63 := Aside0.mk gb63
    have GG63 := Aside0.mk HG63
    clear gb63 gl63 HG63
    obtain ⟨hx63_0, hf63_0⟩ := Kd.R_celln false HO_10.out (x12_3 : Int) p63 q63
    obtain ⟨p63, q63⟩ := et_ p63 q63
    have HP77 := Kd.R_putg HO_10.out (x12_3 : Int) true
    go_wp2_with ((with_reducible refine gate_store (t := 4) (p := 85) rfl ?_); refine store_event (t := 4) (p := 85) (v := ?vo_w78) (w1 := (wr.setCell ⟨go63, (x12_3 : Int).toNat, none⟩ (.bool true))) ?hg ?ho ?hn ?hr ?_; (case ho => rfl); (case hg => rfl); (case hn => rfl); (case hr => first | (go_simp; done) | (go_simp; rfl)); intro w78 hw; have hg : wr.grownBy w78 (some go63) := (by rw [hw]; exact HP77.2); have hp_ : Kd.R Kd.bool 4 w78 w.heap.size (fun _ => True) (.slice (some ⟨go63, 0, none⟩) x10_2.length co63) y441 := (by rw [hw, Ny441.out]; exact HP77.1); clear HP77; replace HO_6 := Aside0.mk (Kd.R_over' (v := (.slice (some ⟨go63, 0, none⟩) x10_2.length co63)) (hd_ HO_6) (Kd.R_typed HO_10.out) (by decide) hg); replace HO_8 := Aside0.mk (Kd.R_over' (v := (.slice (some ⟨go63, 0, none⟩) x10_2.length co63)) (hd_ HO_8) (Kd.R_typed HO_10.out) (by decide) hg); replace HO_9 := Aside0.mk (Kd.R_over' (v := (.slice (some ⟨go63, 0, none⟩) x10_2.length co63)) (hd_ HO_9) (Kd.R_typed HO_10.out) (by decide) hg); replace BK417 := Aside0.mk (blk_grown (g := gb417) (o := .cells #[.int .i64 a0_0, .slice A0_1 l0_1.length c0_1] 30 (0, 0)) (bx_ BK417) hg (Kd.R_ne HO_10.out BK417.out (by decide))); replace HO_10 := Aside0.mk (hp_); replace HB := Aside0.mk ((by rw [hw]; exact below_set (HB.out) GB63.out : Below w.heap.size w w78)); clear hg hw hp_)
    go_loopg [14] k3 (fun kq v14 w' => ∃ (x8_4 : List Int) (x9_4 : List Int) (x14_4 : Int), v14 = .int .i64 x14_4 ∧ Aside0 (spec_l03Steps.l3 kq a1 x6_1 x8_4 x9_4 y441 x11_2 x12_3 x14_4 a0_0 l0_1 = some (r1, r2)) ∧ Aside0 (kq ≤ k3) ∧ Aside0 (Kd.R (Kd.int .i64) 3 w' w.heap.size (fun k_ => some k_ ≠ (v429 : Value).ownBlock ∧ some k_ ≠ (v432 : Value).ownBlock) u6 x6_1) ∧ Aside0 (Kd.R (Kd.int .i64) 3 w' w.heap.size (fun k_ => some k_ ≠ (u6 : Value).ownBlock ∧ some k_ ≠ (v432 : Value).ownBlock) v429 x8_4) ∧ Aside0 (Kd.R (Kd.int .i64) 3 w' w.heap.size (fun k_ => some k_ ≠ (u6 : Value).ownBlock ∧ some k_ ≠ (v429 : Value).ownBlock) v432 x9_4) ∧ Aside0 (Kd.R Kd.bool 4 w' w.heap.size (fun _ => True) (.slice (some ⟨go63, 0, none⟩) x10_2.length co63) y441) ∧ Aside0 (w'.heap[gb417]? = some (.cells #[.int .i64 a0_0, (.slice A0_1 l0_1.length c0_1)] 30 (0, 0))) ∧ Aside0 (Below w.heap.size w w'))
    case atStart => exact ⟨(x8_2), (x9_2), (0), er_, H', ⟨Nat.le_refl _⟩, ⟨hd_ HO_6⟩, ⟨hd_ HO_8⟩, ⟨hd_ HO_9⟩, ⟨hd_ HO_10⟩, ⟨bx_ BK417⟩, ⟨bw115_⟩⟩
    clear H' c29b0 c59b0 c61b0 c62b0 p63 q63 c64 c64b0 c64b1 hcz76_0 hcz76_1 hfz76_0 hfz76_1 hx63_0
    clear p63 q63
    obtain ⟨x8_4, x9_4, x14_4, rfl, HA, HK4, HO_6, HO_8, HO_9, HO_10, BK417, HB⟩ := hrel
    have hl10_4 := (Kd.R_reads' HO_10.out).1
    rw [hl10_4] at HO_10
    (try simp only [hl10_4])
    (try simp only [hl10_4] at BK417)
    (try simp only [hl10_4] at HO_6)
    (try simp only [hl10_4] at HO_8)
    (try simp only [hl10_4] at HO_9)
    cases gk with
    | zero => exact absurd HA.out (by simp [spec_l03Steps.l3])
    | succ k4 =>
     have H := HA.out
     clear HA
     simp only [spec_l03Steps.l3] at H
     by_cases c79 : x14_4 < a0_0
     rotate_left
     ·rw [if_neg c79] at H
      have c79b0 : decide (x14_4 < a0_0) = false := decide_eq_false c79
      clear c79
      have H' := Aside0.mk H
      clear H
      have hcz132_0 := cz_ BK417 0 (.int .i64 a0_0)
      have hcz132_1 := cz_ BK417 1 (.slice A0_1 l0_1.length c0_1)
      have hfz132_0 := fz_ BK417 0
      have hfz132_1 := fz_ BK417 1
      go_wp2
      (try simp only [← hl10_4])
      go_roundg k4
      case measure => have := HK1.out; have := HK2.out; have := HK3.out; have := HK4.out; omega
      case rel => exact ⟨(x8_4), (x9_4), (y441), (wrap64 (x11_2 + 1)), er_, H', ⟨by have := HK1.out; have := HK2.out; have := HK3.out; have := HK4.out; omega⟩, ⟨by (try simp only [hl10_4]); (with_reducible repeat (first | apply Kd.R_alloc | apply Kd.R_drewN | apply Kd.R_drew)); exact HO_6.out⟩, ⟨by (try simp only [hl10_4]); (with_reducible repeat (first | apply Kd.R_alloc | apply Kd.R_drewN | apply Kd.R_drew)); exact HO_8.out⟩, ⟨by (try simp only [hl10_4]); (with_reducible repeat (first | apply Kd.R_alloc | apply Kd.R_drewN | apply Kd.R_drew)); exact HO_9.out⟩, ⟨by (try simp only [hl10_4]); (with_reducible repeat (first | apply Kd.R_alloc | apply Kd.R_drewN | apply Kd.R_drew)); exact HO_10.out⟩, ⟨by (try simp only [hl10_4]); refine bd_ ?_; exact BK417.out⟩, ⟨bw115_⟩⟩
     rw [if_pos c79] at H
     have c79b0 : decide (x14_4 < a0_0) = true := decide_eq_true c79
     clear c79
     obtain ⟨t444, A80, H⟩ := ob_ H
     have HC81 := Aside0.mk H
     clear H
     have hcz82_0 := cz_ BK417 0 (.int .i64 a0_0)
     have hcz82_1 := cz_ BK417 1 (.slice A0_1 l0_1.length c0_1)
     have hfz82_0 := fz_ BK417 0
     have hfz82_1 := fz_ BK417 1
     go_upto_region 27 with ((with_reducible refine gate_callee (f := 72) rfl ?_); refine gl_ (some 104) Try.func72 #[.agg #[.int .i64 a0_0, .slice A0_1 l0_1.length c0_1], .int .i64 x12_3, .int .i64 x14_4] ?_; (with_reducible refine (spec_l03Cost.calls k4 a0_0 _ _ l0_1 x12_3 x14_4 t444 _ ?side1 ?side2 A80.out).mono ?_); (case side1 => exact cb_ HR0_1 HB); (case side2 => exact HC0_1.out); rintro e w83 ⟨rfl, hb⟩; refine ⟨_, rfl, ?_⟩; replace HO_6 := rb_ HO_6 hb; replace HO_8 := rb_ HO_8 hb; replace HO_9 := rb_ HO_9 hb; replace HO_10 := rb_ HO_10 hb; replace BK417 := ab_ BK417 hb; replace HB := at_ HB hb; clear hb)
     (try simp only [Act.put, List.setIfInBounds_toArray, List.set_cons_zero, List.set_cons_succ])
     go_cut [131] (fun v131 wc => ∃ (kq : Nat) (x131_80 : Bool), v131 = .bool x131_80 ∧ Aside0 (spec_l03Steps.j4 kq a1 x6_1 x8_4 x9_4 y441 x11_2 x12_3 x14_4 x131_80 a0_0 l0_1 = some (r1, r2)) ∧ Aside0 (kq ≤ k4) ∧ Aside0 (Kd.R (Kd.int .i64) 3 wc w.heap.size (fun k_ => some k_ ≠ (v429 : Value).ownBlock ∧ some k_ ≠ (v432 : Value).ownBlock) u6 x6_1) ∧ Aside0 (Kd.R (Kd.int .i64) 3 wc w.heap.size (fun k_ => some k_ ≠ (u6 : Value).ownBlock ∧ some k_ ≠ (v432 : Value).ownBlock) v429 x8_4) ∧ Aside0 (Kd.R (Kd.int .i64) 3 wc w.heap.size (fun k_ => some k_ ≠ (u6 : Value).ownBlock ∧ some k_ ≠ (v429 : Value).ownBlock) v432 x9_4) ∧ Aside0 (Kd.R Kd.bool 4 wc w.heap.size (fun _ => True) (.slice (some ⟨go63, 0, none⟩) y441.length co63) y441) ∧ Aside0 (wc.heap[gb417]? = some (.cells #[.int .i64 a0_0, (.slice A0_1 l0_1.length c0_1)] 30 (0, 0))) ∧ Aside0 (Below w.heap.size w wc))
     case first =>
      have H := HC81.out
      clear HC81
      by_cases c84 : x14_4 = x12_3
      ·rw [if_pos c84] at H
       have c84b0 : (x14_4 == x12_3) = true := beq_iff_eq.mpr c84
       have c84b1 : (x14_4 != x12_3) = false := bne_eq_false_iff_eq.mpr c84
       clear c84
       (first | rw [c84b0] | (simp only [i64_w, i32_w]; rw [c84b0]) | skip)
       have H' := Aside0.mk H
       clear H
       go_wp2
       replace HO_6 := rw5_ HO_6
       replace HO_8 := rw5_ HO_8
       replace HO_9 := rw5_ HO_9
       replace HO_10 := rw5_ HO_10
       replace BK417 := ad_ BK417
       replace HB := Aside0.mk (below_drew1 HB.out)
       refine start_ (n := 27) (S := fun w' => True) (ds := []) ba14_0 (by kernel_rfl) rfl rfl trivial (fun hHeld => ?_); refine with_tabW spec_l03Steps.tab27 spec_l03Steps.bits27 (fun HT_ HW_ => ?_)
       generalize w83.drew = w85 at HO_6 HO_8 HO_9 HO_10 BK417 HB hHeld ⊢
       refine pz_ 0 105 ba14_1 HT_ ?_
       refine pz_ 1 106 ba14_2 HT_ ?_
       refine pz_ 2 107 ba14_3 HT_ ?_
       refine pz_ 3 108 ba14_4 HT_ ?_
       refine pu_ 4 109 ba14_5 HT_ ?_
       refine pu_ 5 110 ba14_6 HT_ ?_
       refine pz_ 6 111 ba14_7 HT_ ?_
       refine pz_ 7 112 ba14_8 HT_ ?_
       refine pu_ 8 113 ba14_9 HT_ ?_
       refine pu_ 9 114 ba14_10 HT_ ?_
       refine pu_ 10 115 ba14_11 HT_ ?_
       refine pu_ 11 116 ba14_12 HT_ ?_
       refine pu_ 12 117 ba14_13 HT_ ?_
       refine pz_ 13 118 ba14_14 HT_ ?_
       refine pz_ 14 119 ba14_15 HT_ ?_
       refine pu_ 15 120 ba14_16 HT_ ?_
       refine pu_ 16 121 ba14_17 HT_ ?_
       refine pu_ 17 122 ba14_18 HT_ ?_
       refine pu_ 18 123 ba14_19 HT_ ?_
       refine pu_ 19 124 ba14_20 HT_ ?_
       refine pu_ 20 125 ba14_21 HT_ ?_
       refine pu_ 21 126 ba14_22 HT_ ?_
       refine pu_ 22 127 ba14_23 HT_ ?_
       refine pu_ 23 128 ba14_24 HT_ ?_
       refine pu_ 24 129 ba14_25 HT_ ?_
       refine pu_ 25 130 ba14_26 HT_ ?_
       refine pz_ 26 131 ba14_27 HT_ ?_
       refine done_ (done_of HT_.out (by kernel_rfl)) ?_
       go_wp2
       go_meet
       case rel => exact ⟨_, (true), er_, H', ⟨by have := HK1.out; have := HK2.out; have := HK3.out; have := HK4.out; first | omega | exact Nat.le_refl _⟩, ⟨by (try simp only [hl10_4]); (with_reducible repeat (first | apply Kd.R_alloc | apply Kd.R_drewN | apply Kd.R_drew)); exact HO_6.out⟩, ⟨by (try simp only [hl10_4]); (with_reducible repeat (first | apply Kd.R_alloc | apply Kd.R_drewN | apply Kd.R_drew)); exact HO_8.out⟩, ⟨by (try simp only [hl10_4]); (with_reducible repeat (first | apply Kd.R_alloc | apply Kd.R_drewN | apply Kd.R_drew)); exact HO_9.out⟩, ⟨by (try simp only [hl10_4]); (with_reducible repeat (first | apply Kd.R_alloc | apply Kd.R_drewN | apply Kd.R_drew)); exact HO_10.out⟩, ⟨by (try simp only [hl10_4]); refine bd_ ?_; exact BK417.out⟩, ⟨bw115_⟩⟩
      rw [if_neg c84] at H
      have c84b0 : (x14_4 == x12_3) = false := beq_eq_false_iff_ne.mpr c84
      have c84b1 : (x14_4 != x12_3) = true := bne_iff_ne.mpr c84
      (first | rw [c84b0] | (simp only [i64_w, i32_w]; rw [c84b0]) | skip)
      by_cases c86 : t444 = 1000000
      ·rw [if_pos c86] at H
       have c86b0 : (t444 == 1000000) = true := beq_iff_eq.mpr c86
       have c86b1 : (t444 != 1000000) = false := bne_eq_false_iff_eq.mpr c86
       clear c86
       have H' := Aside0.mk H
       clear H
       go_wp2
       replace HO_6 := rw5_ HO_6
       replace HO_8 := rw5_ HO_8
       replace HO_9 := rw5_ HO_9
       replace HO_10 := rw5_ HO_10
       replace BK417 := ad_ BK417
       replace HB := Aside0.mk (below_drew1 HB.out)
       refine start_ (n := 27) (S := fun w' => True) (ds := []) ba14_0 (by kernel_rfl) rfl rfl trivial (fun hHeld => ?_); refine with_tabW spec_l03Steps.tab27 spec_l03Steps.bits27 (fun HT_ HW_ => ?_)
       generalize w83.drew = w87 at HO_6 HO_8 HO_9 HO_10 BK417 HB hHeld ⊢
       refine pz_ 0 105 ba14_1 HT_ ?_
       refine pz_ 1 106 ba14_2 HT_ ?_
       refine pz_ 2 107 ba14_3 HT_ ?_
       refine pz_ 3 108 ba14_4 HT_ ?_
       refine pz_ 4 109 ba14_5 HT_ ?_
       refine pz_ 5 110 ba14_6 HT_ ?_
       refine pz_ 6 111 ba14_7 HT_ ?_
       refine pz_ 7 112 ba14_8 HT_ ?_
       refine pu_ 8 113 ba14_9 HT_ ?_
       refine pu_ 9 114 ba14_10 HT_ ?_
       refine pu_ 10 115 ba14_11 HT_ ?_
       refine pu_ 11 116 ba14_12 HT_ ?_
       refine pu_ 12 117 ba14_13 HT_ ?_
       refine pz_ 13 118 ba14_14 HT_ ?_
       refine pz_ 14 119 ba14_15 HT_ ?_
       refine pu_ 15 120 ba14_16 HT_ ?_
       refine pu_ 16 121 ba14_17 HT_ ?_
       refine pu_ 17 122 ba14_18 HT_ ?_
       refine pu_ 18 123 ba14_19 HT_ ?_
       refine pu_ 19 124 ba14_20 HT_ ?_
       refine pu_ 20 125 ba14_21 HT_ ?_
       refine pu_ 21 126 ba14_22 HT_ ?_
       refine pu_ 22 127 ba14_23 HT_ ?_
       refine pu_ 23 128 ba14_24 HT_ ?_
       refine pu_ 24 129 ba14_25 HT_ ?_
       refine pu_ 25 130 ba14_26 HT_ ?_
       refine pz_ 26 131 ba14_27 HT_ ?_
       refine done_ (done_of HT_.out (by kernel_rfl)) ?_
       go_wp2
       go_meet
       case rel => exact ⟨_, (true), er_, H', ⟨by have := HK1.out; have := HK2.out; have := HK3.out; have := HK4.out; first | omega | exact Nat.le_refl _⟩, ⟨by (try simp only [hl10_4]); (with_reducible repeat (first | apply Kd.R_alloc | apply Kd.R_drewN | apply Kd.R_drew)); exact HO_6.out⟩, ⟨by (try simp only [hl10_4]); (with_reducible repeat (first | apply Kd.R_alloc | apply Kd.R_drewN | apply Kd.R_drew)); exact HO_8.out⟩, ⟨by (try simp only [hl10_4]); (with_reducible repeat (first | apply Kd.R_alloc | apply Kd.R_drewN | apply Kd.R_drew)); exact HO_9.out⟩, ⟨by (try simp only [hl10_4]); (with_reducible repeat (first | apply Kd.R_alloc | apply Kd.R_drewN | apply Kd.R_drew)); exact HO_10.out⟩, ⟨by (try simp only [hl10_4]); refine bd_ ?_; exact BK417.out⟩, ⟨bw115_⟩⟩
      rw [if_neg c86] at H
      have c86b0 : (t444 == 1000000) = false := beq_eq_false_iff_ne.mpr c86
      have c86b1 : (t444 != 1000000) = true := bne_iff_ne.mpr c86
      obtain ⟨c88b0, H⟩ := iq_ H
      obtain ⟨c89b0, H⟩ := iq_ H
      by_cases c90 : (rd x6_1 x14_4) = 1000000
      ·rw [if_pos c90] at H
       have c90b0 : ((rd x6_1 x14_4) == 1000000) = true := beq_iff_eq.mpr c90
       have c90b1 : ((rd x6_1 x14_4) != 1000000) = false := bne_eq_false_iff_eq.mpr c90
       clear c90
       have H' := Aside0.mk H
       clear H
       go_wp2
       replace HO_6 := rw5_ HO_6
       replace HO_8 := rw5_ HO_8
       replace HO_9 := rw5_ HO_9
       replace HO_10 := rw5_ HO_10
       replace BK417 := ad_ BK417
       replace HB := Aside0.mk (below_drew1 HB.out)
       obtain ⟨Ao92, co92, eo92⟩ := Kd.R_slice HO_6.out
       subst eo92
       have p445 : 0 ≤ (x14_4 : Int) := oa_
       have q445 : x14_4 < (x6_1.length : Int) := oa_
       obtain ⟨ad445, e445, hx445_0⟩ := Kd.at_int (Kd.R_reads' HO_6.out).2.2 x14_4 p445 q445
       cases e445
       obtain ⟨p445, q445⟩ := et_ p445 q445
       refine start_ (n := 27) (S := fun w' => w'.cell? (ad445.add (x14_4).toNat) = some (.int .i64 (rd x6_1 x14_4))) (ds := []) ba14_0 (by kernel_rfl) rfl rfl (hx445_0) (fun hHeld => ?_); refine with_tabW spec_l03Steps.tab27 spec_l03Steps.bits27 (fun HT_ HW_ => ?_)
       generalize w83.drew = w91 at HO_6 HO_8 HO_9 HO_10 BK417 HB hx445_0 hHeld ⊢
       refine pz_ 0 105 ba14_1 HT_ ?_
       refine pz_ 1 106 ba14_2 HT_ ?_
       refine pz_ 2 107 ba14_3 HT_ ?_
       refine pz_ 3 108 ba14_4 HT_ ?_
       refine pz_ 4 109 ba14_5 HT_ ?_
       refine pz_ 5 110 ba14_6 HT_ ?_
       refine pz_ 6 111 ba14_7 HT_ ?_
       refine pz_ 7 112 ba14_8 HT_ ?_
       refine pz_ 8 113 ba14_9 HT_ ?_
       refine pz_ 9 114 ba14_10 HT_ ?_
       refine pz_ 10 115 ba14_11 HT_ ?_
       refine take_ (i := 11) (N := some 116) (v := ?_) (a' := ?_) ba14_12 rfl rfl (take_ofW HT_.out HW_.out (by kernel_rfl)) (fun _ _ _ h => h) (Or.inl ⟨by rfl, ?_⟩) hHeld ?_ ?_
       rotate_left; · intro w' s0; go_simp; with_reducible rfl
       rotate_left; · simp only [Act.put, List.setIfInBounds_toArray, List.set_cons_zero, List.set_cons_succ, i64_w, i32_w]; rfl
       refine pz_ 12 117 ba14_13 HT_ ?_
       refine pz_ 13 118 ba14_14 HT_ ?_
       refine pz_ 14 119 ba14_15 HT_ ?_
       refine pu_ 15 120 ba14_16 HT_ ?_
       refine pu_ 16 121 ba14_17 HT_ ?_
       refine pu_ 17 122 ba14_18 HT_ ?_
       refine pu_ 18 123 ba14_19 HT_ ?_
       refine pu_ 19 124 ba14_20 HT_ ?_
       refine pu_ 20 125 ba14_21 HT_ ?_
       refine pu_ 21 126 ba14_22 HT_ ?_
       refine pu_ 22 127 ba14_23 HT_ ?_
       refine pu_ 23 128 ba14_24 HT_ ?_
       refine pu_ 24 129 ba14_25 HT_ ?_
       refine pu_ 25 130 ba14_26 HT_ ?_
       refine pz_ 26 131 ba14_27 HT_ ?_
       refine done_ (done_of HT_.out (by kernel_rfl)) ?_
       go_wp2
       go_meet
       case rel => exact ⟨_, (true), er_, H', ⟨by have := HK1.out; have := HK2.out; have := HK3.out; have := HK4.out; first | omega | exact Nat.le_refl _⟩, ⟨by (try simp only [hl10_4]); (with_reducible repeat (first | apply Kd.R_alloc | apply Kd.R_drewN | apply Kd.R_drew)); exact HO_6.out⟩, ⟨by (try simp only [hl10_4]); (with_reducible repeat (first | apply Kd.R_alloc | apply Kd.R_drewN | apply Kd.R_drew)); exact HO_8.out⟩, ⟨by (try simp only [hl10_4]); (with_reducible repeat (first | apply Kd.R_alloc | apply Kd.R_drewN | apply Kd.R_drew)); exact HO_9.out⟩, ⟨by (try simp only [hl10_4]); (with_reducible repeat (first | apply Kd.R_alloc | apply Kd.R_drewN | apply Kd.R_drew)); exact HO_10.out⟩, ⟨by (try simp only [hl10_4]); refine bd_ ?_; exact BK417.out⟩, ⟨bw115_⟩⟩
      rw [if_neg c90] at H
      have c90b0 : ((rd x6_1 x14_4) == 1000000) = false := beq_eq_false_iff_ne.mpr c90
      have c90b1 : ((rd x6_1 x14_4) != 1000000) = true := bne_iff_ne.mpr c90
      obtain ⟨c93b0, H⟩ := iq_ H
      obtain ⟨c94b0, H⟩ := iq_ H
      have H' := Aside0.mk H
      clear H
      go_wp2
      replace HO_6 := rw5_ HO_6
      replace HO_8 := rw5_ HO_8
      replace HO_9 := rw5_ HO_9
      replace HO_10 := rw5_ HO_10
      replace BK417 := ad_ BK417
      replace HB := Aside0.mk (below_drew1 HB.out)
      obtain ⟨Ao96, co96, eo96⟩ := Kd.R_slice HO_6.out
      subst eo96
      have p445 : 0 ≤ (x14_4 : Int) := oa_
      have q445 : x14_4 < (x6_1.length : Int) := oa_
      obtain ⟨ad445, e445, hx445_0⟩ := Kd.at_int (Kd.R_reads' HO_6.out).2.2 x14_4 p445 q445
      cases e445
      obtain ⟨p445, q445⟩ := et_ p445 q445
      have p446 : 0 ≤ (x14_4 : Int) := oa_
      have q446 : x14_4 < (x6_1.length : Int) := oa_
      obtain ⟨ad446, e446, hx446_0⟩ := Kd.at_int (Kd.R_reads' HO_6.out).2.2 x14_4 p446 q446
      obtain rfl : ad445 = ad446 := (by injection e446)
      obtain ⟨p446, q446⟩ := et_ p446 q446
      have p447 : 0 ≤ (x12_3 : Int) := oa_
      have q447 : x12_3 < (x6_1.length : Int) := oa_
      obtain ⟨ad447, e447, hx447_0⟩ := Kd.at_int (Kd.R_reads' HO_6.out).2.2 x12_3 p447 q447
      obtain rfl : ad445 = ad447 := (by injection e447)
      obtain ⟨p447, q447⟩ := et_ p447 q447
      refine start_ (n := 27) (S := fun w' => w'.cell? (ad445.add (x14_4).toNat) = some (.int .i64 (rd x6_1 x14_4)) ∧ w'.cell? (ad445.add (x14_4).toNat) = some (.int .i64 (rd x6_1 x14_4)) ∧ w'.cell? (ad445.add (x12_3).toNat) = some (.int .i64 (rd x6_1 x12_3))) (ds := []) ba14_0 (by kernel_rfl) rfl rfl ⟨hx445_0, hx446_0, hx447_0⟩ (fun hHeld => ?_); refine with_tabW spec_l03Steps.tab27 spec_l03Steps.bits27 (fun HT_ HW_ => ?_)
      generalize w83.drew = w95 at HO_6 HO_8 HO_9 HO_10 BK417 HB hx445_0 hx446_0 hx447_0 hHeld ⊢
      refine pz_ 0 105 ba14_1 HT_ ?_
      refine pz_ 1 106 ba14_2 HT_ ?_
      refine pz_ 2 107 ba14_3 HT_ ?_
      refine pz_ 3 108 ba14_4 HT_ ?_
      refine pz_ 4 109 ba14_5 HT_ ?_
      refine pz_ 5 110 ba14_6 HT_ ?_
      refine pz_ 6 111 ba14_7 HT_ ?_
      refine pz_ 7 112 ba14_8 HT_ ?_
      refine pz_ 8 113 ba14_9 HT_ ?_
      refine pz_ 9 114 ba14_10 HT_ ?_
      refine pz_ 10 115 ba14_11 HT_ ?_
      refine pt_ 11 116 ba14_12 HT_ HW_ hHeld ?_
      refine pz_ 12 117 ba14_13 HT_ ?_
      refine pz_ 13 118 ba14_14 HT_ ?_
      refine pz_ 14 119 ba14_15 HT_ ?_
      refine pz_ 15 120 ba14_16 HT_ ?_
      refine pz_ 16 121 ba14_17 HT_ ?_
      refine pz_ 17 122 ba14_18 HT_ ?_
      refine pz_ 18 123 ba14_19 HT_ ?_
      refine pz_ 21 126 ba14_31 HT_ ?_
      refine pz_ 22 127 ba14_32 HT_ ?_
      refine pz_ 23 128 ba14_33 HT_ ?_
      refine pt_ 19 124 ba14_34 HT_ HW_ hHeld ?_
      refine pz_ 20 125 ba14_24 HT_ ?_
      refine pt_ 24 129 ba14_25 HT_ HW_ hHeld ?_
      refine pz_ 25 130 ba14_26 HT_ ?_
      refine pz_ 26 131 ba14_27 HT_ ?_
      refine done_ (done_of HT_.out (by kernel_rfl)) ?_
      go_wp2
      go_meet
      case rel => exact ⟨_, (((wrap64 (t444 + (rd x6_1 x14_4))) != (rd x6_1 x12_3))), er_, H', ⟨by have := HK1.out; have := HK2.out; have := HK3.out; have := HK4.out; first | omega | exact Nat.le_refl _⟩, ⟨by (try simp only [hl10_4]); (with_reducible repeat (first | apply Kd.R_alloc | apply Kd.R_drewN | apply Kd.R_drew)); exact HO_6.out⟩, ⟨by (try simp only [hl10_4]); (with_reducible repeat (first | apply Kd.R_alloc | apply Kd.R_drewN | apply Kd.R_drew)); exact HO_8.out⟩, ⟨by (try simp only [hl10_4]); (with_reducible repeat (first | apply Kd.R_alloc | apply Kd.R_drewN | apply Kd.R_drew)); exact HO_9.out⟩, ⟨by (try simp only [hl10_4]); (with_reducible repeat (first | apply Kd.R_alloc | apply Kd.R_drewN | apply Kd.R_drew)); exact HO_10.out⟩, ⟨by (try simp only [hl10_4]); refine bd_ ?_; exact BK417.out⟩, ⟨bw115_⟩⟩
     clear HC81
     obtain ⟨kq, x131_80, rfl, HA, HJ80, HO_6, HO_8, HO_9, HO_10, BK417, HB⟩ := hcut
     cases kq with
     | zero => exact absurd HA.out (by simp [spec_l03Steps.j4])
     | succ kj80 =>
      have H := HA.out
      clear HA
      simp only [spec_l03Steps.j4] at H
      by_cases c97 : x131_80 = true
      ·subst c97
       rw [if_pos rfl] at H
       have H' := Aside0.mk H
       clear H
       go_wp2
       (try simp only [← hl10_4])
       go_roundg kj80
       case measure => have := HK1.out; have := HK2.out; have := HK3.out; have := HK4.out; have := HJ80.out; omega
       case rel => exact ⟨(x8_4), (x9_4), (wrap64 (x14_4 + 1)), er_, H', ⟨by have := HK1.out; have := HK2.out; have := HK3.out; have := HK4.out; have := HJ80.out; omega⟩, ⟨by (try simp only [hl10_4]); (with_reducible repeat (first | apply Kd.R_alloc | apply Kd.R_drewN | apply Kd.R_drew)); exact HO_6.out⟩, ⟨by (try simp only [hl10_4]); (with_reducible repeat (first | apply Kd.R_alloc | apply Kd.R_drewN | apply Kd.R_drew)); exact HO_8.out⟩, ⟨by (try simp only [hl10_4]); (with_reducible repeat (first | apply Kd.R_alloc | apply Kd.R_drewN | apply Kd.R_drew)); exact HO_9.out⟩, ⟨by (try simp only [hl10_4]); (with_reducible repeat (first | apply Kd.R_alloc | apply Kd.R_drewN | apply Kd.R_drew)); exact HO_10.out⟩, ⟨by (try simp only [hl10_4]); refine bd_ ?_; exact BK417.out⟩, ⟨bw115_⟩⟩
      replace c97 := Bool.eq_false_iff.mpr c97
      subst c97
      rw [if_neg (show ¬ (false = true) by decide)] at H
      obtain ⟨c98b0, H⟩ := iq_ H
      obtain ⟨c99b0, H⟩ := iq_ H
      obtain ⟨c100b0, H⟩ := iq_ H
      obtain ⟨c101b0, H⟩ := iq_ H
      obtain ⟨y450, hy450⟩ : ∃ y_ : List Int, y_ = (x9_4.set (x12_3 : Int).toNat (wrap64 ((rd x9_4 x12_3) + (rd x9_4 x14_4)))) := ⟨_, rfl⟩
      replace H : (if x12_3 < (x8_4.length : Int) then (if (rd x8_4 x12_3) = 0 then (if x14_4 < (x8_4.length : Int) then (spec_l03Steps.l3 kj80 a1 x6_1 (x8_4.set (x12_3 : Int).toNat (wrap64 ((rd x8_4 x14_4) + 1))) y450 y441 x11_2 x12_3 (wrap64 (x14_4 + 1)) a0_0 l0_1) else (none)) else (if x14_4 < (x8_4.length : Int) then (if (wrap64 ((rd x8_4 x14_4) + 1)) < (rd x8_4 x12_3) then (spec_l03Steps.l3 kj80 a1 x6_1 (x8_4.set (x12_3 : Int).toNat (wrap64 ((rd x8_4 x14_4) + 1))) y450 y441 x11_2 x12_3 (wrap64 (x14_4 + 1)) a0_0 l0_1) else (spec_l03Steps.l3 kj80 a1 x6_1 x8_4 y450 y441 x11_2 x12_3 (wrap64 (x14_4 + 1)) a0_0 l0_1)) else (none))) else (none)) = some (r1, r2) := by first | (rw [hy450]; with_reducible exact H) | (have H2_ := (Option.bind_some _ _).symm.trans H; rw [hy450]; with_reducible exact H2_) | (have H2_ := (Option.bind_some _ _).symm.trans H; with_reducible exact H2_) | with_reducible exact H | (rw [hy450]; exact H) | exact H
      have Ny450 := Aside0.mk hy450
      clear hy450
      obtain ⟨c103b0, H⟩ := iq_ H
      by_cases c104 : (rd x8_4 x12_3) = 0
      ·rw [if_pos c104] at H
       have c104b0 : ((rd x8_4 x12_3) == 0) = true := beq_iff_eq.mpr c104
       have c104b1 : ((rd x8_4 x12_3) != 0) = false := bne_eq_false_iff_eq.mpr c104
       clear c104
       obtain ⟨c105b0, H⟩ := iq_ H
       obtain ⟨y453, hy453⟩ : ∃ y_ : List Int, y_ = (x8_4.set (x12_3 : Int).toNat (wrap64 ((rd x8_4 x14_4) + 1))) := ⟨_, rfl⟩
       replace H : (spec_l03Steps.l3 kj80 a1 x6_1 y453 y450 y441 x11_2 x12_3 (wrap64 (x14_4 + 1)) a0_0 l0_1) = some (r1, r2) := by first | (rw [hy453]; with_reducible exact H) | (have H2_ := (Option.bind_some _ _).symm.trans H; rw [hy453]; with_reducible exact H2_) | (have H2_ := (Option.bind_some _ _).symm.trans H; with_reducible exact H2_) | with_reducible exact H | (rw [hy453]; exact H) | exact H
       have Ny453 := Aside0.mk hy453
       clear hy453
       have H' := Aside0.mk H
       clear H
       go_wp2
       replace HO_6 := rw5_ HO_6
       replace HO_8 := rw5_ HO_8
       replace HO_9 := rw5_ HO_9
       replace HO_10 := rw5_ HO_10
       replace BK417 := ad_ BK417
       replace HB := Aside0.mk (below_drew1 HB.out)
       obtain ⟨Ao108, co108, eo108⟩ := Kd.R_slice HO_9.out
       subst eo108
       have p448 : 0 ≤ (x12_3 : Int) := oa_
       have q448 : x12_3 < (x9_4.length : Int) := oa_
       obtain ⟨ad448, e448, hx448_0⟩ := Kd.at_int (Kd.R_reads' HO_9.out).2.2 x12_3 p448 q448
       cases e448
       obtain ⟨p448, q448⟩ := et_ p448 q448
       have p449 : 0 ≤ (x14_4 : Int) := oa_
       have q449 : x14_4 < (x9_4.length : Int) := oa_
       obtain ⟨ad449, e449, hx449_0⟩ := Kd.at_int (Kd.R_reads' HO_9.out).2.2 x14_4 p449 q449
       obtain rfl : ad448 = ad449 := (by injection e449)
       obtain ⟨p449, q449⟩ := et_ p449 q449
       have p102 : 0 ≤ (x12_3 : Int) := oa_
       have q102 : (x12_3 : Int) < ((x9_4.length : Int) : Int) := oa_
       obtain ⟨go102, co102, eo102, gb102, gl102, cl102, HG102⟩ := Kd.R_form HO_9.out (by omega)
       (first | cases eo102 | (injection eo102 with ea_ en_ ec_; (first | subst ea_ | (injection ea_ with ea_; subst ea_)); subst ec_; clear en_))
       have GB102 := Aside0.mk gb102
       have GG102 := Aside0.mk HG102
       clear gb102 gl102 HG102
       simp only [add_plain] at hx448_0
       simp only [add_plain] at hx449_0
       obtain ⟨hx102_0, hf102_0⟩ := Kd.R_celln 0 HO_9.out (x12_3 : Int) p102 q102
       obtain ⟨p102, q102⟩ := et_ p102 q102
       have HP109 := Kd.R_putn HO_9.out (x12_3 : Int) (wrap64 ((rd x9_4 x12_3) + (rd x9_4 x14_4)))
       rw [← Ny450.out] at HP109
       have HQ109 := Aside0.mk HP109
       clear HP109
       refine start_ (n := 13) (S := fun w' => w'.cell? ⟨go102, (x12_3).toNat, none⟩ = some (.int .i64 (rd x9_4 x12_3)) ∧ w'.cell? ⟨go102, (x14_4).toNat, none⟩ = some (.int .i64 (rd x9_4 x14_4))) (ds := [12]) ba14_35 (by kernel_rfl) rfl rfl ⟨hx448_0, hx449_0⟩ (fun hHeld => ?_); refine with_tabW spec_l03Steps.tab28 spec_l03Steps.bits28 (fun HT_ HW_ => ?_)
       generalize wc.drew = w107 at HO_6 HO_8 HO_9 HO_10 BK417 HB GG102 HQ109 hf102_0 hx102_0 hx448_0 hx449_0 hHeld ⊢
       refine pz_ 0 132 ba14_36 HT_ ?_
       refine pz_ 1 133 ba14_37 HT_ ?_
       refine pz_ 2 134 ba14_38 HT_ ?_
       refine pz_ 3 135 ba14_39 HT_ ?_
       refine pz_ 4 136 ba14_40 HT_ ?_
       refine pz_ 6 138 ba14_41 HT_ ?_
       refine pz_ 7 139 ba14_42 HT_ ?_
       refine pz_ 8 140 ba14_43 HT_ ?_
       refine pt_ 5 137 ba14_44 HT_ HW_ hHeld ?_
       refine pt_ 9 141 ba14_45 HT_ HW_ hHeld ?_
       refine pz_ 10 142 ba14_46 HT_ ?_
       refine pz_ 11 143 ba14_47 HT_ ?_
       refine last_ (i := 12) (N := none) ba14_48 rfl rfl (one_of HT_.out (by kernel_rfl)) (by decide) (fun K hK => ?_)
       refine skip_ (w1 := ?_) (by rfl) rfl ?_ ?_
       rotate_left; · go_simp; rfl
       refine hK.out _ _ ?_
       clear hK K
       refine done_ (done_of HT_.out (by kernel_rfl)) ?_
       go_wp2
       generalize hW_ : (w107.setCell ⟨go102, (x12_3 : Int).toNat, none⟩ (.int .i64 (wrap64 ((rd x9_4 x12_3) + (rd x9_4 x14_4))))) = w110
       have n0_ : Aside0 (Kd.R (Kd.int .i64) 3 w110 w.heap.size (fun k_ => some k_ ≠ (v429 : Value).ownBlock ∧ some k_ ≠ (.slice (some ⟨go102, 0, none⟩) x9_4.length co108 : Value).ownBlock) u6 x6_1) := by subst hW_; exact ⟨hq_ (Kd.R_mono (Kd.R_far (p := ⟨go102, (x12_3 : Int).toNat, none⟩) (Kd.R_mono HO_6.out (fun k_ hk => (⟨hk, fun e_ => hk.2 (by rw [e_]; rfl)⟩ : _ ∧ k_ ≠ go102))) (fun _ hk => hk.2) (.int .i64 (wrap64 ((rd x9_4 x12_3) + (rd x9_4 x14_4))))) (fun _ hk => by first | exact ⟨hk.1.1, hk.1.2⟩ | grind))⟩
       have n1_ : Aside0 (Kd.R (Kd.int .i64) 3 w110 w.heap.size (fun k_ => some k_ ≠ (u6 : Value).ownBlock ∧ some k_ ≠ (.slice (some ⟨go102, 0, none⟩) x9_4.length co108 : Value).ownBlock) v429 x8_4) := by subst hW_; exact ⟨hq_ (Kd.R_mono (Kd.R_far (p := ⟨go102, (x12_3 : Int).toNat, none⟩) (Kd.R_mono HO_8.out (fun k_ hk => (⟨hk, fun e_ => hk.2 (by rw [e_]; rfl)⟩ : _ ∧ k_ ≠ go102))) (fun _ hk => hk.2) (.int .i64 (wrap64 ((rd x9_4 x12_3) + (rd x9_4 x14_4))))) (fun _ hk => by first | exact ⟨hk.1.1, hk.1.2⟩ | grind))⟩
       have n2_ : Aside0 (Kd.R (Kd.int .i64) 3 w110 w.heap.size (fun k_ => some k_ ≠ (u6 : Value).ownBlock ∧ some k_ ≠ (v429 : Value).ownBlock) (.slice (some ⟨go102, 0, none⟩) x9_4.length co108) y450) := by subst hW_; exact ⟨hq_ (HQ109.out)⟩
       have n3_ : Aside0 (Kd.R Kd.bool 4 w110 w.heap.size (fun _ => True) (.slice (some ⟨go63, 0, none⟩) y441.length co63) y441) := by subst hW_; exact ⟨hq_ (Kd.R_mono (Kd.R_far (p := ⟨go102, (x12_3 : Int).toNat, none⟩) (Kd.R_types HO_10.out GG102.out (by decide)) (fun _ hk => hk.2) (.int .i64 (wrap64 ((rd x9_4 x12_3) + (rd x9_4 x14_4))))) (fun _ hk => trivial))⟩
       have n4_ : Aside0 (w110.heap[gb417]? = some (.cells #[.int .i64 a0_0, .slice A0_1 l0_1.length c0_1] 30 (0, 0))) := by subst hW_; exact ⟨by refine bd_ ?_; refine blk_far ?_ (by have h_ := Kd.R_ne HO_9.out BK417.out (by decide); intro e_; exact h_ (by rw [e_]; rfl)) _; refine bd_ ?_; exact BK417.out⟩
       have n5_ : Aside0 (Below w.heap.size w w110) := by subst hW_; exact ⟨by repeat (first | (with_reducible first | exact HB.out | apply below_alloc | apply pw_below_drewN | apply below_drew1 | refine below_set ?_ GB102.out | refine below_set ?_ GE417.out) | exact HB.out)⟩
       clear hW_ HO_6 HO_8 HO_9 HO_10 BK417 HB
       have HO_6 := n0_
       have HO_8 := n1_
       have HO_9 := n2_
       have HO_10 := n3_
       have BK417 := n4_
       have HB := n5_
       clear n0_ n1_ n2_ n3_ n4_ n5_
       replace HO_6 := rw5_ HO_6
       replace HO_8 := rw5_ HO_8
       replace HO_9 := rw5_ HO_9
       replace HO_10 := rw5_ HO_10
       replace BK417 := ad_ BK417
       replace HB := Aside0.mk (below_drew1 HB.out)
       obtain ⟨Ao112, co112, eo112⟩ := Kd.R_slice HO_8.out
       subst eo112
       have p451 : 0 ≤ (x12_3 : Int) := oa_
       have q451 : x12_3 < (x8_4.length : Int) := oa_
       obtain ⟨ad451, e451, hx451_0⟩ := Kd.at_int (Kd.R_reads' HO_8.out).2.2 x12_3 p451 q451
       cases e451
       obtain ⟨p451, q451⟩ := et_ p451 q451
       refine start_ (n := 17) (S := fun w' => w'.cell? (ad451.add (x12_3).toNat) = some (.int .i64 (rd x8_4 x12_3))) (ds := []) ba14_49 (by kernel_rfl) rfl rfl (hx451_0) (fun hHeld => ?_); refine with_tabW spec_l03Steps.tab29 spec_l03Steps.bits29 (fun HT_ HW_ => ?_)
       generalize w110.drew = w111 at HO_6 HO_8 HO_9 HO_10 BK417 HB HQ109 hx451_0 hHeld ⊢
       refine pz_ 0 144 ba14_50 HT_ ?_
       refine pz_ 1 145 ba14_51 HT_ ?_
       refine pz_ 2 146 ba14_52 HT_ ?_
       refine take_ (i := 3) (N := some 147) (v := ?_) (a' := ?_) ba14_53 rfl rfl (take_ofW HT_.out HW_.out (by kernel_rfl)) (fun _ _ _ h => h) (Or.inl ⟨by rfl, ?_⟩) hHeld ?_ ?_
       rotate_left; · intro w' s0; go_simp; with_reducible rfl
       rotate_left; · simp only [Act.put, List.setIfInBounds_toArray, List.set_cons_zero, List.set_cons_succ, i64_w, i32_w]; rfl
       refine pz_ 4 148 ba14_54 HT_ ?_
       refine pz_ 5 149 ba14_55 HT_ ?_
       refine pu_ 6 150 ba14_56 HT_ ?_
       refine pu_ 7 151 ba14_57 HT_ ?_
       refine pu_ 8 152 ba14_58 HT_ ?_
       refine pu_ 9 153 ba14_59 HT_ ?_
       refine pu_ 10 154 ba14_60 HT_ ?_
       refine pu_ 11 155 ba14_61 HT_ ?_
       refine pu_ 12 156 ba14_62 HT_ ?_
       refine pu_ 13 157 ba14_63 HT_ ?_
       refine pu_ 14 158 ba14_64 HT_ ?_
       refine pu_ 15 159 ba14_65 HT_ ?_
       refine pz_ 16 160 ba14_66 HT_ ?_
       refine done_ (done_of HT_.out (by kernel_rfl)) ?_
       have p452 : 0 ≤ (x14_4 : Int) := oa_
       have q452 : x14_4 < (x8_4.length : Int) := oa_
       obtain ⟨ad452, e452, hx452_0⟩ := Kd.at_int (Kd.R_reads' HO_8.out).2.2 x14_4 p452 q452
       obtain rfl : ad451 = ad452 := (by injection e452)
       obtain ⟨p452, q452⟩ := et_ p452 q452
       have p106 : 0 ≤ (x12_3 : Int) := oa_
       have q106 : (x12_3 : Int) < ((x8_4.length : Int) : Int) := oa_
       obtain ⟨go106, co106, eo106, gb106, gl106, cl106, HG106⟩ := Kd.R_form HO_8.out (by omega)
       (first | cases eo106 | (injection eo106 with ea_ en_ ec_; (first | subst ea_ | (injection ea_ with ea_; subst ea_)); subst ec_; clear en_))
       have GB106 := Aside0.mk gb106
       have GG106 := Aside0.mk HG106
       clear gb106 gl106 HG106
       simp only [add_plain] at hx451_0
       simp only [add_plain] at hx452_0
       obtain ⟨hx106_0, hf106_0⟩ := Kd.R_celln 0 HO_8.out (x12_3 : Int) p106 q106
       obtain ⟨p106, q106⟩ := et_ p106 q106
       obtain ⟨hy113_, hz113_⟩ := Kd.R_celln 0 HO_8.out (x12_3 : Int) oa_ oa_
       have HP113 := Kd.R_putg HO_8.out (x12_3 : Int) (wrap64 ((rd x8_4 x14_4) + 1))
       try go_wp2_with ((with_reducible refine gate_store (t := 3) (p := 168) rfl ?_); refine store_event (t := 3) (p := 168) (v := ?vo_w114) (w1 := (w111.setCell ⟨go106, (x12_3 : Int).toNat, none⟩ (.int .i64 (wrap64 ((rd x8_4 x14_4) + 1))))) ?hg ?ho ?hn ?hr ?_; (case ho => rfl); (case hg => rfl); (case hn => rfl); (case hr => first | (go_simp; done) | (go_simp; rfl)); intro w114 hw; have hg : w111.grownBy w114 (some go106) := (by rw [hw]; exact HP113.2); have hp_ : Kd.R (Kd.int .i64) 3 w114 w.heap.size (fun k_ => some k_ ≠ (u6 : Value).ownBlock ∧ some k_ ≠ (.slice (some ⟨go102, 0, none⟩) x9_4.length co108 : Value).ownBlock) (.slice (some ⟨go106, 0, none⟩) x8_4.length co112) y453 := (by rw [hw, Ny453.out]; exact HP113.1); clear HP113; replace HO_6 := Aside0.mk (Kd.R_after (v := (.slice (some ⟨go106, 0, none⟩) x8_4.length co112)) (v1 := (.slice (some ⟨go106, 0, none⟩) x8_4.length co112)) (ok := (fun k_ => some k_ ≠ (.slice (some ⟨go102, 0, none⟩) x9_4.length co108 : Value).ownBlock)) (hq_ (Kd.R_mono HO_6.out (fun _ hk => by first | exact ⟨hk.2, hk.1⟩ | grind))) hg (.inl rfl)); replace HO_9 := Aside0.mk (Kd.R_after (v := (.slice (some ⟨go106, 0, none⟩) x8_4.length co112)) (v1 := (.slice (some ⟨go106, 0, none⟩) x8_4.length co112)) (ok := (fun k_ => some k_ ≠ (u6 : Value).ownBlock)) (hd_ HO_9) hg (.inl rfl)); replace HO_10 := Aside0.mk (Kd.R_over' (v := (.slice (some ⟨go106, 0, none⟩) x8_4.length co112)) (hd_ HO_10) (Kd.R_typed HO_8.out) (by decide) hg); replace BK417 := Aside0.mk (blk_grown (g := gb417) (o := .cells #[.int .i64 a0_0, .slice A0_1 l0_1.length c0_1] 30 (0, 0)) (bx_ BK417) hg (Kd.R_ne HO_8.out BK417.out (by decide))); replace HO_8 := Aside0.mk (hp_); replace HB := Aside0.mk ((by rw [hw]; exact below_set (HB.out) GB106.out : Below w.heap.size w w114)); clear hg hw hp_)
       (try simp only [← hl10_4])
       go_roundg kj80
       case measure => have := HK1.out; have := HK2.out; have := HK3.out; have := HK4.out; have := HJ80.out; omega
       case rel => exact ⟨(y453), (y450), (wrap64 (x14_4 + 1)), er_, H', ⟨by have := HK1.out; have := HK2.out; have := HK3.out; have := HK4.out; have := HJ80.out; omega⟩, ⟨by (try simp only [hl10_4]); (with_reducible repeat (first | apply Kd.R_alloc | apply Kd.R_drewN | apply Kd.R_drew)); exact Kd.R_mono HO_6.out (fun _ hk => by first | exact ⟨hk.2, hk.1⟩ | grind)⟩, ⟨by (try simp only [hl10_4]); (with_reducible repeat (first | apply Kd.R_alloc | apply Kd.R_drewN | apply Kd.R_drew)); exact HO_8.out⟩, ⟨by (try simp only [hl10_4]); (with_reducible repeat (first | apply Kd.R_alloc | apply Kd.R_drewN | apply Kd.R_drew)); exact HO_9.out⟩, ⟨by (try simp only [hl10_4]); (with_reducible repeat (first | apply Kd.R_alloc | apply Kd.R_drewN | apply Kd.R_drew)); exact HO_10.out⟩, ⟨by (try simp only [hl10_4]); refine bd_ ?_; exact BK417.out⟩, ⟨bw115_⟩⟩
      rw [if_neg c104] at H
      have c104b0 : ((rd x8_4 x12_3) == 0) = false := beq_eq_false_iff_ne.mpr c104
      have c104b1 : ((rd x8_4 x12_3) != 0) = true := bne_iff_ne.mpr c104
      obtain ⟨c115b0, H⟩ := iq_ H
      have Hh_ := Aside0.mk H
      clear H
      go_wp2
      replace HO_6 := rw5_ HO_6
      replace HO_8 := rw5_ HO_8
      replace HO_9 := rw5_ HO_9
      replace HO_10 := rw5_ HO_10
      replace BK417 := ad_ BK417
      replace HB := Aside0.mk (below_drew1 HB.out)
      obtain ⟨Ao119, co119, eo119⟩ := Kd.R_slice HO_9.out
      subst eo119
      have p448 : 0 ≤ (x12_3 : Int) := oa_
      have q448 : x12_3 < (x9_4.length : Int) := oa_
      obtain ⟨ad448, e448, hx448_0⟩ := Kd.at_int (Kd.R_reads' HO_9.out).2.2 x12_3 p448 q448
      cases e448
      obtain ⟨p448, q448⟩ := et_ p448 q448
      have p449 : 0 ≤ (x14_4 : Int) := oa_
      have q449 : x14_4 < (x9_4.length : Int) := oa_
      obtain ⟨ad449, e449, hx449_0⟩ := Kd.at_int (Kd.R_reads' HO_9.out).2.2 x14_4 p449 q449
      obtain rfl : ad448 = ad449 := (by injection e449)
      obtain ⟨p449, q449⟩ := et_ p449 q449
      have p102 : 0 ≤ (x12_3 : Int) := oa_
      have q102 : (x12_3 : Int) < ((x9_4.length : Int) : Int) := oa_
      obtain ⟨go102, co102, eo102, gb102, gl102, cl102, HG102⟩ := Kd.R_form HO_9.out (by omega)
      (first | cases eo102 | (injection eo102 with ea_ en_ ec_; (first | subst ea_ | (injection ea_ with ea_; subst ea_)); subst ec_; clear en_))
      have GB102 := Aside0.mk gb102
      have GG102 := Aside0.mk HG102
      clear gb102 gl102 HG102
      simp only [add_plain] at hx448_0
      simp only [add_plain] at hx449_0
      obtain ⟨hx102_0, hf102_0⟩ := Kd.R_celln 0 HO_9.out (x12_3 : Int) p102 q102
      obtain ⟨p102, q102⟩ := et_ p102 q102
      have HP120 := Kd.R_putn HO_9.out (x12_3 : Int) (wrap64 ((rd x9_4 x12_3) + (rd x9_4 x14_4)))
      rw [← Ny450.out] at HP120
      have HQ120 := Aside0.mk HP120
      clear HP120
      refine start_ (n := 13) (S := fun w' => w'.cell? ⟨go102, (x12_3).toNat, none⟩ = some (.int .i64 (rd x9_4 x12_3)) ∧ w'.cell? ⟨go102, (x14_4).toNat, none⟩ = some (.int .i64 (rd x9_4 x14_4))) (ds := [12]) ba14_35 (by kernel_rfl) rfl rfl ⟨hx448_0, hx449_0⟩ (fun hHeld => ?_); refine with_tabW spec_l03Steps.tab28 spec_l03Steps.bits28 (fun HT_ HW_ => ?_)
      generalize wc.drew = w118 at HO_6 HO_8 HO_9 HO_10 BK417 HB GG102 HQ120 hf102_0 hx102_0 hx448_0 hx449_0 hHeld ⊢
      refine pz_ 0 132 ba14_36 HT_ ?_
      refine pz_ 1 133 ba14_37 HT_ ?_
      refine pz_ 2 134 ba14_38 HT_ ?_
      refine pz_ 3 135 ba14_39 HT_ ?_
      refine pz_ 4 136 ba14_40 HT_ ?_
      refine pz_ 6 138 ba14_41 HT_ ?_
      refine pz_ 7 139 ba14_42 HT_ ?_
      refine pz_ 8 140 ba14_43 HT_ ?_
      refine pt_ 5 137 ba14_44 HT_ HW_ hHeld ?_
      refine pt_ 9 141 ba14_45 HT_ HW_ hHeld ?_
      refine pz_ 10 142 ba14_46 HT_ ?_
      refine pz_ 11 143 ba14_47 HT_ ?_
      refine last_ (i := 12) (N := none) ba14_48 rfl rfl (one_of HT_.out (by kernel_rfl)) (by decide) (fun K hK => ?_)
      refine skip_ (w1 := ?_) (by rfl) rfl ?_ ?_
      rotate_left; · go_simp; rfl
      refine hK.out _ _ ?_
      clear hK K
      refine done_ (done_of HT_.out (by kernel_rfl)) ?_
      go_wp2
      generalize hW_ : (w118.setCell ⟨go102, (x12_3 : Int).toNat, none⟩ (.int .i64 (wrap64 ((rd x9_4 x12_3) + (rd x9_4 x14_4))))) = w121
      have n0_ : Aside0 (Kd.R (Kd.int .i64) 3 w121 w.heap.size (fun k_ => some k_ ≠ (v429 : Value).ownBlock ∧ some k_ ≠ (.slice (some ⟨go102, 0, none⟩) x9_4.length co119 : Value).ownBlock) u6 x6_1) := by subst hW_; exact ⟨hq_ (Kd.R_mono (Kd.R_far (p := ⟨go102, (x12_3 : Int).toNat, none⟩) (Kd.R_mono HO_6.out (fun k_ hk => (⟨hk, fun e_ => hk.2 (by rw [e_]; rfl)⟩ : _ ∧ k_ ≠ go102))) (fun _ hk => hk.2) (.int .i64 (wrap64 ((rd x9_4 x12_3) + (rd x9_4 x14_4))))) (fun _ hk => by first | exact ⟨hk.1.1, hk.1.2⟩ | grind))⟩
      have n1_ : Aside0 (Kd.R (Kd.int .i64) 3 w121 w.heap.size (fun k_ => some k_ ≠ (u6 : Value).ownBlock ∧ some k_ ≠ (.slice (some ⟨go102, 0, none⟩) x9_4.length co119 : Value).ownBlock) v429 x8_4) := by subst hW_; exact ⟨hq_ (Kd.R_mono (Kd.R_far (p := ⟨go102, (x12_3 : Int).toNat, none⟩) (Kd.R_mono HO_8.out (fun k_ hk => (⟨hk, fun e_ => hk.2 (by rw [e_]; rfl)⟩ : _ ∧ k_ ≠ go102))) (fun _ hk => hk.2) (.int .i64 (wrap64 ((rd x9_4 x12_3) + (rd x9_4 x14_4))))) (fun _ hk => by first | exact ⟨hk.1.1, hk.1.2⟩ | grind))⟩
      have n2_ : Aside0 (Kd.R (Kd.int .i64) 3 w121 w.heap.size (fun k_ => some k_ ≠ (u6 : Value).ownBlock ∧ some k_ ≠ (v429 : Value).ownBlock) (.slice (some ⟨go102, 0, none⟩) x9_4.length co119) y450) := by subst hW_; exact ⟨hq_ (HQ120.out)⟩
      have n3_ : Aside0 (Kd.R Kd.bool 4 w121 w.heap.size (fun _ => True) (.slice (some ⟨go63, 0, none⟩) y441.length co63) y441) := by subst hW_; exact ⟨hq_ (Kd.R_mono (Kd.R_far (p := ⟨go102, (x12_3 : Int).toNat, none⟩) (Kd.R_types HO_10.out GG102.out (by decide)) (fun _ hk => hk.2) (.int .i64 (wrap64 ((rd x9_4 x12_3) + (rd x9_4 x14_4))))) (fun _ hk => trivial))⟩
      have n4_ : Aside0 (w121.heap[gb417]? = some (.cells #[.int .i64 a0_0, .slice A0_1 l0_1.length c0_1] 30 (0, 0))) := by subst hW_; exact ⟨by refine bd_ ?_; refine blk_far ?_ (by have h_ := Kd.R_ne HO_9.out BK417.out (by decide); intro e_; exact h_ (by rw [e_]; rfl)) _; refine bd_ ?_; exact BK417.out⟩
      have n5_ : Aside0 (Below w.heap.size w w121) := by subst hW_; exact ⟨by repeat (first | (with_reducible first | exact HB.out | apply below_alloc | apply pw_below_drewN | apply below_drew1 | refine below_set ?_ GB102.out | refine below_set ?_ GE417.out) | exact HB.out)⟩
      clear hW_ HO_6 HO_8 HO_9 HO_10 BK417 HB
      have HO_6 := n0_
      have HO_8 := n1_
      have HO_9 := n2_
      have HO_10 := n3_
      have BK417 := n4_
      have HB := n5_
      clear n0_ n1_ n2_ n3_ n4_ n5_
      replace HO_6 := rw5_ HO_6
      replace HO_8 := rw5_ HO_8
      replace HO_9 := rw5_ HO_9
      replace HO_10 := rw5_ HO_10
      replace BK417 := ad_ BK417
      replace HB := Aside0.mk (below_drew1 HB.out)
      obtain ⟨Ao123, co123, eo123⟩ := Kd.R_slice HO_8.out
      subst eo123
      have p451 : 0 ≤ (x12_3 : Int) := oa_
      have q451 : x12_3 < (x8_4.length : Int) := oa_
      obtain ⟨ad451, e451, hx451_0⟩ := Kd.at_int (Kd.R_reads' HO_8.out).2.2 x12_3 p451 q451
      cases e451
      obtain ⟨p451, q451⟩ := et_ p451 q451
      have p454 : 0 ≤ (x14_4 : Int) := oa_
      have q454 : x14_4 < (x8_4.length : Int) := oa_
      obtain ⟨ad454, e454, hx454_0⟩ := Kd.at_int (Kd.R_reads' HO_8.out).2.2 x14_4 p454 q454
      obtain rfl : ad451 = ad454 := (by injection e454)
      obtain ⟨p454, q454⟩ := et_ p454 q454
      have p455 : 0 ≤ (x12_3 : Int) := oa_
      have q455 : x12_3 < (x8_4.length : Int) := oa_
      obtain ⟨ad455, e455, hx455_0⟩ := Kd.at_int (Kd.R_reads' HO_8.out).2.2 x12_3 p455 q455
      obtain rfl : ad451 = ad455 := (by injection e455)
      obtain ⟨p455, q455⟩ := et_ p455 q455
      refine start_ (n := 17) (S := fun w' => w'.cell? (ad451.add (x12_3).toNat) = some (.int .i64 (rd x8_4 x12_3)) ∧ w'.cell? (ad451.add (x14_4).toNat) = some (.int .i64 (rd x8_4 x14_4)) ∧ w'.cell? (ad451.add (x12_3).toNat) = some (.int .i64 (rd x8_4 x12_3))) (ds := []) ba14_49 (by kernel_rfl) rfl rfl ⟨hx451_0, hx454_0, hx455_0⟩ (fun hHeld => ?_); refine with_tabW spec_l03Steps.tab29 spec_l03Steps.bits29 (fun HT_ HW_ => ?_)
      generalize w121.drew = w122 at HO_6 HO_8 HO_9 HO_10 BK417 HB HQ120 hx451_0 hx454_0 hx455_0 hHeld ⊢
      have H := Hh_.out
      clear Hh_
      by_cases c116 : (wrap64 ((rd x8_4 x14_4) + 1)) < (rd x8_4 x12_3)
      rotate_left
      ·rw [if_neg c116] at H
       have c116b0 : decide ((wrap64 ((rd x8_4 x14_4) + 1)) < (rd x8_4 x12_3)) = false := decide_eq_false c116
       clear c116
       have H' := Aside0.mk H
       clear H
       refine pz_ 0 144 ba14_50 HT_ ?_
       refine pz_ 1 145 ba14_51 HT_ ?_
       refine pz_ 2 146 ba14_52 HT_ ?_
       refine pt_ 3 147 ba14_53 HT_ HW_ hHeld ?_
       refine pz_ 4 148 ba14_54 HT_ ?_
       refine pz_ 5 149 ba14_55 HT_ ?_
       refine pz_ 6 150 ba14_56 HT_ ?_
       refine pz_ 7 151 ba14_57 HT_ ?_
       refine pz_ 8 152 ba14_58 HT_ ?_
       refine pz_ 11 155 ba14_67 HT_ ?_
       refine pz_ 12 156 ba14_68 HT_ ?_
       refine pz_ 13 157 ba14_69 HT_ ?_
       refine pt_ 9 153 ba14_70 HT_ HW_ hHeld ?_
       refine pz_ 10 154 ba14_63 HT_ ?_
       refine pt_ 14 158 ba14_64 HT_ HW_ hHeld ?_
       refine pz_ 15 159 ba14_65 HT_ ?_
       refine pz_ 16 160 ba14_66 HT_ ?_
       refine done_ (done_of HT_.out (by kernel_rfl)) ?_
       go_wp2
       (try simp only [← hl10_4])
       go_roundg kj80
       case measure => have := HK1.out; have := HK2.out; have := HK3.out; have := HK4.out; have := HJ80.out; omega
       case rel => exact ⟨(x8_4), (y450), (wrap64 (x14_4 + 1)), er_, H', ⟨by have := HK1.out; have := HK2.out; have := HK3.out; have := HK4.out; have := HJ80.out; omega⟩, ⟨by (try simp only [hl10_4]); (with_reducible repeat (first | apply Kd.R_alloc | apply Kd.R_drewN | apply Kd.R_drew)); exact HO_6.out⟩, ⟨by (try simp only [hl10_4]); (with_reducible repeat (first | apply Kd.R_alloc | apply Kd.R_drewN | apply Kd.R_drew)); exact HO_8.out⟩, ⟨by (try simp only [hl10_4]); (with_reducible repeat (first | apply Kd.R_alloc | apply Kd.R_drewN | apply Kd.R_drew)); exact HO_9.out⟩, ⟨by (try simp only [hl10_4]); (with_reducible repeat (first | apply Kd.R_alloc | apply Kd.R_drewN | apply Kd.R_drew)); exact HO_10.out⟩, ⟨by (try simp only [hl10_4]); refine bd_ ?_; exact BK417.out⟩, ⟨bw115_⟩⟩
      rw [if_pos c116] at H
      have c116b0 : decide ((wrap64 ((rd x8_4 x14_4) + 1)) < (rd x8_4 x12_3)) = true := decide_eq_true c116
      clear c116
      obtain ⟨y457, hy457⟩ : ∃ y_ : List Int, y_ = (x8_4.set (x12_3 : Int).toNat (wrap64 ((rd x8_4 x14_4) + 1))) := ⟨_, rfl⟩
      replace H : (spec_l03Steps.l3 kj80 a1 x6_1 y457 y450 y441 x11_2 x12_3 (wrap64 (x14_4 + 1)) a0_0 l0_1) = some (r1, r2) := by first | (rw [hy457]; with_reducible exact H) | (have H2_ := (Option.bind_some _ _).symm.trans H; rw [hy457]; with_reducible exact H2_) | (have H2_ := (Option.bind_some _ _).symm.trans H; with_reducible exact H2_) | with_reducible exact H | (rw [hy457]; exact H) | exact H
      have Ny457 := Aside0.mk hy457
      clear hy457
      have H' := Aside0.mk H
      clear H
      refine pz_ 0 144 ba14_50 HT_ ?_
      refine pz_ 1 145 ba14_51 HT_ ?_
      refine pz_ 2 146 ba14_52 HT_ ?_
      refine pt_ 3 147 ba14_53 HT_ HW_ hHeld ?_
      refine pz_ 4 148 ba14_54 HT_ ?_
      refine pz_ 5 149 ba14_55 HT_ ?_
      refine pz_ 6 150 ba14_56 HT_ ?_
      refine pz_ 7 151 ba14_57 HT_ ?_
      refine pz_ 8 152 ba14_58 HT_ ?_
      refine pz_ 11 155 ba14_67 HT_ ?_
      refine pz_ 12 156 ba14_68 HT_ ?_
      refine pz_ 13 157 ba14_69 HT_ ?_
      refine pt_ 9 153 ba14_70 HT_ HW_ hHeld ?_
      refine pz_ 10 154 ba14_63 HT_ ?_
      refine pt_ 14 158 ba14_64 HT_ HW_ hHeld ?_
      refine pz_ 15 159 ba14_65 HT_ ?_
      refine pz_ 16 160 ba14_66 HT_ ?_
      refine done_ (done_of HT_.out (by kernel_rfl)) ?_
      have p456 : 0 ≤ (x14_4 : Int) := oa_
      have q456 : x14_4 < (x8_4.length : Int) := oa_
      obtain ⟨ad456, e456, hx456_0⟩ := Kd.at_int (Kd.R_reads' HO_8.out).2.2 x14_4 p456 q456
      obtain rfl : ad451 = ad456 := (by injection e456)
      obtain ⟨p456, q456⟩ := et_ p456 q456
      have p117 : 0 ≤ (x12_3 : Int) := oa_
      have q117 : (x12_3 : Int) < ((x8_4.length : Int) : Int) := oa_
      obtain ⟨go117, co117, eo117, gb117, gl117, cl117, HG117⟩ := Kd.R_form HO_8.out (by omega)
      (first | cases eo117 | (injection eo117 with ea_ en_ ec_; (first | subst ea_ | (injection ea_ with ea_; subst ea_)); subst ec_; clear en_))
      have GB117 := Aside0.mk gb117
      have GG117 := Aside0.mk HG117
      clear gb117 gl117 HG117
      simp only [add_plain] at hx451_0
      simp only [add_plain] at hx454_0
      simp only [add_plain] at hx455_0
      simp only [add_plain] at hx456_0
      obtain ⟨hx117_0, hf117_0⟩ := Kd.R_celln 0 HO_8.out (x12_3 : Int) p117 q117
      obtain ⟨p117, q117⟩ := et_ p117 q117
      obtain ⟨hy124_, hz124_⟩ := Kd.R_celln 0 HO_8.out (x12_3 : Int) oa_ oa_
      have HP124 := Kd.R_putg HO_8.out (x12_3 : Int) (wrap64 ((rd x8_4 x14_4) + 1))
      try go_wp2_with ((with_reducible refine gate_store (t := 3) (p := 168) rfl ?_); refine store_event (t := 3) (p := 168) (v := ?vo_w125) (w1 := (w122.setCell ⟨go117, (x12_3 : Int).toNat, none⟩ (.int .i64 (wrap64 ((rd x8_4 x14_4) + 1))))) ?hg ?ho ?hn ?hr ?_; (case ho => rfl); (case hg => rfl); (case hn => rfl); (case hr => first | (go_simp; done) | (go_simp; rfl)); intro w125 hw; have hg : w122.grownBy w125 (some go117) := (by rw [hw]; exact HP124.2); have hp_ : Kd.R (Kd.int .i64) 3 w125 w.heap.size (fun k_ => some k_ ≠ (u6 : Value).ownBlock ∧ some k_ ≠ (.slice (some ⟨go102, 0, none⟩) x9_4.length co119 : Value).ownBlock) (.slice (some ⟨go117, 0, none⟩) x8_4.length co123) y457 := (by rw [hw, Ny457.out]; exact HP124.1); clear HP124; replace HO_6 := Aside0.mk (Kd.R_after (v := (.slice (some ⟨go117, 0, none⟩) x8_4.length co123)) (v1 := (.slice (some ⟨go117, 0, none⟩) x8_4.length co123)) (ok := (fun k_ => some k_ ≠ (.slice (some ⟨go102, 0, none⟩) x9_4.length co119 : Value).ownBlock)) (hq_ (Kd.R_mono HO_6.out (fun _ hk => by first | exact ⟨hk.2, hk.1⟩ | grind))) hg (.inl rfl)); replace HO_9 := Aside0.mk (Kd.R_after (v := (.slice (some ⟨go117, 0, none⟩) x8_4.length co123)) (v1 := (.slice (some ⟨go117, 0, none⟩) x8_4.length co123)) (ok := (fun k_ => some k_ ≠ (u6 : Value).ownBlock)) (hd_ HO_9) hg (.inl rfl)); replace HO_10 := Aside0.mk (Kd.R_over' (v := (.slice (some ⟨go117, 0, none⟩) x8_4.length co123)) (hd_ HO_10) (Kd.R_typed HO_8.out) (by decide) hg); replace BK417 := Aside0.mk (blk_grown (g := gb417) (o := .cells #[.int .i64 a0_0, .slice A0_1 l0_1.length c0_1] 30 (0, 0)) (bx_ BK417) hg (Kd.R_ne HO_8.out BK417.out (by decide))); replace HO_8 := Aside0.mk (hp_); replace HB := Aside0.mk ((by rw [hw]; exact below_set (HB.out) GB117.out : Below w.heap.size w w125)); clear hg hw hp_)
      (try simp only [← hl10_4])
      go_roundg kj80
      case measure => have := HK1.out; have := HK2.out; have := HK3.out; have := HK4.out; have := HJ80.out; omega
      case rel => exact ⟨(y457), (y450), (wrap64 (x14_4 + 1)), er_, H', ⟨by have := HK1.out; have := HK2.out; have := HK3.out; have := HK4.out; have := HJ80.out; omega⟩, ⟨by (try simp only [hl10_4]); (with_reducible repeat (first | apply Kd.R_alloc | apply Kd.R_drewN | apply Kd.R_drew)); exact Kd.R_mono HO_6.out (fun _ hk => by first | exact ⟨hk.2, hk.1⟩ | grind)⟩, ⟨by (try simp only [hl10_4]); (with_reducible repeat (first | apply Kd.R_alloc | apply Kd.R_drewN | apply Kd.R_drew)); exact HO_8.out⟩, ⟨by (try simp only [hl10_4]); (with_reducible repeat (first | apply Kd.R_alloc | apply Kd.R_drewN | apply Kd.R_drew)); exact HO_9.out⟩, ⟨by (try simp only [hl10_4]); (with_reducible repeat (first | apply Kd.R_alloc | apply Kd.R_drewN | apply Kd.R_drew)); exact HO_10.out⟩, ⟨by (try simp only [hl10_4]); refine bd_ ?_; exact BK417.out⟩, ⟨bw115_⟩⟩
end Go.Proofs.Ythmahcohcphljaa.QFnCheapest
