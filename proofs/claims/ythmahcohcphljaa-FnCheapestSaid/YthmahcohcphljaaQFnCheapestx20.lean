/- Contracts of functions that the law reaches: what each call returns and what it leaves in memory. Made by this session over the print of the kit. -/
import Derived.Test.YthmahcohcphljaaQFnCheapestx0
import Derived.Test.YthmahcohcphljaaQFnCheapestx3
import Derived.Test.YthmahcohcphljaaQFnCheapestx4
import Derived.Test.YthmahcohcphljaaQFnCheapestx5
import Derived.Test.YthmahcohcphljaaQFnCheapestx7
import Derived.Test.YthmahcohcphljaaQFnCheapestx18
namespace Go.Proofs.Ythmahcohcphljaa.QFnCheapest
open Go.RowKit Go.Proofs.YthmahcohcphljaaC.PrintWords Go.Proofs.YthmahcohcphljaaC.PrintLast Go.Proofs.YthmahcohcphljaaC.PrintMore
attribute [local go_sem] max2_int min2_int max_two min_two max_three min_three max_four min_four
set_option linter.unusedVariables false
set_option linter.unusedSimpArgs false
def ba20_0 := bs_ 19 0
def ba20_1 := bs_ 19 1
def ba20_2 := bs_ 19 5
def ba20_3 := bs_ 19 7
def ba20_4 := bs_ 19 15
def ba20_5 := bs_ 19 31
def ba20_6 := bs_ 19 95
def ba20_7 := bs_ 19 607
def ba20_8 := bs_ 19 8799
def ba20_9 := bs_ 19 8831
def ba20_10 := bs_ 19 8959
def ba20_11 := bs_ 19 9215
def ba20_12 := bs_ 19 10239
def ba20_13 := bs_ 19 12287
def ba20_14 := bs_ 19 16383
def ba20_15 := bs_ 19 32767
def ba20_16 := bs_ 19 65535
def ba20_17 := bs_ 19 131071
def ba20_18 := bs_ 19 262143
def ba20_19 := bs_ 19 524287
def ba20_20 := bs_ 12 0
def ba20_21 := bs_ 12 1
def ba20_22 := bs_ 12 3
def ba20_23 := bs_ 12 35
def ba20_24 := bs_ 12 99
def ba20_25 := bs_ 12 227
def ba20_26 := bs_ 12 231
def ba20_27 := bs_ 12 239
def ba20_28 := bs_ 12 255
def ba20_29 := bs_ 12 511
def ba20_30 := bs_ 12 1023
def ba20_31 := bs_ 12 2047
def ba20_32 := bs_ 12 4095
def ba20_33 := bs_ 19 63
def ba20_34 := bs_ 19 127
def ba20_35 := bs_ 19 255
def ba20_36 := bs_ 19 511
def ba20_37 := bs_ 19 1023
def ba20_38 := bs_ 19 2047
def ba20_39 := bs_ 19 4095
def ba20_40 := bs_ 19 8191
mutual
def impl_CountWays.j0 : Nat → Int → Int → Bool → Int → List (S76) → Option (Int)
 | 0, _, _, _, _, _ => none
 | k + 1, x1, x2, x29, x559000, x559001 => if x29 = true then (some (-1)) else ((impl_Graph_distances.f k x559000 x559001 x1).bind fun t562 => (impl_CountWays.l0 k x1 x2 (([] : List Int)) x559000 0 x559000 x559001 t562))
def impl_CountWays.l0 : Nat → Int → Int → List Int → Int → Int → Int → List (S76) → List Int → Option (Int)
 | 0, _, _, _, _, _, _, _, _ => none
 | k + 1, x1, x2, x8, x35, x36, x559000, x559001, x566000 => if x36 < x35 then (if 0 ≤ x36 then (if x36 < (x566000.length : Int) then (if (rd x566000 x36) < 1000000 then (if x8.length < 17592186044416 then (impl_CountWays.l0 k x1 x2 (x8 ++ [x36]) x35 (wrap64 (x36 + 1)) x559000 x559001 x566000) else (none)) else (impl_CountWays.l0 k x1 x2 x8 x35 (wrap64 (x36 + 1)) x559000 x559001 x566000)) else (none)) else (none)) else ((slices_SortFunc_int_int.f k x8 [x566000]).bind fun t573 => (if 0 ≤ x559000 then (if (x559000 : Int).toNat ≤ 35184372088832 then ((some (List.replicate (x559000 : Int).toNat 0 : List Int)).bind fun y574 => (if 0 ≤ x1 then (if x1 < (y574.length : Int) then (impl_CountWays.l1 k x2 (y574.set (x1 : Int).toNat 1) t573 (x8.length : Int) 0 x559000 x559001 x566000) else (none)) else (none))) else (none)) else (none)))
def impl_CountWays.l1 : Nat → Int → List Int → List Int → Int → Int → Int → List (S76) → List Int → Option (Int)
 | 0, _, _, _, _, _, _, _, _ => none
 | k + 1, x2, x10, x58, x59, x60, x559000, x559001, x566000 => if x60 < x59 then (if 0 ≤ x60 then (if x60 < (x58.length : Int) then (impl_CountWays.l2 k x2 x10 (rd x58 x60) x58 x59 x60 x559001 (x559001.length : Int) 0 x559000 x559001 x566000) else (none)) else (none)) else (if 0 ≤ x2 then (if x2 < (x10.length : Int) then (some (rd x10 x2)) else (none)) else (none))
def impl_CountWays.l2 : Nat → Int → List Int → Int → List Int → Int → Int → List (S76) → Int → Int → Int → List (S76) → List Int → Option (Int)
 | 0, _, _, _, _, _, _, _, _, _, _, _, _ => none
 | k + 1, x2, x10, x12, x58, x59, x60, x65, x66, x67, x559000, x559001, x566000 => if x67 < x66 then (if 0 ≤ x67 then (if x67 < (x65.length : Int) then (if ((rd_T76 x65 x67).f0) = x12 then (if 0 ≤ x12 then (if x12 < (x566000.length : Int) then (if 0 ≤ ((rd_T76 x65 x67).f1) then (if ((rd_T76 x65 x67).f1) < (x566000.length : Int) then (if (wrap64 ((rd x566000 x12) + ((rd_T76 x65 x67).f2))) = (rd x566000 ((rd_T76 x65 x67).f1)) then (if ((rd_T76 x65 x67).f1) < (x10.length : Int) then (if x12 < (x10.length : Int) then (impl_CountWays.l2 k x2 (x10.set (((rd_T76 x65 x67).f1) : Int).toNat (wrap64 ((rd x10 ((rd_T76 x65 x67).f1)) + (rd x10 x12)))) x12 x58 x59 x60 x65 x66 (wrap64 (x67 + 1)) x559000 x559001 x566000) else (none)) else (none)) else (impl_CountWays.l2 k x2 x10 x12 x58 x59 x60 x65 x66 (wrap64 (x67 + 1)) x559000 x559001 x566000)) else (none)) else (none)) else (none)) else (none)) else (impl_CountWays.l2 k x2 x10 x12 x58 x59 x60 x65 x66 (wrap64 (x67 + 1)) x559000 x559001 x566000)) else (none)) else (none)) else (impl_CountWays.l1 k x2 x10 x58 x59 (wrap64 (x60 + 1)) x559000 x559001 x566000)
end
def impl_CountWays.f (k : Nat) (a0_0 : Int) (l0_1 : List (S76)) (a1 : Int) (a2 : Int) : Option (Int) := (impl_GraphOk.f k a0_0 l0_1).bind fun t559 => (if t559 = true then ((impl_Graph_isNode.f a0_0 l0_1 a1).bind fun t560 => (if t560 = true then ((impl_Graph_isNode.f a0_0 l0_1 a2).bind fun t561 => (impl_CountWays.j0 k a1 a2 (!t561) a0_0 l0_1)) else (impl_CountWays.j0 k a1 a2 true a0_0 l0_1))) else (impl_CountWays.j0 k a1 a2 true a0_0 l0_1))
def impl_CountWays.T20 : Bool × List (List Nat × List Nat) := (true, [([], []), ([0], [0]), ([], []), ([1, 2], [1, 2]), ([3], [3]), ([4], [4]), ([4], [4]), ([5, 6, 4], [4, 5, 6]), ([7, 4], [4, 7]), ([4], [4]), ([9, 4], [4, 9]), ([8, 10, 4], [4, 8, 10]), ([4], [4]), ([4], [4]), ([13, 4], [4, 13]), ([12, 14, 4], [4, 12, 14]), ([15, 4], [4, 15]), ([11, 16, 4], [4, 11, 16]), ([4, 17], [4, 17])])
def impl_CountWays.B20 : List Nat := [0, 1, 0, 7, 15, 31, 31, 127, 255, 31, 543, 2047, 31, 31, 8223, 28703, 61471, 131071, 262143]
theorem impl_CountWays.tab20 : rtab .any (opsOf Try.f41 20) = impl_CountWays.T20 := by kernel_rfl
theorem impl_CountWays.bits20 : waitsOk impl_CountWays.T20.2 impl_CountWays.B20 = true := by kernel_rfl
def impl_CountWays.T21 : Bool × List (List Nat × List Nat) := (true, [([], []), ([], []), ([1], [1]), ([0, 2], [0, 2]), ([3], [3]), ([], []), ([], []), ([5, 6], [5, 6]), ([7], [7]), ([4, 8], [4, 8]), ([0, 2, 0, 1, 2, 3, 4, 5, 6, 7, 8, 9], [0, 2]), ([10, 9, 0, 1, 2, 3, 4, 5, 6, 7, 8, 9], [9, 10])])
def impl_CountWays.B21 : List Nat := [0, 0, 2, 7, 15, 0, 0, 96, 224, 511, 1023, 2047]
theorem impl_CountWays.tab21 : rtab .any (opsOf Try.f41 21) = impl_CountWays.T21 := by kernel_rfl
theorem impl_CountWays.bits21 : waitsOk impl_CountWays.T21.2 impl_CountWays.B21 = true := by kernel_rfl
set_option maxHeartbeats 8000000 in
set_option maxRecDepth 100000 in
theorem impl_CountWays.calls (k : Nat) (a0_0 : Int) (A0_1 : Option Addr) (c0_1 : Nat) (l0_1 : List (S76)) (a1 : Int) (a2 : Int) (r : Int) (w : World) (hr0_1 : Kd.C k76 w A0_1 l0_1.length l0_1) (hc0_1 : l0_1.length ≤ c0_1) (h : impl_CountWays.f k a0_0 l0_1 a1 a2 = some r) :
  Calls Try.prog 41 #[.agg #[.int .i64 a0_0, .slice A0_1 l0_1.length c0_1], .int .i64 a1, .int .i64 a2] w fun e w' => e = .returned (.int .i64 r) ∧ Below w.heap.size w w' := by
 have hu30 := Try.underlying30
 have hu76 := Try.underlying76
 have HR0_1 := Aside0.mk hr0_1
 have HC0_1 := Aside0.mk hc0_1
 clear hr0_1 hc0_1
 have HB := Aside0.mk (Below.refl w.heap.size w)
 have H : ((impl_GraphOk.f k a0_0 l0_1).bind fun t559 => (if t559 = true then ((impl_Graph_isNode.f a0_0 l0_1 a1).bind fun t560 => (if t560 = true then ((impl_Graph_isNode.f a0_0 l0_1 a2).bind fun t561 => (impl_CountWays.j0 k a1 a2 (!t561) a0_0 l0_1)) else (impl_CountWays.j0 k a1 a2 true a0_0 l0_1))) else (impl_CountWays.j0 k a1 a2 true a0_0 l0_1))) = some r := h
 clear h
 have HC4 := Aside0.mk H
 clear H
 go_enter Try.func41, Try.ntmps41
 go_upto_region 1 with ((with_reducible refine gate_dst (N := 3) rfl ?_); refine be_ 3 #[.int .i64 a0_0, .slice A0_1 l0_1.length c0_1] 30 ?_; intro gb558 hg w5 BK558 hb; have GW558 := ge_ HB hg; have GE558 := ge_ HB hg; replace HB := at_ HB hb; clear hb hg)
 (try simp only [Act.put, List.setIfInBounds_toArray, List.set_cons_zero, List.set_cons_succ])
 go_cut [29] (fun v29 wc => ∃ (kq : Nat) (x29_3 : Bool), v29 = .bool x29_3 ∧ Aside0 (impl_CountWays.j0 kq a1 a2 x29_3 a0_0 l0_1 = some r) ∧ Aside0 (kq ≤ k) ∧ Aside0 (wc.heap[gb558]? = some (.cells #[.int .i64 a0_0, (.slice A0_1 l0_1.length c0_1)] 30 (0, 0))) ∧ Aside0 (Below w.heap.size w wc))
 case first =>
  have H := HC4.out
  clear HC4
  obtain ⟨t559, A6, H⟩ := ob_ H
  by_cases c7 : t559 = true
  rotate_left
  ·replace c7 := Bool.eq_false_iff.mpr c7
   subst c7
   rw [if_neg (show ¬ (false = true) by decide)] at H
   have H' := Aside0.mk H
   clear H
   have hcz21_0 := cz_ BK558 0 (.int .i64 a0_0)
   have hcz21_1 := cz_ BK558 1 (.slice A0_1 l0_1.length c0_1)
   have hfz21_0 := fz_ BK558 0
   have hfz21_1 := fz_ BK558 1
   go_wp2_with ((with_reducible refine gate_callee (f := 47) rfl ?_); refine gl_ (some 16) Try.func47 #[.agg #[.int .i64 a0_0, .slice A0_1 l0_1.length c0_1]] ?_; (with_reducible refine (impl_GraphOk.calls k a0_0 _ _ l0_1 false _ ?side1 ?side2 A6.out).mono ?_); (case side1 => exact cb_ HR0_1 HB); (case side2 => exact HC0_1.out); rintro e w22 ⟨rfl, hb⟩; refine ⟨_, rfl, ?_⟩; replace BK558 := ab_ BK558 hb; replace HB := at_ HB hb; clear hb)
   go_meet
   case rel => exact ⟨_, (true), er_, H', ⟨by first | omega | exact Nat.le_refl _⟩, ⟨bx_ BK558⟩, ⟨bw115_⟩⟩
  subst c7
  rw [if_pos rfl] at H
  obtain ⟨t560, A8, H⟩ := ob_ H
  by_cases c9 : t560 = true
  rotate_left
  ·replace c9 := Bool.eq_false_iff.mpr c9
   subst c9
   rw [if_neg (show ¬ (false = true) by decide)] at H
   have H' := Aside0.mk H
   clear H
   have hcz17_0 := cz_ BK558 0 (.int .i64 a0_0)
   have hcz17_1 := cz_ BK558 1 (.slice A0_1 l0_1.length c0_1)
   have hfz17_0 := fz_ BK558 0
   have hfz17_1 := fz_ BK558 1
   go_wp2_with (first | ((with_reducible refine gate_callee (f := 47) rfl ?_); refine gl_ (some 16) Try.func47 #[.agg #[.int .i64 a0_0, .slice A0_1 l0_1.length c0_1]] ?_; (with_reducible refine (impl_GraphOk.calls k a0_0 _ _ l0_1 true _ ?side1 ?side2 A6.out).mono ?_); (case side1 => exact cb_ HR0_1 HB); (case side2 => exact HC0_1.out); rintro e w18 ⟨rfl, hb⟩; refine ⟨_, rfl, ?_⟩; replace BK558 := ab_ BK558 hb; replace HB := at_ HB hb; clear hb; have hcz19_0 := cz_ BK558 0 (.int .i64 a0_0); have hcz19_1 := cz_ BK558 1 (.slice A0_1 l0_1.length c0_1); have hfz19_0 := fz_ BK558 0; have hfz19_1 := fz_ BK558 1) | (go_at_call 48; (with_reducible refine (impl_Graph_isNode.calls a0_0 _ _ l0_1 a1 false _ ?side1 ?side2 A8.out).mono ?_); (case side1 => exact cb_ HR0_1 HB); (case side2 => exact HC0_1.out); rintro e w20 ⟨rfl, hb⟩; replace BK558 := ab_ BK558 hb; replace HB := at_ HB hb; clear hb))
   go_meet
   case rel => exact ⟨_, (true), er_, H', ⟨by first | omega | exact Nat.le_refl _⟩, ⟨bx_ BK558⟩, ⟨bw115_⟩⟩
  subst c9
  rw [if_pos rfl] at H
  obtain ⟨t561, A10, H⟩ := ob_ H
  have H' := Aside0.mk H
  clear H
  have hcz11_0 := cz_ BK558 0 (.int .i64 a0_0)
  have hcz11_1 := cz_ BK558 1 (.slice A0_1 l0_1.length c0_1)
  have hfz11_0 := fz_ BK558 0
  have hfz11_1 := fz_ BK558 1
  go_wp2_with (first | ((with_reducible refine gate_callee (f := 47) rfl ?_); refine gl_ (some 16) Try.func47 #[.agg #[.int .i64 a0_0, .slice A0_1 l0_1.length c0_1]] ?_; (with_reducible refine (impl_GraphOk.calls k a0_0 _ _ l0_1 true _ ?side1 ?side2 A6.out).mono ?_); (case side1 => exact cb_ HR0_1 HB); (case side2 => exact HC0_1.out); rintro e w12 ⟨rfl, hb⟩; refine ⟨_, rfl, ?_⟩; replace BK558 := ab_ BK558 hb; replace HB := at_ HB hb; clear hb; have hcz13_0 := cz_ BK558 0 (.int .i64 a0_0); have hcz13_1 := cz_ BK558 1 (.slice A0_1 l0_1.length c0_1); have hfz13_0 := fz_ BK558 0; have hfz13_1 := fz_ BK558 1) | (go_at_call 48; (with_reducible refine (impl_Graph_isNode.calls a0_0 _ _ l0_1 a1 true _ ?side1 ?side2 A8.out).mono ?_); (case side1 => exact cb_ HR0_1 HB); (case side2 => exact HC0_1.out); rintro e w14 ⟨rfl, hb⟩; replace BK558 := ab_ BK558 hb; replace HB := at_ HB hb; clear hb; have hcz15_0 := cz_ BK558 0 (.int .i64 a0_0); have hcz15_1 := cz_ BK558 1 (.slice A0_1 l0_1.length c0_1); have hfz15_0 := fz_ BK558 0; have hfz15_1 := fz_ BK558 1) | (go_at_call 48; (with_reducible refine (impl_Graph_isNode.calls a0_0 _ _ l0_1 a2 t561 _ ?side1 ?side2 A10.out).mono ?_); (case side1 => exact cb_ HR0_1 HB); (case side2 => exact HC0_1.out); rintro e w16 ⟨rfl, hb⟩; replace BK558 := ab_ BK558 hb; replace HB := at_ HB hb; clear hb))
  go_meet
  case rel => exact ⟨_, (!t561), er_, H', ⟨by first | omega | exact Nat.le_refl _⟩, ⟨bx_ BK558⟩, ⟨bw115_⟩⟩
 clear HC4
 obtain ⟨kq, x29_3, rfl, HA, HJ3, BK558, HB⟩ := hcut
 cases kq with
 | zero => exact absurd HA.out (by simp [impl_CountWays.j0])
 | succ kj3 =>
  have H := HA.out
  clear HA
  simp only [impl_CountWays.j0] at H
  by_cases c23 : x29_3 = true
  ·subst c23
   rw [if_pos rfl] at H
   obtain rfl := Option.some.inj H
   go_wp2
   go_ret
   exact ⟨ew_, bw115_⟩
  replace c23 := Bool.eq_false_iff.mpr c23
  subst c23
  rw [if_neg (show ¬ (false = true) by decide)] at H
  obtain ⟨t562, A24, H⟩ := ob_ H
  obtain ⟨y566, hy566⟩ : ∃ y_ : List Int, y_ = (([] : List Int)) := ⟨_, rfl⟩
  replace H : (impl_CountWays.l0 kj3 a1 a2 y566 a0_0 0 a0_0 l0_1 t562) = some r := by first | (rw [hy566]; with_reducible exact H) | (have H2_ := (Option.bind_some _ _).symm.trans H; rw [hy566]; with_reducible exact H2_) | (have H2_ := (Option.bind_some _ _).symm.trans H; with_reducible exact H2_) | with_reducible exact H | (rw [hy566]; exact H) | exact H
  have Ny566 := Aside0.mk hy566
  clear hy566
  have H' := Aside0.mk H
  clear H
  have hcz25_0 := cz_ BK558 0 (.int .i64 a0_0)
  have hcz25_1 := cz_ BK558 1 (.slice A0_1 l0_1.length c0_1)
  have hfz25_0 := fz_ BK558 0
  have hfz25_1 := fz_ BK558 1
  go_wp2_with (first | ((with_reducible refine gate_callee (f := 73) rfl ?_); refine gl_ (some 32) Try.func73 #[.agg #[.int .i64 a0_0, .slice A0_1 l0_1.length c0_1], .int .i64 a1] ?_; (with_reducible refine (impl_Graph_distances.calls kj3 a0_0 _ _ l0_1 a1 t562 _ ?side1 ?side2 A24.out).mono ?_); (case side1 => exact cb_ HR0_1 HB); (case side2 => exact HC0_1.out); rintro e w26 ⟨v563, rfl, ho0, hb⟩; refine ⟨_, rfl, ?_⟩; have HO564 := Aside0.mk (Kd.R_lower ho0 (bz_ HB)); replace BK558 := ab_ BK558 hb; replace HB := at_ HB hb; clear hb ho0) | ((with_reducible refine gate_dst (N := 7) rfl ?_); refine be_ 7 #[.slice none 0 0] 26 ?_; intro gb565 hg w27 BK565 hb; have GW565 := ge_ HB hg; have GE565 := ge_ HB hg; have NB558_565 := nl_ BK558 hg; have NB565_558 := ng_ BK558 hg; replace HO564 := rb_ HO564 hb; replace HB := at_ HB hb; replace BK558 := ab_ BK558 hb; clear hb hg; obtain ⟨Ao28, co28, eo28⟩ := Kd.R_slice HO564.out; subst eo28; have hnb29 := NB565_558.out; have hnc29 := NB558_565.out; have hcz30_0 := cz_ BK565 0 (.slice none 0 0); have hfz30_0 := fz_ BK565 0) | ((with_reducible refine gate_dst (N := 33) rfl ?_); refine Kd.R_lit (Kd.int .i64) _ 3 ?hg (N := 33) ?hd (xs := ([] : List Int)) (inner := []) (ok := fun _ => True) (okp := fun _ => True) ?hr ?hp (fun _ hk => hk) trivial (Below.refl _ _) (Nat.le_refl _) (by simp) ?_; (case hd => rfl); (case hg => rfl); (case hr => first | (go_simp; done) | (go_simp; rfl)); (case hp => exact (Reps.none _ _)); intro v567 w31 ho32 hb hg_ hnew_; clear hg_ hnew_; (first | rw [← Ny566.out] at ho32 | (simp only [Int.reduceToNat] at ho32; rw [← Ny566.out] at ho32)); have HO568 := Aside0.mk (Kd.R_lower (Kd.R_new' ho32 (Kd.R_lt (hs_ HO564 BK565))) (bz_ HB)); replace HO564 := Aside0.mk (Kd.R_elder' (hs_ HO564 BK565) (Kd.R_base ho32) hb); replace BK558 := bf_ BK558 NB558_565 hb; replace BK565 := Aside0.mk (blk_below (g := gb565) (o := .cells #[.slice Ao28 t562.length co28] 26 (0, 0)) (by refine bd_ ?_; refine blk_put (cs := #[.slice none 0 0]) ?_ 0 _ rfl; refine bd_ ?_; exact BK565.out) hb); replace HB := at_ HB hb; clear hb ho32; have hcz33_0 := cz_ BK558 0 (.int .i64 a0_0); have hcz33_1 := cz_ BK558 1 (.slice A0_1 l0_1.length c0_1); have hfz33_0 := fz_ BK558 0; have hfz33_1 := fz_ BK558 1))
  (try simp only [Act.put, List.setIfInBounds_toArray, List.set_cons_zero, List.set_cons_succ])
  go_loopg [8, 36] kj3 (fun kq v8 v36 w' => ∃ (x8_2 : List Int) (x36_2 : Int), v36 = .int .i64 x36_2 ∧ Aside0 (impl_CountWays.l0 kq a1 a2 x8_2 a0_0 x36_2 a0_0 l0_1 t562 = some r) ∧ Aside0 (kq ≤ kj3) ∧ Aside0 (Kd.R (Kd.int .i64) 3 w' w.heap.size (fun k_ => some k_ ≠ ((.slice Ao28 t562.length co28) : Value).ownBlock) v8 x8_2) ∧ Aside0 (Kd.R (Kd.int .i64) 3 w' w.heap.size (fun k_ => some k_ ≠ (v8 : Value).ownBlock) (.slice Ao28 t562.length co28) t562) ∧ Aside0 (w'.heap[gb558]? = some (.cells #[.int .i64 a0_0, (.slice A0_1 l0_1.length c0_1)] 30 (0, 0))) ∧ Aside0 (w'.heap[gb565]? = some (.cells #[(.slice Ao28 t562.length co28)] 26 (0, 0))) ∧ Aside0 (Below w.heap.size w w'))
  case atStart => exact ⟨(y566), (0), er_, H', ⟨Nat.le_refl _⟩, ⟨hq_ (Kd.R_mono HO568.out (fun _ hk => hk.2))⟩, ⟨hq_ (Kd.R_mono HO564.out (fun _ hk => hk.2))⟩, ⟨bx_ BK558⟩, ⟨bx_ BK565⟩, ⟨bw115_⟩⟩
  clear H' hcz25_0 hcz25_1 hcz30_0 hcz33_0 hcz33_1 hfz25_0 hfz25_1 hfz30_0 hfz33_0 hfz33_1
  obtain ⟨x8_2, x36_2, rfl, HA, HK2, HO_8, HO_566000, BK558, BK565, HB⟩ := hrel
  cases gk with
  | zero => exact absurd HA.out (by simp [impl_CountWays.l0])
  | succ k2 =>
   have H := HA.out
   clear HA
   simp only [impl_CountWays.l0] at H
   by_cases c34 : x36_2 < a0_0
   ·rw [if_pos c34] at H
    have c34b0 : decide (x36_2 < a0_0) = true := decide_eq_true c34
    clear c34
    obtain ⟨c35b0, H⟩ := iq_ H
    obtain ⟨c36b0, H⟩ := iq_ H
    by_cases c37 : (rd t562 x36_2) < 1000000
    rotate_left
    ·rw [if_neg c37] at H
     have c37b0 : decide ((rd t562 x36_2) < 1000000) = false := decide_eq_false c37
     clear c37
     have H' := Aside0.mk H
     clear H
     have hnb42 := NB565_558.out
     have hnc42 := NB558_565.out
     have hcz43_0 := cz_ BK565 0 (.slice Ao28 t562.length co28)
     have hfz43_0 := fz_ BK565 0
     have p569 : 0 ≤ (x36_2 : Int) := oa_
     have q569 : x36_2 < (t562.length : Int) := oa_
     obtain ⟨ad569, e569, hx569_0⟩ := Kd.at_int (Kd.R_reads' HO_566000.out).2.2 x36_2 p569 q569
     cases e569
     obtain ⟨p569, q569⟩ := et_ p569 q569
     go_wp2
     go_roundg k2
     case measure => have := HJ3.out; have := HK2.out; omega
     case rel => exact ⟨(x8_2), (wrap64 (x36_2 + 1)), er_, H', ⟨by have := HJ3.out; have := HK2.out; omega⟩, ⟨hd_ HO_8⟩, ⟨hd_ HO_566000⟩, ⟨bx_ BK558⟩, ⟨bx_ BK565⟩, ⟨bw115_⟩⟩
    rw [if_pos c37] at H
    have c37b0 : decide ((rd t562 x36_2) < 1000000) = true := decide_eq_true c37
    clear c37
    by_cases c38 : x8_2.length < 17592186044416
    rotate_left
    ·rw [if_neg c38] at H
     exact absurd H (by simp)
    rw [if_pos c38] at H
    have LMc38 := Aside0.mk c38
    clear c38
    obtain ⟨y570, hy570⟩ : ∃ y_ : List Int, y_ = (x8_2 ++ [x36_2]) := ⟨_, rfl⟩
    replace H : (impl_CountWays.l0 k2 a1 a2 y570 a0_0 (wrap64 (x36_2 + 1)) a0_0 l0_1 t562) = some r := by first | (rw [hy570]; with_reducible exact H) | (have H2_ := (Option.bind_some _ _).symm.trans H; rw [hy570]; with_reducible exact H2_) | (have H2_ := (Option.bind_some _ _).symm.trans H; with_reducible exact H2_) | with_reducible exact H | (rw [hy570]; exact H) | exact H
    have Ny570 := Aside0.mk hy570
    clear hy570
    have H' := Aside0.mk H
    clear H
    have hnb39 := NB565_558.out
    have hnc39 := NB558_565.out
    have hcz40_0 := cz_ BK565 0 (.slice Ao28 t562.length co28)
    have hfz40_0 := fz_ BK565 0
    have p569 : 0 ≤ (x36_2 : Int) := oa_
    have q569 : x36_2 < (t562.length : Int) := oa_
    obtain ⟨ad569, e569, hx569_0⟩ := Kd.at_int (Kd.R_reads' HO_566000.out).2.2 x36_2 p569 q569
    cases e569
    obtain ⟨p569, q569⟩ := et_ p569 q569
    go_wp2_with ((with_reducible refine gate_builtin (b := .append) (xs := #[.tmp 44, .tmp 46]) rfl ?_); at_builtin; refine Kd.R_append (Kd.int .i64) (w0 := w) w.heap.size rfl (.tmp 44) (.tmp 46) 26 3 (.int .i64 0) 8 rfl Try.underlying26 info3 rfl (by decide) (by omega) u8 x8_2 x36_2 [.int .i64 x36_2] (fun k_ => some k_ ≠ (.slice (some ad569) t562.length co28 : Value).ownBlock) (fun _ => False) rfl rfl ?aP (fun _ hk => hk.elim) ?aF ?aO ?aB ?aS ?aL ?_; (case aP => exact rfl); (case aB => exact (bw115_)); (case aF => exact (fun k_ hk => Kd.fresh' (Kd.R_lt (hd_ HO_566000)) k_ hk)); (case aO => exact (hd_ HO_8)); (case aS => exact (bz_ HB)); (case aL => have := LMc38.out; omega); intro v571 w41 ho hb hg hat; rw [← Ny570.out] at ho; have HO572 := Aside0.mk ho; replace HO_566000 := Aside0.mk (Kd.R_after (ok := (fun _ => True)) (hq_ (Kd.R_mono HO_566000.out (fun _ hk => by first | exact ⟨trivial, hk⟩ | grind))) hg hat); replace BK558 := Aside0.mk (blk_grown (g := gb558) (o := .cells #[.int .i64 a0_0, .slice A0_1 l0_1.length c0_1] 30 (0, 0)) (bx_ BK558) hg (Kd.R_ne HO_8.out BK558.out (by decide))); replace BK565 := Aside0.mk (blk_grown (g := gb565) (o := .cells #[.slice (some ad569) t562.length co28] 26 (0, 0)) (bx_ BK565) hg (Kd.R_ne HO_8.out BK565.out (by decide))); replace HB := Aside0.mk (hb); clear HO_8 ho hb hg hat)
    go_roundg k2
    case measure => have := HJ3.out; have := HK2.out; omega
    case rel => exact ⟨(y570), (wrap64 (x36_2 + 1)), er_, H', ⟨by have := HJ3.out; have := HK2.out; omega⟩, ⟨hd_ HO572⟩, ⟨hq_ (Kd.R_mono HO_566000.out (fun _ hk => hk.2))⟩, ⟨bx_ BK558⟩, ⟨bx_ BK565⟩, ⟨bw115_⟩⟩
   rw [if_neg c34] at H
   have c34b0 : decide (x36_2 < a0_0) = false := decide_eq_false c34
   clear c34
   obtain ⟨t573, A44, H⟩ := ob_ H
   by_cases c45 : 0 ≤ a0_0
   rotate_left
   ·rw [if_neg c45] at H
    exact absurd H (by simp)
   rw [if_pos c45] at H
   have c45b0 := eq_true c45
   have c45b1 : decide (0 ≤ a0_0) = true := decide_eq_true c45
   clear c45
   by_cases c46 : (a0_0 : Int).toNat ≤ 35184372088832
   rotate_left
   ·rw [if_neg c46] at H
    exact absurd H (by simp)
   rw [if_pos c46] at H
   have c46b0 := eq_true c46
   have c46b1 : decide ((a0_0 : Int).toNat ≤ 35184372088832) = true := decide_eq_true c46
   clear c46
   obtain ⟨y574, hy574⟩ : ∃ y_ : List Int, y_ = (List.replicate (a0_0 : Int).toNat 0) := ⟨_, rfl⟩
   replace H : (if 0 ≤ a1 then (if a1 < (y574.length : Int) then (impl_CountWays.l1 k2 a2 (y574.set (a1 : Int).toNat 1) t573 (x8_2.length : Int) 0 a0_0 l0_1 t562) else (none)) else (none)) = some r := by first | (rw [hy574]; with_reducible exact H) | (have H2_ := (Option.bind_some _ _).symm.trans H; rw [hy574]; with_reducible exact H2_) | (have H2_ := (Option.bind_some _ _).symm.trans H; with_reducible exact H2_) | with_reducible exact H | (rw [hy574]; exact H) | exact H
   have Ny574 := Aside0.mk hy574
   clear hy574
   obtain ⟨c47b0, H⟩ := iq_ H
   obtain ⟨c48b0, H⟩ := iq_ H
   obtain ⟨y577, hy577⟩ : ∃ y_ : List Int, y_ = (y574.set (a1 : Int).toNat 1) := ⟨_, rfl⟩
   replace H : (impl_CountWays.l1 k2 a2 y577 t573 (x8_2.length : Int) 0 a0_0 l0_1 t562) = some r := by first | (rw [hy577]; with_reducible exact H) | (have H2_ := (Option.bind_some _ _).symm.trans H; rw [hy577]; with_reducible exact H2_) | (have H2_ := (Option.bind_some _ _).symm.trans H; with_reducible exact H2_) | with_reducible exact H | (rw [hy577]; exact H) | exact H
   have Ny577 := Aside0.mk hy577
   clear hy577
   have H' := Aside0.mk H
   clear H
   obtain ⟨Ao50, co50, eo50⟩ := Kd.R_slice HO_8.out
   subst eo50
   go_wp2_with (first | ((with_reducible refine gate_callee (f := 56) rfl ?_); refine gl_ (some 51) Try.func56 #[.slice Ao50 x8_2.length co50, .func (.func 74) #[] #[.pointer (some ⟨gb565, 0, none⟩)]] ?_; (with_reducible refine (slices_SortFunc_int_int.calls k2 (fun k_ => some k_ = (.slice Ao50 x8_2.length co50 : Value).ownBlock) (.slice Ao50 x8_2.length co50) x8_2 _ [t562] t573 w _ ?side1 ?side2 ?side3 A44.out).mono ?_); (case side1 => exact by_ HB); (case side2 => exact Kd.R_tight rfl HO_8.out); (case side3 => exact C_box1_kept (cs := [.slice Ao28 t562.length co28]) (bx_ BK565) (fun hs_ => (Kd.R_ne HO_8.out BK565.out (by decide)) hs_) (fun W_ hk_ => ⟨_, _, rfl, ((Kd.R_reads' HO_566000.out).2.1), (Kd.C_kept_own (HO_566000.out) (fun k_ hk_ hs_ => by first | exact (hk_) hs_ | grind)) _ hk_⟩)); rintro e w51 ⟨rfl, hy0, hb, hkp⟩; refine ⟨_, rfl, ?_⟩; replace HO_566000 := kp_ (fun k_ => some k_ ≠ (.slice Ao50 x8_2.length co50 : Value).ownBlock) (HO_566000.out) hkp; replace BK558 := bk_ BK558 hkp (fun hs_ => (Kd.R_ne HO_8.out BK558.out (by decide)) hs_); replace BK565 := bk_ BK565 hkp (fun hs_ => (Kd.R_ne HO_8.out BK565.out (by decide)) hs_); replace HO_8 := Aside0.mk (Kd.R_reok rfl hy0 (fun k_ e_ => HO_8.out.1 k_ e_)); replace HB := Aside0.mk (hb); clear hb hkp hy0; have hnb52 := NB558_565.out; have hnc52 := NB565_558.out; have hcz53_0 := cz_ BK558 0 (.int .i64 a0_0); have hcz53_1 := cz_ BK558 1 (.slice A0_1 l0_1.length c0_1); have hfz53_0 := fz_ BK558 0; have hfz53_1 := fz_ BK558 1) | ((with_reducible refine gate_dst (N := 54) rfl ?_); refine Kd.R_make (Kd.int .i64) _ 3 rfl (N := 54) rfl 26 _ _ rfl a0_0 rfl rfl Try.underlying26 (.int .i64 0) 8 info3 rfl (by decide) (by omega) 0 (ok := fun _ => True) (okp := fun _ => True) rfl (fun _ hk => hk) trivial oa_ (Nat.le_trans (Nat.mul_le_mul_right _ (oa_ : a0_0.toNat ≤ 35184372088832)) (by omega)) (Below.refl _ _) (Nat.le_refl _) ?_; intro v575 w54 ho55 hb hg_ hnew_; clear hg_ hnew_; (first | rw [← Ny574.out] at ho55 | (simp only [Int.reduceToNat] at ho55; rw [← Ny574.out] at ho55)); have HO576 := Aside0.mk (Kd.R_lower (Kd.R_new' (Kd.R_new' ho55 (Kd.R_lt (hd_ HO_8))) (Kd.R_lt (hd_ HO_566000))) (bz_ HB)); replace HO_8 := Aside0.mk (Kd.R_elder' (hd_ HO_8) (Kd.R_base ho55) hb); replace HO_566000 := Aside0.mk (Kd.R_elder' (hd_ HO_566000) (Kd.R_base ho55) hb); replace BK558 := ab_ BK558 hb; replace BK565 := ab_ BK565 hb; replace HB := at_ HB hb; clear hb ho55; have p49 : 0 ≤ (a1 : Int) := oa_; have q49 : (a1 : Int) < ((y574.length : Int) : Int) := oa_; obtain ⟨go49, co49, eo49, gb49, gl49, cl49, HG49⟩ := Kd.R_form HO576.out (by omega); (first | cases eo49 | (injection eo49 with ea_ en_ ec_; (first | subst ea_ | (injection ea_ with ea_; subst ea_)); subst ec_; clear en_)); have GB49 := Aside0.mk gb49; have GG49 := Aside0.mk HG49; clear gb49 gl49 HG49; obtain ⟨hx49_0, hf49_0⟩ := Kd.R_celln 0 HO576.out (a1 : Int) p49 q49; obtain ⟨p49, q49⟩ := et_ p49 q49; have n_ := Aside0.mk (Kd.R_mono (ok' := (fun k_ => some k_ ≠ (.slice Ao50 x8_2.length co50 : Value).ownBlock ∧ some k_ ≠ (.slice Ao28 t562.length co28 : Value).ownBlock)) HO576.out (fun k_ hk => ⟨hk.1.2, hk.2⟩)); clear HO576; have HO576 := n_; clear n_; obtain ⟨hy56_, hz56_⟩ := Kd.R_celln 0 HO576.out (a1 : Int) oa_ oa_; have HP56 := Kd.R_putg HO576.out (a1 : Int) 1) | ((with_reducible refine gate_store (t := 3) (p := 57) rfl ?_); refine store_event (t := 3) (p := 57) (v := ?vo_w57) (w1 := (w54.setCell ⟨go49, (a1 : Int).toNat, none⟩ (.int .i64 1))) ?hg ?ho ?hn ?hr ?_; (case ho => rfl); (case hg => rfl); (case hn => rfl); (case hr => first | (go_simp; done) | (go_simp; rfl)); intro w57 hw; have hg : w54.grownBy w57 (some go49) := (by rw [hw]; exact HP56.2); have hp_ : Kd.R (Kd.int .i64) 3 w57 w.heap.size (fun k_ => some k_ ≠ (.slice Ao50 x8_2.length co50 : Value).ownBlock ∧ some k_ ≠ (.slice Ao28 t562.length co28 : Value).ownBlock) (.slice (some ⟨go49, 0, none⟩) y574.length co49) y577 := (by rw [hw, Ny577.out]; exact HP56.1); clear HP56; replace HO_8 := Aside0.mk (Kd.R_after (v := (.slice (some ⟨go49, 0, none⟩) y574.length co49)) (v1 := (.slice (some ⟨go49, 0, none⟩) y574.length co49)) (ok := (fun k_ => some k_ ≠ (.slice Ao28 t562.length co28 : Value).ownBlock)) (hd_ HO_8) hg (.inl rfl)); replace HO_566000 := Aside0.mk (Kd.R_after (v := (.slice (some ⟨go49, 0, none⟩) y574.length co49)) (v1 := (.slice (some ⟨go49, 0, none⟩) y574.length co49)) (ok := (fun k_ => some k_ ≠ (.slice Ao50 x8_2.length co50 : Value).ownBlock)) (hd_ HO_566000) hg (.inl rfl)); replace BK558 := Aside0.mk (blk_grown (g := gb558) (o := .cells #[.int .i64 a0_0, .slice A0_1 l0_1.length c0_1] 30 (0, 0)) (bx_ BK558) hg (Kd.R_ne HO576.out BK558.out (by decide))); replace BK565 := Aside0.mk (blk_grown (g := gb565) (o := .cells #[.slice Ao28 t562.length co28] 26 (0, 0)) (bx_ BK565) hg (Kd.R_ne HO576.out BK565.out (by decide))); replace HO576 := Aside0.mk (hp_); replace HB := Aside0.mk ((by rw [hw]; exact below_set (HB.out) GB49.out : Below w.heap.size w w57)); clear hg hw hp_))
   (try simp only [Act.put, List.setIfInBounds_toArray, List.set_cons_zero, List.set_cons_succ])
   go_loopg [60] k2 (fun kq v60 w' => ∃ (x10_3 : List Int) (x60_3 : Int), v60 = .int .i64 x60_3 ∧ Aside0 (impl_CountWays.l1 kq a2 x10_3 t573 (x8_2.length : Int) x60_3 a0_0 l0_1 t562 = some r) ∧ Aside0 (kq ≤ k2) ∧ Aside0 (Kd.R (Kd.int .i64) 3 w' w.heap.size (fun k_ => some k_ ≠ ((.slice Ao50 x8_2.length co50) : Value).ownBlock ∧ some k_ ≠ ((.slice Ao28 t562.length co28) : Value).ownBlock) (.slice (some ⟨go49, 0, none⟩) y574.length co49) x10_3) ∧ Aside0 (Kd.R (Kd.int .i64) 3 w' w.heap.size (fun k_ => some k_ ≠ ((.slice (some ⟨go49, 0, none⟩) y574.length co49) : Value).ownBlock ∧ some k_ ≠ ((.slice Ao28 t562.length co28) : Value).ownBlock) (.slice Ao50 x8_2.length co50) t573) ∧ Aside0 (Kd.R (Kd.int .i64) 3 w' w.heap.size (fun k_ => some k_ ≠ ((.slice (some ⟨go49, 0, none⟩) y574.length co49) : Value).ownBlock ∧ some k_ ≠ ((.slice Ao50 x8_2.length co50) : Value).ownBlock) (.slice Ao28 t562.length co28) t562) ∧ Aside0 (w'.heap[gb558]? = some (.cells #[.int .i64 a0_0, (.slice A0_1 l0_1.length c0_1)] 30 (0, 0))) ∧ Aside0 (w'.heap[gb565]? = some (.cells #[(.slice Ao28 t562.length co28)] 26 (0, 0))) ∧ Aside0 (Below w.heap.size w w'))
   case atStart => exact ⟨(y577), (0), er_, H', ⟨Nat.le_refl _⟩, ⟨hd_ HO576⟩, ⟨hq_ (Kd.R_mono HO_8.out (fun _ hk => by first | exact ⟨hk.2, hk.1⟩ | grind))⟩, ⟨hq_ (Kd.R_mono HO_566000.out (fun _ hk => by first | exact ⟨hk.2, hk.1⟩ | grind))⟩, ⟨bx_ BK558⟩, ⟨bx_ BK565⟩, ⟨bw115_⟩⟩
   clear H' c34b0 c45b0 c45b1 c46b0 c46b1 c47b0 c48b0 p49 q49 hcz53_0 hcz53_1 hfz53_0 hfz53_1 hx49_0
   clear p49 q49
   obtain ⟨x10_3, x60_3, rfl, HA, HK3, HO_10, HO_58, HO_566000, BK558, BK565, HB⟩ := hrel
   have hl10_3 := (Kd.R_reads' HO_10.out).1
   rw [hl10_3] at HO_10
   (try simp only [hl10_3])
   (try simp only [hl10_3] at BK558)
   (try simp only [hl10_3] at BK565)
   (try simp only [hl10_3] at HO_58)
   (try simp only [hl10_3] at HO_566000)
   have hl58_3 := (Kd.R_reads' HO_58.out).1
   rw [hl58_3] at HO_58
   (try simp only [hl58_3])
   (try simp only [hl58_3] at BK558)
   (try simp only [hl58_3] at BK565)
   (try simp only [hl58_3] at HO_10)
   (try simp only [hl58_3] at HO_566000)
   cases gk with
   | zero => exact absurd HA.out (by simp [impl_CountWays.l1])
   | succ k3 =>
    have H := HA.out
    clear HA
    simp only [impl_CountWays.l1] at H
    by_cases c58 : x60_3 < (x8_2.length : Int)
    rotate_left
    ·rw [if_neg c58] at H
     have c58b0 : decide (x60_3 < (x8_2.length : Int)) = false := decide_eq_false c58
     (try simp only [hl10_3] at c58b0)
     (try simp only [hl58_3] at c58b0)
     clear c58
     obtain ⟨c95b0, H⟩ := iq_ H
     obtain ⟨c96b0, H⟩ := iq_ H
     obtain rfl := Option.some.inj H
     have p578 : 0 ≤ (a2 : Int) := oa_
     have q578 : a2 < (x10_3.length : Int) := oa_
     obtain ⟨ad578, e578, hx578_0⟩ := Kd.at_int (Kd.R_reads' HO_10.out).2.2 a2 p578 q578
     obtain rfl : (⟨go49, 0, none⟩ : Addr) = ad578 := (by injection e578)
     simp only [add_plain] at hx578_0
     obtain ⟨p578, q578⟩ := et_ p578 q578
     go_wp2
     go_ret
     exact ⟨ew_, bw115_⟩
    rw [if_pos c58] at H
    have c58b0 : decide (x60_3 < (x8_2.length : Int)) = true := decide_eq_true c58
    clear c58
    obtain ⟨c59b0, H⟩ := iq_ H
    obtain ⟨c60b0, H⟩ := iq_ H
    have H' := Aside0.mk H
    clear H
    have p579 : 0 ≤ (x60_3 : Int) := oa_
    have q579 : x60_3 < (t573.length : Int) := oa_
    obtain ⟨ad579, e579, hx579_0⟩ := Kd.at_int (Kd.R_reads' HO_58.out).2.2 x60_3 p579 q579
    cases e579
    obtain ⟨p579, q579⟩ := et_ p579 q579
    have hnb61 := NB558_565.out
    have hnc61 := NB565_558.out
    have hcz62_0 := cz_ BK558 0 (.int .i64 a0_0)
    have hcz62_1 := cz_ BK558 1 (.slice A0_1 l0_1.length c0_1)
    have hfz62_0 := fz_ BK558 0
    have hfz62_1 := fz_ BK558 1
    go_wp2
    go_loopg [67] k3 (fun kq v67 w' => ∃ (x10_4 : List Int) (x67_4 : Int), v67 = .int .i64 x67_4 ∧ Aside0 (impl_CountWays.l2 kq a2 x10_4 (rd t573 x60_3) t573 (x8_2.length : Int) x60_3 l0_1 (l0_1.length : Int) x67_4 a0_0 l0_1 t562 = some r) ∧ Aside0 (kq ≤ k3) ∧ Aside0 (Kd.R (Kd.int .i64) 3 w' w.heap.size (fun k_ => some k_ ≠ ((.slice (some ad579) t573.length co50) : Value).ownBlock ∧ some k_ ≠ ((.slice Ao28 t562.length co28) : Value).ownBlock) (.slice (some ⟨go49, 0, none⟩) x10_3.length co49) x10_4) ∧ Aside0 (Kd.R (Kd.int .i64) 3 w' w.heap.size (fun k_ => some k_ ≠ ((.slice (some ⟨go49, 0, none⟩) x10_3.length co49) : Value).ownBlock ∧ some k_ ≠ ((.slice Ao28 t562.length co28) : Value).ownBlock) (.slice (some ad579) t573.length co50) t573) ∧ Aside0 (Kd.R (Kd.int .i64) 3 w' w.heap.size (fun k_ => some k_ ≠ ((.slice (some ⟨go49, 0, none⟩) x10_3.length co49) : Value).ownBlock ∧ some k_ ≠ ((.slice (some ad579) t573.length co50) : Value).ownBlock) (.slice Ao28 t562.length co28) t562) ∧ Aside0 (w'.heap[gb558]? = some (.cells #[.int .i64 a0_0, (.slice A0_1 l0_1.length c0_1)] 30 (0, 0))) ∧ Aside0 (w'.heap[gb565]? = some (.cells #[(.slice Ao28 t562.length co28)] 26 (0, 0))) ∧ Aside0 (Below w.heap.size w w'))
    case atStart => exact ⟨(x10_3), (0), er_, H', ⟨Nat.le_refl _⟩, ⟨by (try simp only [hl10_3]); (try simp only [hl58_3]); (with_reducible repeat (first | apply Kd.R_alloc | apply Kd.R_drewN | apply Kd.R_drew)); exact HO_10.out⟩, ⟨by (try simp only [hl10_3]); (try simp only [hl58_3]); (with_reducible repeat (first | apply Kd.R_alloc | apply Kd.R_drewN | apply Kd.R_drew)); exact HO_58.out⟩, ⟨by (try simp only [hl10_3]); (try simp only [hl58_3]); (with_reducible repeat (first | apply Kd.R_alloc | apply Kd.R_drewN | apply Kd.R_drew)); exact HO_566000.out⟩, ⟨by (try simp only [hl10_3]); (try simp only [hl58_3]); refine bd_ ?_; exact BK558.out⟩, ⟨by (try simp only [hl10_3]); (try simp only [hl58_3]); refine bd_ ?_; exact BK565.out⟩, ⟨bw115_⟩⟩
    clear H' c58b0 c59b0 c60b0 hcz62_0 hcz62_1 hfz62_0 hfz62_1 hx579_0 p579 q579
    obtain ⟨x10_4, x67_4, rfl, HA, HK4, HO_10, HO_58, HO_566000, BK558, BK565, HB⟩ := hrel
    have hl10_4 := (Kd.R_reads' HO_10.out).1
    rw [hl10_4] at HO_10
    (try simp only [hl10_4])
    (try simp only [hl10_4] at BK558)
    (try simp only [hl10_4] at BK565)
    (try simp only [hl10_4] at HO_58)
    (try simp only [hl10_4] at HO_566000)
    cases gk with
    | zero => exact absurd HA.out (by simp [impl_CountWays.l2])
    | succ k4 =>
     have H := HA.out
     clear HA
     simp only [impl_CountWays.l2] at H
     by_cases c63 : x67_4 < (l0_1.length : Int)
     rotate_left
     ·rw [if_neg c63] at H
      have c63b0 : decide (x67_4 < (l0_1.length : Int)) = false := decide_eq_false c63
      (try simp only [hl10_3] at c63b0)
      (try simp only [hl58_3] at c63b0)
      (try simp only [hl10_4] at c63b0)
      clear c63
      have H' := Aside0.mk H
      clear H
      go_wp2
      (try simp only [← hl10_3, ← hl58_3, ← hl10_4])
      go_roundg k4
      case measure => have := HJ3.out; have := HK2.out; have := HK3.out; have := HK4.out; omega
      case rel => exact ⟨(x10_4), (wrap64 (x60_3 + 1)), er_, H', ⟨by have := HJ3.out; have := HK2.out; have := HK3.out; have := HK4.out; omega⟩, ⟨by (try simp only [hl10_3]); (try simp only [hl58_3]); (try simp only [hl10_4]); (with_reducible repeat (first | apply Kd.R_alloc | apply Kd.R_drewN | apply Kd.R_drew)); exact HO_10.out⟩, ⟨by (try simp only [hl10_3]); (try simp only [hl58_3]); (try simp only [hl10_4]); (with_reducible repeat (first | apply Kd.R_alloc | apply Kd.R_drewN | apply Kd.R_drew)); exact HO_58.out⟩, ⟨by (try simp only [hl10_3]); (try simp only [hl58_3]); (try simp only [hl10_4]); (with_reducible repeat (first | apply Kd.R_alloc | apply Kd.R_drewN | apply Kd.R_drew)); exact HO_566000.out⟩, ⟨by (try simp only [hl10_3]); (try simp only [hl58_3]); (try simp only [hl10_4]); refine bd_ ?_; exact BK558.out⟩, ⟨by (try simp only [hl10_3]); (try simp only [hl58_3]); (try simp only [hl10_4]); refine bd_ ?_; exact BK565.out⟩, ⟨bw115_⟩⟩
     rw [if_pos c63] at H
     have c63b0 : decide (x67_4 < (l0_1.length : Int)) = true := decide_eq_true c63
     clear c63
     obtain ⟨c64b0, H⟩ := iq_ H
     obtain ⟨c65b0, H⟩ := iq_ H
     by_cases c66 : ((rd_T76 l0_1 x67_4).f0) = (rd t573 x60_3)
     rotate_left
     ·rw [if_neg c66] at H
      have c66b0 : (((rd_T76 l0_1 x67_4).f0) == (rd t573 x60_3)) = false := beq_eq_false_iff_ne.mpr c66
      have c66b1 : (((rd_T76 l0_1 x67_4).f0) != (rd t573 x60_3)) = true := bne_iff_ne.mpr c66
      have H' := Aside0.mk H
      clear H
      have p580 : 0 ≤ (x67_4 : Int) := oa_
      have q580 : x67_4 < (l0_1.length : Int) := oa_
      obtain ⟨ad580, e580, hx580_0, hx580_1, hx580_2⟩ := at_T76 HR0_1.out x67_4 p580 q580
      cases e580
      replace hx580_0 := hc5_ HB hx580_0
      replace hx580_1 := hc5_ HB hx580_1
      replace hx580_2 := hc5_ HB hx580_2
      obtain ⟨p580, q580⟩ := et_ p580 q580
      try go_wp2_with ((with_reducible refine gate_dst (N := 14) rfl ?_); refine be_ 14 #[.int .i64 0, .int .i64 0, .int .i64 0] 76 ?_; intro gb581 hg w89 BK581 hb; have GW581 := ge_ HB hg; have GE581 := ge_ HB hg; have NB558_581 := nl_ BK558 hg; have NB581_558 := ng_ BK558 hg; have NB565_581 := nl_ BK565 hg; have NB581_565 := ng_ BK565 hg; replace HO_10 := rb_ HO_10 hb; replace HO_58 := rb_ HO_58 hb; replace HO_566000 := rb_ HO_566000 hb; replace HB := at_ HB hb; replace BK558 := ab_ BK558 hb; replace BK565 := ab_ BK565 hb; clear hb hg; have hnb90 := NB581_558.out; have hnc90 := NB558_581.out; have hnb91 := NB581_565.out; have hnc91 := NB565_581.out; have hcz92_0 := cz_ BK581 0 (.int .i64 0); have hcz92_1 := cz_ BK581 1 (.int .i64 0); have hcz92_2 := cz_ BK581 2 (.int .i64 0); have hfz92_0 := fz_ BK581 0; have hfz92_1 := fz_ BK581 1; have hfz92_2 := fz_ BK581 2)
      generalize hW_ : (((w89.setCell ⟨gb581, 0, none⟩ (.int .i64 ((rd_T76 l0_1 x67_4).f0))).setCell ⟨gb581, 1, none⟩ (.int .i64 ((rd_T76 l0_1 x67_4).f1))).setCell ⟨gb581, 2, none⟩ (.int .i64 ((rd_T76 l0_1 x67_4).f2))) = w93
      have n0_ : Aside0 (Kd.R (Kd.int .i64) 3 w93 w.heap.size (fun k_ => some k_ ≠ (.slice (some ad579) t573.length co50 : Value).ownBlock ∧ some k_ ≠ (.slice Ao28 t562.length co28 : Value).ownBlock) (.slice (some ⟨go49, 0, none⟩) x10_4.length co49) x10_4) := by subst hW_; exact ⟨hq_ (Kd.R_mono (Kd.R_far (Kd.R_far (Kd.R_far (Kd.R_types HO_10.out BK581.out (by decide)) (fun _ hk => hk.2) _) (fun _ hk => hk.2) _) (fun _ hk => hk.2) _) (fun _ hk => by first | exact ⟨hk.1.1, hk.1.2⟩ | grind))⟩
      have n1_ : Aside0 (Kd.R (Kd.int .i64) 3 w93 w.heap.size (fun k_ => some k_ ≠ (.slice (some ⟨go49, 0, none⟩) x10_4.length co49 : Value).ownBlock ∧ some k_ ≠ (.slice Ao28 t562.length co28 : Value).ownBlock) (.slice (some ad579) t573.length co50) t573) := by subst hW_; exact ⟨hq_ (Kd.R_mono (Kd.R_far (Kd.R_far (Kd.R_far (Kd.R_types HO_58.out BK581.out (by decide)) (fun _ hk => hk.2) _) (fun _ hk => hk.2) _) (fun _ hk => hk.2) _) (fun _ hk => by first | exact ⟨hk.1.1, hk.1.2⟩ | grind))⟩
      have n2_ : Aside0 (Kd.R (Kd.int .i64) 3 w93 w.heap.size (fun k_ => some k_ ≠ (.slice (some ⟨go49, 0, none⟩) x10_4.length co49 : Value).ownBlock ∧ some k_ ≠ (.slice (some ad579) t573.length co50 : Value).ownBlock) (.slice Ao28 t562.length co28) t562) := by subst hW_; exact ⟨hq_ (Kd.R_mono (Kd.R_far (Kd.R_far (Kd.R_far (Kd.R_types HO_566000.out BK581.out (by decide)) (fun _ hk => hk.2) _) (fun _ hk => hk.2) _) (fun _ hk => hk.2) _) (fun _ hk => by first | exact ⟨hk.1.1, hk.1.2⟩ | grind))⟩
      have n3_ : Aside0 (w93.heap[gb558]? = some (.cells #[.int .i64 a0_0, .slice (some ad580) l0_1.length c0_1] 30 (0, 0))) := by subst hW_; exact ⟨bc_ BK558⟩
      have n4_ : Aside0 (w93.heap[gb565]? = some (.cells #[.slice Ao28 t562.length co28] 26 (0, 0))) := by subst hW_; exact ⟨bc_ BK565⟩
      have n5_ : Aside0 (w93.heap[gb581]? = some (.cells #[.int .i64 ((rd_T76 l0_1 x67_4).f0), .int .i64 ((rd_T76 l0_1 x67_4).f1), .int .i64 ((rd_T76 l0_1 x67_4).f2)] 76 (0, 0))) := by subst hW_; exact ⟨by refine bd_ ?_; refine blk_put (cs := #[.int .i64 ((rd_T76 l0_1 x67_4).f0), .int .i64 ((rd_T76 l0_1 x67_4).f1), .int .i64 0]) ?_ 2 _ rfl; refine bd_ ?_; refine blk_put (cs := #[.int .i64 ((rd_T76 l0_1 x67_4).f0), .int .i64 0, .int .i64 0]) ?_ 1 _ rfl; refine bd_ ?_; refine blk_put (cs := #[.int .i64 0, .int .i64 0, .int .i64 0]) ?_ 0 _ rfl; refine bd_ ?_; exact BK581.out⟩
      have n6_ : Aside0 (Below w.heap.size w w93) := by subst hW_; exact ⟨bw115_⟩
      clear hW_ HO_10 HO_58 HO_566000 BK558 BK565 BK581 HB
      have HO_10 := n0_
      have HO_58 := n1_
      have HO_566000 := n2_
      have BK558 := n3_
      have BK565 := n4_
      have BK581 := n5_
      have HB := n6_
      clear n0_ n1_ n2_ n3_ n4_ n5_ n6_
      replace HO_10 := rw5_ HO_10
      replace HO_58 := rw5_ HO_58
      replace HO_566000 := rw5_ HO_566000
      replace BK558 := ad_ BK558
      replace BK565 := ad_ BK565
      replace BK581 := ad_ BK581
      replace HB := Aside0.mk (below_drew1 HB.out)
      refine start_ (n := 19) (S := fun w' => w'.cell? ⟨gb581, 0, none⟩ = some (.int .i64 ((rd_T76 l0_1 x67_4).f0)) ∧ w'.cell? ⟨gb581, 1, none⟩ = some (.int .i64 ((rd_T76 l0_1 x67_4).f1)) ∧ w'.cell? ⟨gb581, 2, none⟩ = some (.int .i64 ((rd_T76 l0_1 x67_4).f2))) (ds := []) ba20_0 (by kernel_rfl) rfl rfl ⟨bq5_ BK581 0, bq5_ BK581 1, bq5_ BK581 2⟩ (fun hHeld => ?_); refine with_tabW impl_CountWays.tab20 impl_CountWays.bits20 (fun HT_ HW_ => ?_)
      generalize w93.drew = w94 at HO_10 HO_58 HO_566000 BK558 BK565 BK581 HB hHeld ⊢
      refine pz_ 0 71 ba20_1 HT_ ?_
      refine pz_ 2 73 ba20_2 HT_ ?_
      refine pt_ 1 72 ba20_3 HT_ HW_ hHeld ?_
      refine pz_ 3 74 ba20_4 HT_ ?_
      refine pz_ 4 75 ba20_5 HT_ ?_
      refine pu_ 5 76 ba20_33 HT_ ?_
      refine pu_ 6 77 ba20_34 HT_ ?_
      refine pu_ 7 78 ba20_35 HT_ ?_
      refine pu_ 8 79 ba20_36 HT_ ?_
      refine pu_ 9 80 ba20_37 HT_ ?_
      refine pu_ 10 81 ba20_38 HT_ ?_
      refine pu_ 11 82 ba20_39 HT_ ?_
      refine pu_ 12 83 ba20_40 HT_ ?_
      refine pu_ 13 84 ba20_14 HT_ ?_
      refine pu_ 14 85 ba20_15 HT_ ?_
      refine pu_ 15 86 ba20_16 HT_ ?_
      refine pu_ 16 87 ba20_17 HT_ ?_
      refine pu_ 17 88 ba20_18 HT_ ?_
      refine pz_ 18 89 ba20_19 HT_ ?_
      refine done_ (done_of HT_.out (by kernel_rfl)) ?_
      go_wp2
      (try simp only [← hl10_4])
      go_roundg k4
      case measure => have := HJ3.out; have := HK2.out; have := HK3.out; have := HK4.out; omega
      case rel => exact ⟨(x10_4), (wrap64 (x67_4 + 1)), er_, H', ⟨by have := HJ3.out; have := HK2.out; have := HK3.out; have := HK4.out; omega⟩, ⟨by (try simp only [hl10_3]); (try simp only [hl58_3]); (try simp only [hl10_4]); (with_reducible repeat (first | apply Kd.R_alloc | apply Kd.R_drewN | apply Kd.R_drew)); exact HO_10.out⟩, ⟨by (try simp only [hl10_3]); (try simp only [hl58_3]); (try simp only [hl10_4]); (with_reducible repeat (first | apply Kd.R_alloc | apply Kd.R_drewN | apply Kd.R_drew)); exact HO_58.out⟩, ⟨by (try simp only [hl10_3]); (try simp only [hl58_3]); (try simp only [hl10_4]); (with_reducible repeat (first | apply Kd.R_alloc | apply Kd.R_drewN | apply Kd.R_drew)); exact HO_566000.out⟩, ⟨by (try simp only [hl10_3]); (try simp only [hl58_3]); (try simp only [hl10_4]); refine bd_ ?_; exact BK558.out⟩, ⟨by (try simp only [hl10_3]); (try simp only [hl58_3]); (try simp only [hl10_4]); refine bd_ ?_; exact BK565.out⟩, ⟨bw115_⟩⟩
     rw [if_pos c66] at H
     have c66b0 : (((rd_T76 l0_1 x67_4).f0) == (rd t573 x60_3)) = true := beq_iff_eq.mpr c66
     have c66b1 : (((rd_T76 l0_1 x67_4).f0) != (rd t573 x60_3)) = false := bne_eq_false_iff_eq.mpr c66
     clear c66
     obtain ⟨c67b0, H⟩ := iq_ H
     obtain ⟨c68b0, H⟩ := iq_ H
     obtain ⟨c69b0, H⟩ := iq_ H
     obtain ⟨c70b0, H⟩ := iq_ H
     by_cases c71 : (wrap64 ((rd t562 (rd t573 x60_3)) + ((rd_T76 l0_1 x67_4).f2))) = (rd t562 ((rd_T76 l0_1 x67_4).f1))
     rotate_left
     ·rw [if_neg c71] at H
      have c71b0 : ((wrap64 ((rd t562 (rd t573 x60_3)) + ((rd_T76 l0_1 x67_4).f2))) == (rd t562 ((rd_T76 l0_1 x67_4).f1))) = false := beq_eq_false_iff_ne.mpr c71
      have c71b1 : ((wrap64 ((rd t562 (rd t573 x60_3)) + ((rd_T76 l0_1 x67_4).f2))) != (rd t562 ((rd_T76 l0_1 x67_4).f1))) = true := bne_iff_ne.mpr c71
      have H' := Aside0.mk H
      clear H
      have p580 : 0 ≤ (x67_4 : Int) := oa_
      have q580 : x67_4 < (l0_1.length : Int) := oa_
      obtain ⟨ad580, e580, hx580_0, hx580_1, hx580_2⟩ := at_T76 HR0_1.out x67_4 p580 q580
      cases e580
      replace hx580_0 := hc5_ HB hx580_0
      replace hx580_1 := hc5_ HB hx580_1
      replace hx580_2 := hc5_ HB hx580_2
      obtain ⟨p580, q580⟩ := et_ p580 q580
      try go_wp2_with ((with_reducible refine gate_dst (N := 14) rfl ?_); refine be_ 14 #[.int .i64 0, .int .i64 0, .int .i64 0] 76 ?_; intro gb581 hg w83 BK581 hb; have GW581 := ge_ HB hg; have GE581 := ge_ HB hg; have NB558_581 := nl_ BK558 hg; have NB581_558 := ng_ BK558 hg; have NB565_581 := nl_ BK565 hg; have NB581_565 := ng_ BK565 hg; replace HO_10 := rb_ HO_10 hb; replace HO_58 := rb_ HO_58 hb; replace HO_566000 := rb_ HO_566000 hb; replace HB := at_ HB hb; replace BK558 := ab_ BK558 hb; replace BK565 := ab_ BK565 hb; clear hb hg; have hnb84 := NB581_558.out; have hnc84 := NB558_581.out; have hnb85 := NB581_565.out; have hnc85 := NB565_581.out; have hcz86_0 := cz_ BK581 0 (.int .i64 0); have hcz86_1 := cz_ BK581 1 (.int .i64 0); have hcz86_2 := cz_ BK581 2 (.int .i64 0); have hfz86_0 := fz_ BK581 0; have hfz86_1 := fz_ BK581 1; have hfz86_2 := fz_ BK581 2)
      generalize hW_ : (((w83.setCell ⟨gb581, 0, none⟩ (.int .i64 ((rd_T76 l0_1 x67_4).f0))).setCell ⟨gb581, 1, none⟩ (.int .i64 ((rd_T76 l0_1 x67_4).f1))).setCell ⟨gb581, 2, none⟩ (.int .i64 ((rd_T76 l0_1 x67_4).f2))) = w87
      have n0_ : Aside0 (Kd.R (Kd.int .i64) 3 w87 w.heap.size (fun k_ => some k_ ≠ (.slice (some ad579) t573.length co50 : Value).ownBlock ∧ some k_ ≠ (.slice Ao28 t562.length co28 : Value).ownBlock) (.slice (some ⟨go49, 0, none⟩) x10_4.length co49) x10_4) := by subst hW_; exact ⟨hq_ (Kd.R_mono (Kd.R_far (Kd.R_far (Kd.R_far (Kd.R_types HO_10.out BK581.out (by decide)) (fun _ hk => hk.2) _) (fun _ hk => hk.2) _) (fun _ hk => hk.2) _) (fun _ hk => by first | exact ⟨hk.1.1, hk.1.2⟩ | grind))⟩
      have n1_ : Aside0 (Kd.R (Kd.int .i64) 3 w87 w.heap.size (fun k_ => some k_ ≠ (.slice (some ⟨go49, 0, none⟩) x10_4.length co49 : Value).ownBlock ∧ some k_ ≠ (.slice Ao28 t562.length co28 : Value).ownBlock) (.slice (some ad579) t573.length co50) t573) := by subst hW_; exact ⟨hq_ (Kd.R_mono (Kd.R_far (Kd.R_far (Kd.R_far (Kd.R_types HO_58.out BK581.out (by decide)) (fun _ hk => hk.2) _) (fun _ hk => hk.2) _) (fun _ hk => hk.2) _) (fun _ hk => by first | exact ⟨hk.1.1, hk.1.2⟩ | grind))⟩
      have n2_ : Aside0 (Kd.R (Kd.int .i64) 3 w87 w.heap.size (fun k_ => some k_ ≠ (.slice (some ⟨go49, 0, none⟩) x10_4.length co49 : Value).ownBlock ∧ some k_ ≠ (.slice (some ad579) t573.length co50 : Value).ownBlock) (.slice Ao28 t562.length co28) t562) := by subst hW_; exact ⟨hq_ (Kd.R_mono (Kd.R_far (Kd.R_far (Kd.R_far (Kd.R_types HO_566000.out BK581.out (by decide)) (fun _ hk => hk.2) _) (fun _ hk => hk.2) _) (fun _ hk => hk.2) _) (fun _ hk => by first | exact ⟨hk.1.1, hk.1.2⟩ | grind))⟩
      have n3_ : Aside0 (w87.heap[gb558]? = some (.cells #[.int .i64 a0_0, .slice (some ad580) l0_1.length c0_1] 30 (0, 0))) := by subst hW_; exact ⟨bc_ BK558⟩
      have n4_ : Aside0 (w87.heap[gb565]? = some (.cells #[.slice Ao28 t562.length co28] 26 (0, 0))) := by subst hW_; exact ⟨bc_ BK565⟩
      have n5_ : Aside0 (w87.heap[gb581]? = some (.cells #[.int .i64 ((rd_T76 l0_1 x67_4).f0), .int .i64 ((rd_T76 l0_1 x67_4).f1), .int .i64 ((rd_T76 l0_1 x67_4).f2)] 76 (0, 0))) := by subst hW_; exact ⟨by refine bd_ ?_; refine blk_put (cs := #[.int .i64 ((rd_T76 l0_1 x67_4).f0), .int .i64 ((rd_T76 l0_1 x67_4).f1), .int .i64 0]) ?_ 2 _ rfl; refine bd_ ?_; refine blk_put (cs := #[.int .i64 ((rd_T76 l0_1 x67_4).f0), .int .i64 0, .int .i64 0]) ?_ 1 _ rfl; refine bd_ ?_; refine blk_put (cs := #[.int .i64 0, .int .i64 0, .int .i64 0]) ?_ 0 _ rfl; refine bd_ ?_; exact BK581.out⟩
      have n6_ : Aside0 (Below w.heap.size w w87) := by subst hW_; exact ⟨bw115_⟩
      clear hW_ HO_10 HO_58 HO_566000 BK558 BK565 BK581 HB
      have HO_10 := n0_
      have HO_58 := n1_
      have HO_566000 := n2_
      have BK558 := n3_
      have BK565 := n4_
      have BK581 := n5_
      have HB := n6_
      clear n0_ n1_ n2_ n3_ n4_ n5_ n6_
      replace HO_10 := rw5_ HO_10
      replace HO_58 := rw5_ HO_58
      replace HO_566000 := rw5_ HO_566000
      replace BK558 := ad_ BK558
      replace BK565 := ad_ BK565
      replace BK581 := ad_ BK581
      replace HB := Aside0.mk (below_drew1 HB.out)
      have p582 : 0 ≤ ((rd t573 x60_3) : Int) := oa_
      have q582 : (rd t573 x60_3) < (t562.length : Int) := oa_
      obtain ⟨ad582, e582, hx582_0⟩ := Kd.at_int (Kd.R_reads' HO_566000.out).2.2 (rd t573 x60_3) p582 q582
      cases e582
      obtain ⟨p582, q582⟩ := et_ p582 q582
      have p583 : 0 ≤ (((rd_T76 l0_1 x67_4).f1) : Int) := oa_
      have q583 : ((rd_T76 l0_1 x67_4).f1) < (t562.length : Int) := oa_
      obtain ⟨ad583, e583, hx583_0⟩ := Kd.at_int (Kd.R_reads' HO_566000.out).2.2 ((rd_T76 l0_1 x67_4).f1) p583 q583
      obtain rfl : ad582 = ad583 := (by injection e583)
      obtain ⟨p583, q583⟩ := et_ p583 q583
      refine start_ (n := 19) (S := fun w' => w'.cell? ⟨gb581, 0, none⟩ = some (.int .i64 ((rd_T76 l0_1 x67_4).f0)) ∧ w'.cell? ⟨gb581, 1, none⟩ = some (.int .i64 ((rd_T76 l0_1 x67_4).f1)) ∧ w'.cell? ⟨gb581, 2, none⟩ = some (.int .i64 ((rd_T76 l0_1 x67_4).f2)) ∧ w'.cell? ⟨gb565, 0, none⟩ = some (.slice (some ad582) t562.length co28) ∧ w'.cell? (ad582.add ((rd t573 x60_3)).toNat) = some (.int .i64 (rd t562 (rd t573 x60_3))) ∧ w'.cell? (ad582.add (((rd_T76 l0_1 x67_4).f1)).toNat) = some (.int .i64 (rd t562 ((rd_T76 l0_1 x67_4).f1)))) (ds := []) ba20_0 (by kernel_rfl) rfl rfl ⟨bq5_ BK581 0, bq5_ BK581 1, bq5_ BK581 2, bq5_ BK565 0, hx582_0, hx583_0⟩ (fun hHeld => ?_); refine with_tabW impl_CountWays.tab20 impl_CountWays.bits20 (fun HT_ HW_ => ?_)
      generalize w87.drew = w88 at HO_10 HO_58 HO_566000 BK558 BK565 BK581 HB hx582_0 hx583_0 hHeld ⊢
      refine pz_ 0 71 ba20_1 HT_ ?_
      refine pz_ 2 73 ba20_2 HT_ ?_
      refine pt_ 1 72 ba20_3 HT_ HW_ hHeld ?_
      refine pz_ 3 74 ba20_4 HT_ ?_
      refine pz_ 4 75 ba20_5 HT_ ?_
      refine pz_ 6 77 ba20_6 HT_ ?_
      refine pz_ 9 80 ba20_7 HT_ ?_
      refine pz_ 13 84 ba20_8 HT_ ?_
      refine pt_ 5 76 ba20_9 HT_ HW_ hHeld ?_
      refine pz_ 7 78 ba20_10 HT_ ?_
      refine pt_ 8 79 ba20_11 HT_ HW_ hHeld ?_
      refine pt_ 10 81 ba20_12 HT_ HW_ hHeld ?_
      refine pz_ 11 82 ba20_13 HT_ ?_
      refine pt_ 12 83 ba20_14 HT_ HW_ hHeld ?_
      refine pt_ 14 85 ba20_15 HT_ HW_ hHeld ?_
      refine pz_ 15 86 ba20_16 HT_ ?_
      refine pt_ 16 87 ba20_17 HT_ HW_ hHeld ?_
      refine pz_ 17 88 ba20_18 HT_ ?_
      refine pz_ 18 89 ba20_19 HT_ ?_
      refine done_ (done_of HT_.out (by kernel_rfl)) ?_
      go_wp2
      (try simp only [← hl10_4])
      go_roundg k4
      case measure => have := HJ3.out; have := HK2.out; have := HK3.out; have := HK4.out; omega
      case rel => exact ⟨(x10_4), (wrap64 (x67_4 + 1)), er_, H', ⟨by have := HJ3.out; have := HK2.out; have := HK3.out; have := HK4.out; omega⟩, ⟨by (try simp only [hl10_3]); (try simp only [hl58_3]); (try simp only [hl10_4]); (with_reducible repeat (first | apply Kd.R_alloc | apply Kd.R_drewN | apply Kd.R_drew)); exact HO_10.out⟩, ⟨by (try simp only [hl10_3]); (try simp only [hl58_3]); (try simp only [hl10_4]); (with_reducible repeat (first | apply Kd.R_alloc | apply Kd.R_drewN | apply Kd.R_drew)); exact HO_58.out⟩, ⟨by (try simp only [hl10_3]); (try simp only [hl58_3]); (try simp only [hl10_4]); (with_reducible repeat (first | apply Kd.R_alloc | apply Kd.R_drewN | apply Kd.R_drew)); exact HO_566000.out⟩, ⟨by (try simp only [hl10_3]); (try simp only [hl58_3]); (try simp only [hl10_4]); refine bd_ ?_; exact BK558.out⟩, ⟨by (try simp only [hl10_3]); (try simp only [hl58_3]); (try simp only [hl10_4]); refine bd_ ?_; exact BK565.out⟩, ⟨bw115_⟩⟩
     rw [if_pos c71] at H
     have c71b0 : ((wrap64 ((rd t562 (rd t573 x60_3)) + ((rd_T76 l0_1 x67_4).f2))) == (rd t562 ((rd_T76 l0_1 x67_4).f1))) = true := beq_iff_eq.mpr c71
     have c71b1 : ((wrap64 ((rd t562 (rd t573 x60_3)) + ((rd_T76 l0_1 x67_4).f2))) != (rd t562 ((rd_T76 l0_1 x67_4).f1))) = false := bne_eq_false_iff_eq.mpr c71
     clear c71
     obtain ⟨c72b0, H⟩ := iq_ H
     obtain ⟨c73b0, H⟩ := iq_ H
     obtain ⟨y586, hy586⟩ : ∃ y_ : List Int, y_ = (x10_4.set (((rd_T76 l0_1 x67_4).f1) : Int).toNat (wrap64 ((rd x10_4 ((rd_T76 l0_1 x67_4).f1)) + (rd x10_4 (rd t573 x60_3))))) := ⟨_, rfl⟩
     replace H : (impl_CountWays.l2 k4 a2 y586 (rd t573 x60_3) t573 (x8_2.length : Int) x60_3 l0_1 (l0_1.length : Int) (wrap64 (x67_4 + 1)) a0_0 l0_1 t562) = some r := by first | (rw [hy586]; with_reducible exact H) | (have H2_ := (Option.bind_some _ _).symm.trans H; rw [hy586]; with_reducible exact H2_) | (have H2_ := (Option.bind_some _ _).symm.trans H; with_reducible exact H2_) | with_reducible exact H | (rw [hy586]; exact H) | exact H
     have Ny586 := Aside0.mk hy586
     clear hy586
     have H' := Aside0.mk H
     clear H
     have p580 : 0 ≤ (x67_4 : Int) := oa_
     have q580 : x67_4 < (l0_1.length : Int) := oa_
     obtain ⟨ad580, e580, hx580_0, hx580_1, hx580_2⟩ := at_T76 HR0_1.out x67_4 p580 q580
     cases e580
     replace hx580_0 := hc5_ HB hx580_0
     replace hx580_1 := hc5_ HB hx580_1
     replace hx580_2 := hc5_ HB hx580_2
     obtain ⟨p580, q580⟩ := et_ p580 q580
     try go_wp2_with ((with_reducible refine gate_dst (N := 14) rfl ?_); refine be_ 14 #[.int .i64 0, .int .i64 0, .int .i64 0] 76 ?_; intro gb581 hg w75 BK581 hb; have GW581 := ge_ HB hg; have GE581 := ge_ HB hg; have NB558_581 := nl_ BK558 hg; have NB581_558 := ng_ BK558 hg; have NB565_581 := nl_ BK565 hg; have NB581_565 := ng_ BK565 hg; replace HO_10 := rb_ HO_10 hb; replace HO_58 := rb_ HO_58 hb; replace HO_566000 := rb_ HO_566000 hb; replace HB := at_ HB hb; replace BK558 := ab_ BK558 hb; replace BK565 := ab_ BK565 hb; clear hb hg; have hnb76 := NB581_558.out; have hnc76 := NB558_581.out; have hnb77 := NB581_565.out; have hnc77 := NB565_581.out; have hcz78_0 := cz_ BK581 0 (.int .i64 0); have hcz78_1 := cz_ BK581 1 (.int .i64 0); have hcz78_2 := cz_ BK581 2 (.int .i64 0); have hfz78_0 := fz_ BK581 0; have hfz78_1 := fz_ BK581 1; have hfz78_2 := fz_ BK581 2)
     generalize hW_ : (((w75.setCell ⟨gb581, 0, none⟩ (.int .i64 ((rd_T76 l0_1 x67_4).f0))).setCell ⟨gb581, 1, none⟩ (.int .i64 ((rd_T76 l0_1 x67_4).f1))).setCell ⟨gb581, 2, none⟩ (.int .i64 ((rd_T76 l0_1 x67_4).f2))) = w79
     have n0_ : Aside0 (Kd.R (Kd.int .i64) 3 w79 w.heap.size (fun k_ => some k_ ≠ (.slice (some ad579) t573.length co50 : Value).ownBlock ∧ some k_ ≠ (.slice Ao28 t562.length co28 : Value).ownBlock) (.slice (some ⟨go49, 0, none⟩) x10_4.length co49) x10_4) := by subst hW_; exact ⟨hq_ (Kd.R_mono (Kd.R_far (Kd.R_far (Kd.R_far (Kd.R_types HO_10.out BK581.out (by decide)) (fun _ hk => hk.2) _) (fun _ hk => hk.2) _) (fun _ hk => hk.2) _) (fun _ hk => by first | exact ⟨hk.1.1, hk.1.2⟩ | grind))⟩
     have n1_ : Aside0 (Kd.R (Kd.int .i64) 3 w79 w.heap.size (fun k_ => some k_ ≠ (.slice (some ⟨go49, 0, none⟩) x10_4.length co49 : Value).ownBlock ∧ some k_ ≠ (.slice Ao28 t562.length co28 : Value).ownBlock) (.slice (some ad579) t573.length co50) t573) := by subst hW_; exact ⟨hq_ (Kd.R_mono (Kd.R_far (Kd.R_far (Kd.R_far (Kd.R_types HO_58.out BK581.out (by decide)) (fun _ hk => hk.2) _) (fun _ hk => hk.2) _) (fun _ hk => hk.2) _) (fun _ hk => by first | exact ⟨hk.1.1, hk.1.2⟩ | grind))⟩
     have n2_ : Aside0 (Kd.R (Kd.int .i64) 3 w79 w.heap.size (fun k_ => some k_ ≠ (.slice (some ⟨go49, 0, none⟩) x10_4.length co49 : Value).ownBlock ∧ some k_ ≠ (.slice (some ad579) t573.length co50 : Value).ownBlock) (.slice Ao28 t562.length co28) t562) := by subst hW_; exact ⟨hq_ (Kd.R_mono (Kd.R_far (Kd.R_far (Kd.R_far (Kd.R_types HO_566000.out BK581.out (by decide)) (fun _ hk => hk.2) _) (fun _ hk => hk.2) _) (fun _ hk => hk.2) _) (fun _ hk => by first | exact ⟨hk.1.1, hk.1.2⟩ | grind))⟩
     have n3_ : Aside0 (w79.heap[gb558]? = some (.cells #[.int .i64 a0_0, .slice (some ad580) l0_1.length c0_1] 30 (0, 0))) := by subst hW_; exact ⟨bc_ BK558⟩
     have n4_ : Aside0 (w79.heap[gb565]? = some (.cells #[.slice Ao28 t562.length co28] 26 (0, 0))) := by subst hW_; exact ⟨bc_ BK565⟩
     have n5_ : Aside0 (w79.heap[gb581]? = some (.cells #[.int .i64 ((rd_T76 l0_1 x67_4).f0), .int .i64 ((rd_T76 l0_1 x67_4).f1), .int .i64 ((rd_T76 l0_1 x67_4).f2)] 76 (0, 0))) := by subst hW_; exact ⟨by refine bd_ ?_; refine blk_put (cs := #[.int .i64 ((rd_T76 l0_1 x67_4).f0), .int .i64 ((rd_T76 l0_1 x67_4).f1), .int .i64 0]) ?_ 2 _ rfl; refine bd_ ?_; refine blk_put (cs := #[.int .i64 ((rd_T76 l0_1 x67_4).f0), .int .i64 0, .int .i64 0]) ?_ 1 _ rfl; refine bd_ ?_; refine blk_put (cs := #[.int .i64 0, .int .i64 0, .int .i64 0]) ?_ 0 _ rfl; refine bd_ ?_; exact BK581.out⟩
     have n6_ : Aside0 (Below w.heap.size w w79) := by subst hW_; exact ⟨bw115_⟩
     clear hW_ HO_10 HO_58 HO_566000 BK558 BK565 BK581 HB
     have HO_10 := n0_
     have HO_58 := n1_
     have HO_566000 := n2_
     have BK558 := n3_
     have BK565 := n4_
     have BK581 := n5_
     have HB := n6_
     clear n0_ n1_ n2_ n3_ n4_ n5_ n6_
     replace HO_10 := rw5_ HO_10
     replace HO_58 := rw5_ HO_58
     replace HO_566000 := rw5_ HO_566000
     replace BK558 := ad_ BK558
     replace BK565 := ad_ BK565
     replace BK581 := ad_ BK581
     replace HB := Aside0.mk (below_drew1 HB.out)
     have p582 : 0 ≤ ((rd t573 x60_3) : Int) := oa_
     have q582 : (rd t573 x60_3) < (t562.length : Int) := oa_
     obtain ⟨ad582, e582, hx582_0⟩ := Kd.at_int (Kd.R_reads' HO_566000.out).2.2 (rd t573 x60_3) p582 q582
     cases e582
     obtain ⟨p582, q582⟩ := et_ p582 q582
     have p583 : 0 ≤ (((rd_T76 l0_1 x67_4).f1) : Int) := oa_
     have q583 : ((rd_T76 l0_1 x67_4).f1) < (t562.length : Int) := oa_
     obtain ⟨ad583, e583, hx583_0⟩ := Kd.at_int (Kd.R_reads' HO_566000.out).2.2 ((rd_T76 l0_1 x67_4).f1) p583 q583
     obtain rfl : ad582 = ad583 := (by injection e583)
     obtain ⟨p583, q583⟩ := et_ p583 q583
     refine start_ (n := 19) (S := fun w' => w'.cell? ⟨gb581, 0, none⟩ = some (.int .i64 ((rd_T76 l0_1 x67_4).f0)) ∧ w'.cell? ⟨gb581, 1, none⟩ = some (.int .i64 ((rd_T76 l0_1 x67_4).f1)) ∧ w'.cell? ⟨gb581, 2, none⟩ = some (.int .i64 ((rd_T76 l0_1 x67_4).f2)) ∧ w'.cell? ⟨gb565, 0, none⟩ = some (.slice (some ad582) t562.length co28) ∧ w'.cell? (ad582.add ((rd t573 x60_3)).toNat) = some (.int .i64 (rd t562 (rd t573 x60_3))) ∧ w'.cell? (ad582.add (((rd_T76 l0_1 x67_4).f1)).toNat) = some (.int .i64 (rd t562 ((rd_T76 l0_1 x67_4).f1)))) (ds := []) ba20_0 (by kernel_rfl) rfl rfl ⟨bq5_ BK581 0, bq5_ BK581 1, bq5_ BK581 2, bq5_ BK565 0, hx582_0, hx583_0⟩ (fun hHeld => ?_); refine with_tabW impl_CountWays.tab20 impl_CountWays.bits20 (fun HT_ HW_ => ?_)
     generalize w79.drew = w80 at HO_10 HO_58 HO_566000 BK558 BK565 BK581 HB hx582_0 hx583_0 hHeld ⊢
     refine pz_ 0 71 ba20_1 HT_ ?_
     refine pz_ 2 73 ba20_2 HT_ ?_
     refine pt_ 1 72 ba20_3 HT_ HW_ hHeld ?_
     refine pz_ 3 74 ba20_4 HT_ ?_
     refine pz_ 4 75 ba20_5 HT_ ?_
     refine pz_ 6 77 ba20_6 HT_ ?_
     refine pz_ 9 80 ba20_7 HT_ ?_
     refine pz_ 13 84 ba20_8 HT_ ?_
     refine pt_ 5 76 ba20_9 HT_ HW_ hHeld ?_
     refine pz_ 7 78 ba20_10 HT_ ?_
     refine pt_ 8 79 ba20_11 HT_ HW_ hHeld ?_
     refine pt_ 10 81 ba20_12 HT_ HW_ hHeld ?_
     refine pz_ 11 82 ba20_13 HT_ ?_
     refine pt_ 12 83 ba20_14 HT_ HW_ hHeld ?_
     refine pt_ 14 85 ba20_15 HT_ HW_ hHeld ?_
     refine pz_ 15 86 ba20_16 HT_ ?_
     refine pt_ 16 87 ba20_17 HT_ HW_ hHeld ?_
     refine pz_ 17 88 ba20_18 HT_ ?_
     refine pz_ 18 89 ba20_19 HT_ ?_
     refine done_ (done_of HT_.out (by kernel_rfl)) ?_
     go_wp2
     replace HO_10 := rw5_ HO_10
     replace HO_58 := rw5_ HO_58
     replace HO_566000 := rw5_ HO_566000
     replace BK558 := ad_ BK558
     replace BK565 := ad_ BK565
     replace BK581 := ad_ BK581
     replace HB := Aside0.mk (below_drew1 HB.out)
     have p584 : 0 ≤ (((rd_T76 l0_1 x67_4).f1) : Int) := oa_
     have q584 : ((rd_T76 l0_1 x67_4).f1) < (x10_4.length : Int) := oa_
     obtain ⟨ad584, e584, hx584_0⟩ := Kd.at_int (Kd.R_reads' HO_10.out).2.2 ((rd_T76 l0_1 x67_4).f1) p584 q584
     obtain rfl : (⟨go49, 0, none⟩ : Addr) = ad584 := (by injection e584)
     simp only [add_plain] at hx584_0
     obtain ⟨p584, q584⟩ := et_ p584 q584
     have p585 : 0 ≤ ((rd t573 x60_3) : Int) := oa_
     have q585 : (rd t573 x60_3) < (x10_4.length : Int) := oa_
     obtain ⟨ad585, e585, hx585_0⟩ := Kd.at_int (Kd.R_reads' HO_10.out).2.2 (rd t573 x60_3) p585 q585
     obtain rfl : (⟨go49, 0, none⟩ : Addr) = ad585 := (by injection e585)
     simp only [add_plain] at hx585_0
     obtain ⟨p585, q585⟩ := et_ p585 q585
     have p74 : 0 ≤ (((rd_T76 l0_1 x67_4).f1) : Int) := oa_
     have q74 : (((rd_T76 l0_1 x67_4).f1) : Int) < ((x10_4.length : Int) : Int) := oa_
     obtain ⟨hx74_0, hf74_0⟩ := Kd.R_celln 0 HO_10.out (((rd_T76 l0_1 x67_4).f1) : Int) p74 q74
     obtain ⟨p74, q74⟩ := et_ p74 q74
     have HP82 := Kd.R_putn HO_10.out (((rd_T76 l0_1 x67_4).f1) : Int) (wrap64 ((rd x10_4 ((rd_T76 l0_1 x67_4).f1)) + (rd x10_4 (rd t573 x60_3))))
     rw [← Ny586.out] at HP82
     have HQ82 := Aside0.mk HP82
     clear HP82
     refine start_ (n := 12) (S := fun w' => w'.cell? ⟨gb581, 0, none⟩ = some (.int .i64 ((rd_T76 l0_1 x67_4).f0)) ∧ w'.cell? ⟨gb581, 1, none⟩ = some (.int .i64 ((rd_T76 l0_1 x67_4).f1)) ∧ w'.cell? ⟨gb581, 2, none⟩ = some (.int .i64 ((rd_T76 l0_1 x67_4).f2)) ∧ w'.cell? ⟨go49, (((rd_T76 l0_1 x67_4).f1)).toNat, none⟩ = some (.int .i64 (rd x10_4 ((rd_T76 l0_1 x67_4).f1))) ∧ w'.cell? ⟨go49, ((rd t573 x60_3)).toNat, none⟩ = some (.int .i64 (rd x10_4 (rd t573 x60_3)))) (ds := [11]) ba20_20 (by kernel_rfl) rfl rfl ⟨bq5_ BK581 0, bq5_ BK581 1, bq5_ BK581 2, hx584_0, hx585_0⟩ (fun hHeld => ?_); refine with_tabW impl_CountWays.tab21 impl_CountWays.bits21 (fun HT_ HW_ => ?_)
     generalize w80.drew = w81 at HO_10 HO_58 HO_566000 BK558 BK565 BK581 HB HQ82 hf74_0 hx584_0 hx585_0 hx74_0 hHeld ⊢
     refine pz_ 0 90 ba20_21 HT_ ?_
     refine pz_ 1 91 ba20_22 HT_ ?_
     refine pz_ 5 95 ba20_23 HT_ ?_
     refine pz_ 6 96 ba20_24 HT_ ?_
     refine pz_ 7 97 ba20_25 HT_ ?_
     refine pt_ 2 92 ba20_26 HT_ HW_ hHeld ?_
     refine pz_ 3 93 ba20_27 HT_ ?_
     refine pt_ 4 94 ba20_28 HT_ HW_ hHeld ?_
     refine pt_ 8 98 ba20_29 HT_ HW_ hHeld ?_
     refine pz_ 9 99 ba20_30 HT_ ?_
     refine pz_ 10 100 ba20_31 HT_ ?_
     refine last_ (i := 11) (N := none) ba20_32 rfl rfl (one_of HT_.out (by kernel_rfl)) (by decide) (fun K hK => ?_)
     refine skip_ (w1 := ?_) (by rfl) rfl ?_ ?_
     rotate_left; · go_simp; rfl
     refine hK.out _ _ ?_
     clear hK K
     refine done_ (done_of HT_.out (by kernel_rfl)) ?_
     go_wp2
     (try simp only [← hl10_4])
     go_roundg k4
     case measure => have := HJ3.out; have := HK2.out; have := HK3.out; have := HK4.out; omega
     case rel => exact ⟨(y586), (wrap64 (x67_4 + 1)), er_, H', ⟨by have := HJ3.out; have := HK2.out; have := HK3.out; have := HK4.out; omega⟩, ⟨by (try simp only [hl10_3]); (try simp only [hl58_3]); (try simp only [hl10_4]); (with_reducible repeat (first | apply Kd.R_alloc | apply Kd.R_drewN | apply Kd.R_drew)); exact HQ82.out⟩, ⟨by (try simp only [hl10_3]); (try simp only [hl58_3]); (try simp only [hl10_4]); (with_reducible repeat (first | apply Kd.R_alloc | apply Kd.R_drewN | apply Kd.R_drew)); exact Kd.R_mono (Kd.R_far (p := ⟨go49, (((rd_T76 l0_1 x67_4).f1) : Int).toNat, none⟩) (Kd.R_mono HO_58.out (fun k_ hk => (⟨hk, fun e_ => hk.1 (by rw [e_]; rfl)⟩ : _ ∧ k_ ≠ go49))) (fun _ hk => hk.2) (.int .i64 (wrap64 ((rd x10_4 ((rd_T76 l0_1 x67_4).f1)) + (rd x10_4 (rd t573 x60_3)))))) (fun _ hk => by first | exact ⟨hk.1.1, hk.1.2⟩ | grind)⟩, ⟨by (try simp only [hl10_3]); (try simp only [hl58_3]); (try simp only [hl10_4]); (with_reducible repeat (first | apply Kd.R_alloc | apply Kd.R_drewN | apply Kd.R_drew)); exact Kd.R_mono (Kd.R_far (p := ⟨go49, (((rd_T76 l0_1 x67_4).f1) : Int).toNat, none⟩) (Kd.R_mono HO_566000.out (fun k_ hk => (⟨hk, fun e_ => hk.1 (by rw [e_]; rfl)⟩ : _ ∧ k_ ≠ go49))) (fun _ hk => hk.2) (.int .i64 (wrap64 ((rd x10_4 ((rd_T76 l0_1 x67_4).f1)) + (rd x10_4 (rd t573 x60_3)))))) (fun _ hk => by first | exact ⟨hk.1.1, hk.1.2⟩ | grind)⟩, ⟨by (try simp only [hl10_3]); (try simp only [hl58_3]); (try simp only [hl10_4]); refine bd_ ?_; refine blk_far ?_ (by have h_ := Kd.R_ne HO_10.out BK558.out (by decide); intro e_; exact h_ (by rw [e_]; rfl)) _; refine bd_ ?_; exact BK558.out⟩, ⟨by (try simp only [hl10_3]); (try simp only [hl58_3]); (try simp only [hl10_4]); refine bd_ ?_; refine blk_far ?_ (by have h_ := Kd.R_ne HO_10.out BK565.out (by decide); intro e_; exact h_ (by rw [e_]; rfl)) _; refine bd_ ?_; exact BK565.out⟩, ⟨by repeat (first | (with_reducible first | exact HB.out | apply below_alloc | apply pw_below_drewN | apply below_drew1 | refine below_set ?_ GB49.out | refine below_set ?_ GE558.out | refine below_set ?_ GE565.out | refine below_set ?_ GE581.out) | exact HB.out)⟩⟩
end Go.Proofs.Ythmahcohcphljaa.QFnCheapest
