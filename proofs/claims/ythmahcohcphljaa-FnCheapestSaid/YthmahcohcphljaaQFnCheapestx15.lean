/- Contracts of functions that the law reaches: what each call returns and what it leaves in memory. Made by this session over the print of the kit. -/
import Derived.Test.YthmahcohcphljaaQFnCheapestx0
import Derived.Test.YthmahcohcphljaaQFnCheapestx1
import Derived.Test.YthmahcohcphljaaQFnCheapestx2
import Derived.Test.YthmahcohcphljaaQFnCheapestx7
import Derived.Test.YthmahcohcphljaaQFnCheapestx13
import Derived.Test.YthmahcohcphljaaQFnCheapestx14
namespace Go.Proofs.Ythmahcohcphljaa.QFnCheapest
open Go.RowKit Go.Proofs.YthmahcohcphljaaC.PrintWords Go.Proofs.YthmahcohcphljaaC.PrintLast Go.Proofs.YthmahcohcphljaaC.PrintMore
attribute [local go_sem] max2_int min2_int max_two min_two max_three min_three max_four min_four
set_option linter.unusedVariables false
set_option linter.unusedSimpArgs false
def ba15_0 := bs_ 38 0
def ba15_1 := bs_ 38 1
def ba15_2 := bs_ 38 3
def ba15_3 := bs_ 38 7
def ba15_4 := bs_ 38 15
def ba15_5 := bs_ 38 31
def ba15_6 := bs_ 38 63
def ba15_7 := bs_ 38 127
def ba15_8 := bs_ 38 255
def ba15_9 := bs_ 38 511
def ba15_10 := bs_ 38 1023
def ba15_11 := bs_ 38 2047
def ba15_12 := bs_ 38 4095
def ba15_13 := bs_ 38 8191
def ba15_14 := bs_ 38 16383
def ba15_15 := bs_ 38 32767
def ba15_16 := bs_ 38 65535
def ba15_17 := bs_ 38 131071
def ba15_18 := bs_ 38 262143
def ba15_19 := bs_ 38 524287
def ba15_20 := bs_ 38 1048575
def ba15_21 := bs_ 38 2097151
def ba15_22 := bs_ 38 4194303
def ba15_23 := bs_ 38 8388607
def ba15_24 := bs_ 38 16777215
def ba15_25 := bs_ 38 33554431
def ba15_26 := bs_ 38 67108863
def ba15_27 := bs_ 38 134217727
def ba15_28 := bs_ 38 268435455
def ba15_29 := bs_ 38 536870911
def ba15_30 := bs_ 38 1073741823
def ba15_31 := bs_ 38 2147483647
def ba15_32 := bs_ 38 4294967295
def ba15_33 := bs_ 38 8589934591
def ba15_34 := bs_ 38 17179869183
def ba15_35 := bs_ 38 34359738367
def ba15_36 := bs_ 38 68719476735
def ba15_37 := bs_ 38 137438953471
def ba15_38 := bs_ 38 274877906943
def ba15_39 := bs_ 38 1310719
def ba15_40 := bs_ 38 3407871
def ba15_41 := bs_ 38 7602175
def ba15_42 := bs_ 38 7864319
def ba15_43 := bs_ 38 805306367
def ba15_44 := bs_ 38 2952790015
def ba15_45 := bs_ 38 37312528383
def ba15_46 := bs_ 38 37580963839
def ba15_47 := bs_ 38 38654705663
def ba15_48 := bs_ 38 42949672959
def ba15_49 := bs_ 38 51539607551
mutual
def spec_CheapestWay.j0 : Nat → Int → Int → Bool → Int → List (S76) → Option (List Int × Bool)
 | 0, _, _, _, _, _ => none
 | k + 1, x1, x2, x29, x459000, x459001 => if x29 = true then (some (([] : List Int), false)) else ((spec_l03Steps.f k x459000 x459001 x2).bind fun bt462 => (if 0 ≤ x1 then (if x1 < (bt462.2.length : Int) then (if (rd bt462.2 x1) = 0 then (some (([] : List Int), false)) else (spec_CheapestWay.l0 k x2 bt462.1 bt462.2 (([x1] : List Int)) x1 x459000 x459001)) else (none)) else (none)))
def spec_CheapestWay.l0 : Nat → Int → List Int → List Int → List Int → Int → Int → List (S76) → Option (List Int × Bool)
 | 0, _, _, _, _, _, _, _ => none
 | k + 1, x2, x8, x9, x10, x11, x459000, x459001 => if x11 = x2 then (some (x10, true)) else ((spec_Distances.f k x459000 x459001 x11).bind fun t472 => (if 0 ≤ x2 then (if x2 < (t472.length : Int) then (spec_CheapestWay.l1 k x2 x8 x9 x10 x11 (rd t472 x2) 0 x459000 x459001) else (none)) else (none)))
def spec_CheapestWay.l1 : Nat → Int → List Int → List Int → List Int → Int → Int → Int → Int → List (S76) → Option (List Int × Bool)
 | 0, _, _, _, _, _, _, _, _, _ => none
 | k + 1, x2, x8, x9, x10, x11, x12, x13, x459000, x459001 => if x13 < x459000 then ((spec_l03Cost.f k x459000 x459001 x11 x13).bind fun t479 => (if x13 = x11 then (spec_CheapestWay.l1 k x2 x8 x9 x10 x11 x12 (wrap64 (x13 + 1)) x459000 x459001) else (if t479 < 1000000 then (if 0 ≤ x13 then (if x13 < (x9.length : Int) then (if (rd x9 x13) > 0 then (if x13 < (x8.length : Int) then (if 0 ≤ x11 then (if x11 < (x8.length : Int) then (if (wrap64 ((rd x8 x13) + 1)) = (rd x8 x11) then ((spec_Distances.f k x459000 x459001 x13).bind fun t483 => (if 0 ≤ x2 then (if x2 < (t483.length : Int) then (if (wrap64 (t479 + (rd t483 x2))) = x12 then (if x10.length < 17592186044416 then (spec_CheapestWay.l0 k x2 x8 x9 (x10 ++ [x13]) x13 x459000 x459001) else (none)) else (spec_CheapestWay.l1 k x2 x8 x9 x10 x11 x12 (wrap64 (x13 + 1)) x459000 x459001)) else (none)) else (none))) else (spec_CheapestWay.l1 k x2 x8 x9 x10 x11 x12 (wrap64 (x13 + 1)) x459000 x459001)) else (none)) else (none)) else (none)) else (spec_CheapestWay.l1 k x2 x8 x9 x10 x11 x12 (wrap64 (x13 + 1)) x459000 x459001)) else (none)) else (none)) else (spec_CheapestWay.l1 k x2 x8 x9 x10 x11 x12 (wrap64 (x13 + 1)) x459000 x459001)))) else (if x10.length < 17592186044416 then (spec_CheapestWay.l0 k x2 x8 x9 (x10 ++ [x11]) x11 x459000 x459001) else (none))
end
def spec_CheapestWay.f (k : Nat) (a0_0 : Int) (l0_1 : List (S76)) (a1 : Int) (a2 : Int) : Option (List Int × Bool) := (spec_GraphOk.f k a0_0 l0_1).bind fun t459 => (if t459 = true then ((spec_l03Node.f a0_0 l0_1 a1).bind fun t460 => (if t460 = true then ((spec_l03Node.f a0_0 l0_1 a2).bind fun t461 => (spec_CheapestWay.j0 k a1 a2 (!t461) a0_0 l0_1)) else (spec_CheapestWay.j0 k a1 a2 true a0_0 l0_1))) else (spec_CheapestWay.j0 k a1 a2 true a0_0 l0_1))
def spec_CheapestWay.T14 : Bool × List (List Nat × List Nat) := (true, [([], []), ([], []), ([0, 1], [0, 1]), ([2], [2]), ([3], [3]), ([4, 3], [3, 4]), ([3, 5], [3, 5]), ([6, 3], [6]), ([7], [7]), ([7], [7]), ([8, 9, 7], [7, 8, 9]), ([10, 7], [7, 10]), ([11, 7], [7, 11]), ([7, 12], [7, 12]), ([13, 7], [13]), ([14], [14]), ([14], [14]), ([15, 16, 14], [14, 15, 16]), ([17, 14], [14, 17]), ([18, 14], [14, 18]), ([14], [14]), ([14], [14]), ([20, 21, 14], [14, 20, 21]), ([22, 14], [14, 22]), ([19, 23, 14], [14, 19, 23]), ([14, 24], [14, 24]), ([25, 14], [25]), ([26], [26]), ([26], [26]), ([26], [26]), ([28, 29, 26, 26], [26, 28, 29]), ([26], [26]), ([30, 31, 26], [26, 30, 31]), ([32, 26], [26, 32]), ([27, 33, 26], [26, 27, 33]), ([26], [26]), ([34, 35, 26], [26, 34, 35]), ([26, 36], [26, 36])])
def spec_CheapestWay.B14 : List Nat := [0, 0, 3, 7, 15, 31, 63, 127, 255, 255, 1023, 2047, 4095, 8191, 16383, 32767, 32767, 131071, 262143, 524287, 32767, 32767, 3178495, 7372799, 16777215, 33554431, 67108863, 134217727, 134217727, 134217727, 939524095, 134217727, 4160749567, 8455716863, 17179869183, 134217727, 68719476735, 137438953471]
theorem spec_CheapestWay.tab14 : rtab .any (opsOf Try.f39 14) = spec_CheapestWay.T14 := by kernel_rfl
theorem spec_CheapestWay.bits14 : waitsOk spec_CheapestWay.T14.2 spec_CheapestWay.B14 = true := by kernel_rfl
set_option maxHeartbeats 8000000 in
set_option maxRecDepth 100000 in
theorem spec_CheapestWay.calls (k : Nat) (a0_0 : Int) (A0_1 : Option Addr) (c0_1 : Nat) (l0_1 : List (S76)) (a1 : Int) (a2 : Int) (r1 : List Int) (r2 : Bool) (w : World) (hr0_1 : Kd.C k76 w A0_1 l0_1.length l0_1) (hc0_1 : l0_1.length ≤ c0_1) (h : spec_CheapestWay.f k a0_0 l0_1 a1 a2 = some (r1, r2)) :
  Calls Try.prog 39 #[.agg #[.int .i64 a0_0, .slice A0_1 l0_1.length c0_1], .int .i64 a1, .int .i64 a2] w fun e w' => ∃ v0_ : Value, e = .returned (.tuple #[v0_, .bool r2]) ∧ Kd.R (Kd.int .i64) 3 w' w.heap.size (fun _ => True) v0_ r1 ∧ Below w.heap.size w w' := by
 have hu30 := Try.underlying30
 have HR0_1 := Aside0.mk hr0_1
 have HC0_1 := Aside0.mk hc0_1
 clear hr0_1 hc0_1
 have HB := Aside0.mk (Below.refl w.heap.size w)
 have H : ((spec_GraphOk.f k a0_0 l0_1).bind fun t459 => (if t459 = true then ((spec_l03Node.f a0_0 l0_1 a1).bind fun t460 => (if t460 = true then ((spec_l03Node.f a0_0 l0_1 a2).bind fun t461 => (spec_CheapestWay.j0 k a1 a2 (!t461) a0_0 l0_1)) else (spec_CheapestWay.j0 k a1 a2 true a0_0 l0_1))) else (spec_CheapestWay.j0 k a1 a2 true a0_0 l0_1))) = some (r1, r2) := h
 clear h
 have HC4 := Aside0.mk H
 clear H
 go_enter Try.func39, Try.ntmps39
 go_upto_region 1 with ((with_reducible refine gate_dst (N := 3) rfl ?_); refine be_ 3 #[.int .i64 a0_0, .slice A0_1 l0_1.length c0_1] 30 ?_; intro gb458 hg w5 BK458 hb; have GW458 := ge_ HB hg; have GE458 := ge_ HB hg; replace HB := at_ HB hb; clear hb hg)
 (try simp only [Act.put, List.setIfInBounds_toArray, List.set_cons_zero, List.set_cons_succ])
 go_cut [29] (fun v29 wc => ∃ (kq : Nat) (x29_3 : Bool), v29 = .bool x29_3 ∧ Aside0 (spec_CheapestWay.j0 kq a1 a2 x29_3 a0_0 l0_1 = some (r1, r2)) ∧ Aside0 (kq ≤ k) ∧ Aside0 (wc.heap[gb458]? = some (.cells #[.int .i64 a0_0, (.slice A0_1 l0_1.length c0_1)] 30 (0, 0))) ∧ Aside0 (Below w.heap.size w wc))
 case first =>
  have H := HC4.out
  clear HC4
  obtain ⟨t459, A6, H⟩ := ob_ H
  by_cases c7 : t459 = true
  rotate_left
  ·replace c7 := Bool.eq_false_iff.mpr c7
   subst c7
   rw [if_neg (show ¬ (false = true) by decide)] at H
   have H' := Aside0.mk H
   clear H
   have hcz21_0 := cz_ BK458 0 (.int .i64 a0_0)
   have hcz21_1 := cz_ BK458 1 (.slice A0_1 l0_1.length c0_1)
   have hfz21_0 := fz_ BK458 0
   have hfz21_1 := fz_ BK458 1
   go_wp2_with ((with_reducible refine gate_callee (f := 25) rfl ?_); refine gl_ (some 16) Try.func25 #[.agg #[.int .i64 a0_0, .slice A0_1 l0_1.length c0_1]] ?_; (with_reducible refine (spec_GraphOk.calls k a0_0 _ _ l0_1 false _ ?side1 ?side2 A6.out).mono ?_); (case side1 => exact cb_ HR0_1 HB); (case side2 => exact HC0_1.out); rintro e w22 ⟨rfl, hb⟩; refine ⟨_, rfl, ?_⟩; replace BK458 := ab_ BK458 hb; replace HB := at_ HB hb; clear hb)
   go_meet
   case rel => exact ⟨_, (true), er_, H', ⟨by first | omega | exact Nat.le_refl _⟩, ⟨bx_ BK458⟩, ⟨bw115_⟩⟩
  subst c7
  rw [if_pos rfl] at H
  obtain ⟨t460, A8, H⟩ := ob_ H
  by_cases c9 : t460 = true
  rotate_left
  ·replace c9 := Bool.eq_false_iff.mpr c9
   subst c9
   rw [if_neg (show ¬ (false = true) by decide)] at H
   have H' := Aside0.mk H
   clear H
   have hcz17_0 := cz_ BK458 0 (.int .i64 a0_0)
   have hcz17_1 := cz_ BK458 1 (.slice A0_1 l0_1.length c0_1)
   have hfz17_0 := fz_ BK458 0
   have hfz17_1 := fz_ BK458 1
   go_wp2_with (first | ((with_reducible refine gate_callee (f := 25) rfl ?_); refine gl_ (some 16) Try.func25 #[.agg #[.int .i64 a0_0, .slice A0_1 l0_1.length c0_1]] ?_; (with_reducible refine (spec_GraphOk.calls k a0_0 _ _ l0_1 true _ ?side1 ?side2 A6.out).mono ?_); (case side1 => exact cb_ HR0_1 HB); (case side2 => exact HC0_1.out); rintro e w18 ⟨rfl, hb⟩; refine ⟨_, rfl, ?_⟩; replace BK458 := ab_ BK458 hb; replace HB := at_ HB hb; clear hb; have hcz19_0 := cz_ BK458 0 (.int .i64 a0_0); have hcz19_1 := cz_ BK458 1 (.slice A0_1 l0_1.length c0_1); have hfz19_0 := fz_ BK458 0; have hfz19_1 := fz_ BK458 1) | (go_at_call 45; (with_reducible refine (spec_l03Node.calls a0_0 _ _ l0_1 a1 false _ ?side1 ?side2 A8.out).mono ?_); (case side1 => exact cb_ HR0_1 HB); (case side2 => exact HC0_1.out); rintro e w20 ⟨rfl, hb⟩; replace BK458 := ab_ BK458 hb; replace HB := at_ HB hb; clear hb))
   go_meet
   case rel => exact ⟨_, (true), er_, H', ⟨by first | omega | exact Nat.le_refl _⟩, ⟨bx_ BK458⟩, ⟨bw115_⟩⟩
  subst c9
  rw [if_pos rfl] at H
  obtain ⟨t461, A10, H⟩ := ob_ H
  have H' := Aside0.mk H
  clear H
  have hcz11_0 := cz_ BK458 0 (.int .i64 a0_0)
  have hcz11_1 := cz_ BK458 1 (.slice A0_1 l0_1.length c0_1)
  have hfz11_0 := fz_ BK458 0
  have hfz11_1 := fz_ BK458 1
  go_wp2_with (first | ((with_reducible refine gate_callee (f := 25) rfl ?_); refine gl_ (some 16) Try.func25 #[.agg #[.int .i64 a0_0, .slice A0_1 l0_1.length c0_1]] ?_; (with_reducible refine (spec_GraphOk.calls k a0_0 _ _ l0_1 true _ ?side1 ?side2 A6.out).mono ?_); (case side1 => exact cb_ HR0_1 HB); (case side2 => exact HC0_1.out); rintro e w12 ⟨rfl, hb⟩; refine ⟨_, rfl, ?_⟩; replace BK458 := ab_ BK458 hb; replace HB := at_ HB hb; clear hb; have hcz13_0 := cz_ BK458 0 (.int .i64 a0_0); have hcz13_1 := cz_ BK458 1 (.slice A0_1 l0_1.length c0_1); have hfz13_0 := fz_ BK458 0; have hfz13_1 := fz_ BK458 1) | (go_at_call 45; (with_reducible refine (spec_l03Node.calls a0_0 _ _ l0_1 a1 true _ ?side1 ?side2 A8.out).mono ?_); (case side1 => exact cb_ HR0_1 HB); (case side2 => exact HC0_1.out); rintro e w14 ⟨rfl, hb⟩; replace BK458 := ab_ BK458 hb; replace HB := at_ HB hb; clear hb; have hcz15_0 := cz_ BK458 0 (.int .i64 a0_0); have hcz15_1 := cz_ BK458 1 (.slice A0_1 l0_1.length c0_1); have hfz15_0 := fz_ BK458 0; have hfz15_1 := fz_ BK458 1) | (go_at_call 45; (with_reducible refine (spec_l03Node.calls a0_0 _ _ l0_1 a2 t461 _ ?side1 ?side2 A10.out).mono ?_); (case side1 => exact cb_ HR0_1 HB); (case side2 => exact HC0_1.out); rintro e w16 ⟨rfl, hb⟩; replace BK458 := ab_ BK458 hb; replace HB := at_ HB hb; clear hb))
  go_meet
  case rel => exact ⟨_, (!t461), er_, H', ⟨by first | omega | exact Nat.le_refl _⟩, ⟨bx_ BK458⟩, ⟨bw115_⟩⟩
 clear HC4
 obtain ⟨kq, x29_3, rfl, HA, HJ3, BK458, HB⟩ := hcut
 cases kq with
 | zero => exact absurd HA.out (by simp [spec_CheapestWay.j0])
 | succ kj3 =>
  have H := HA.out
  clear HA
  simp only [spec_CheapestWay.j0] at H
  by_cases c23 : x29_3 = true
  ·subst c23
   rw [if_pos rfl] at H
   simp only [Option.some.injEq, Prod.mk.injEq] at H
   obtain ⟨rfl, rfl⟩ := H
   go_wp2
   go_ret2
   exact ⟨_, ew_, by first | exact Kd.R_nil _ _ _ _ _ | exact Kd.N_nil _ _ _ _ _ | exact Kd.V_nil _ _ _ _ _ | exact Kd.Q_nil _ _ _ _ _ | exact Kd.S_nil _ _ _ _ _, bw115_⟩
  replace c23 := Bool.eq_false_iff.mpr c23
  subst c23
  rw [if_neg (show ¬ (false = true) by decide)] at H
  obtain ⟨⟨t462, t465⟩, A24, H⟩ := ob_ H
  obtain ⟨c25b0, H⟩ := iq_ H
  obtain ⟨c26b0, H⟩ := iq_ H
  by_cases c27 : (rd t465 a1) = 0
  ·rw [if_pos c27] at H
   have c27b0 : ((rd t465 a1) == 0) = true := beq_iff_eq.mpr c27
   have c27b1 : ((rd t465 a1) != 0) = false := bne_eq_false_iff_eq.mpr c27
   clear c27
   simp only [Option.some.injEq, Prod.mk.injEq] at H
   obtain ⟨rfl, rfl⟩ := H
   have hcz28_0 := cz_ BK458 0 (.int .i64 a0_0)
   have hcz28_1 := cz_ BK458 1 (.slice A0_1 l0_1.length c0_1)
   have hfz28_0 := fz_ BK458 0
   have hfz28_1 := fz_ BK458 1
   go_wp2_with ((with_reducible refine gate_callee (f := 71) rfl ?_); refine gl_ (some 33) Try.func71 #[.agg #[.int .i64 a0_0, .slice A0_1 l0_1.length c0_1], .int .i64 a2] ?_; (with_reducible refine (spec_l03Steps.calls kj3 a0_0 _ _ l0_1 a2 t462 t465 _ ?side1 ?side2 A24.out).mono ?_); (case side1 => exact cb_ HR0_1 HB); (case side2 => exact HC0_1.out); rintro e w29 ⟨v463, v466, rfl, ho0, ho1, hb⟩; refine ⟨_, rfl, ?_⟩; have HO464 := Aside0.mk (Kd.R_lower ho0 (bz_ HB)); have HO467 := Aside0.mk (Kd.R_lower ho1 (bz_ HB)); replace BK458 := ab_ BK458 hb; replace HB := at_ HB hb; clear hb ho0 ho1; obtain ⟨Ao30, co30, eo30⟩ := Kd.R_slice HO467.out; subst eo30; have p468 : 0 ≤ (a1 : Int) := oa_; have q468 : a1 < (t465.length : Int) := oa_; obtain ⟨ad468, e468, hx468_0⟩ := Kd.at_int (Kd.R_reads' HO467.out).2.2 a1 p468 q468; cases e468; obtain ⟨p468, q468⟩ := et_ p468 q468)
   go_ret2
   exact ⟨_, ew_, by first | exact Kd.R_nil _ _ _ _ _ | exact Kd.N_nil _ _ _ _ _ | exact Kd.V_nil _ _ _ _ _ | exact Kd.Q_nil _ _ _ _ _ | exact Kd.S_nil _ _ _ _ _, bw115_⟩
  rw [if_neg c27] at H
  have c27b0 : ((rd t465 a1) == 0) = false := beq_eq_false_iff_ne.mpr c27
  have c27b1 : ((rd t465 a1) != 0) = true := bne_iff_ne.mpr c27
  obtain ⟨y469, hy469⟩ : ∃ y_ : List Int, y_ = (([a1] : List Int)) := ⟨_, rfl⟩
  replace H : (spec_CheapestWay.l0 kj3 a2 t462 t465 y469 a1 a0_0 l0_1) = some (r1, r2) := by first | (rw [hy469]; with_reducible exact H) | (have H2_ := (Option.bind_some _ _).symm.trans H; rw [hy469]; with_reducible exact H2_) | (have H2_ := (Option.bind_some _ _).symm.trans H; with_reducible exact H2_) | with_reducible exact H | (rw [hy469]; exact H) | exact H
  have Ny469 := Aside0.mk hy469
  clear hy469
  have H' := Aside0.mk H
  clear H
  have hcz31_0 := cz_ BK458 0 (.int .i64 a0_0)
  have hcz31_1 := cz_ BK458 1 (.slice A0_1 l0_1.length c0_1)
  have hfz31_0 := fz_ BK458 0
  have hfz31_1 := fz_ BK458 1
  go_wp2_with (first | ((with_reducible refine gate_callee (f := 71) rfl ?_); refine gl_ (some 33) Try.func71 #[.agg #[.int .i64 a0_0, .slice A0_1 l0_1.length c0_1], .int .i64 a2] ?_; (with_reducible refine (spec_l03Steps.calls kj3 a0_0 _ _ l0_1 a2 t462 t465 _ ?side1 ?side2 A24.out).mono ?_); (case side1 => exact cb_ HR0_1 HB); (case side2 => exact HC0_1.out); rintro e w32 ⟨v463, v466, rfl, ho0, ho1, hb⟩; refine ⟨_, rfl, ?_⟩; have HO464 := Aside0.mk (Kd.R_lower ho0 (bz_ HB)); have HO467 := Aside0.mk (Kd.R_lower ho1 (bz_ HB)); replace BK458 := ab_ BK458 hb; replace HB := at_ HB hb; clear hb ho0 ho1; obtain ⟨Ao33, co33, eo33⟩ := Kd.R_slice HO467.out; subst eo33; have p468 : 0 ≤ (a1 : Int) := oa_; have q468 : a1 < (t465.length : Int) := oa_; obtain ⟨ad468, e468, hx468_0⟩ := Kd.at_int (Kd.R_reads' HO467.out).2.2 a1 p468 q468; cases e468; obtain ⟨p468, q468⟩ := et_ p468 q468) | ((with_reducible refine gate_dst (N := 42) rfl ?_); refine Kd.R_lit (Kd.int .i64) _ 3 ?hg (N := 42) ?hd (xs := ([a1] : List Int)) (inner := [.int .i64 a1]) (ok := fun _ => True) (okp := fun _ => True) ?hr ?hp (fun _ hk => hk) trivial (Below.refl _ _) (Nat.le_refl _) (by simp) ?_; (case hd => rfl); (case hg => rfl); (case hr => first | (go_simp; done) | (go_simp; rfl)); (case hp => exact (Reps.one (show Kd.M (Kd.int .i64) _ _ _ a1 [.int .i64 a1] from rfl) (Reps.none _ _))); intro v470 w34 ho35 hb hg_ hnew_; clear hg_ hnew_; (first | rw [← Ny469.out] at ho35 | (simp only [Int.reduceToNat] at ho35; rw [← Ny469.out] at ho35)); have HO471 := Aside0.mk (Kd.R_lower (Kd.R_new' (Kd.R_new' ho35 (Kd.R_lt (hd_ HO464))) (Kd.R_lt (hd_ HO467))) (bz_ HB)); replace HO464 := Aside0.mk (Kd.R_elder' (hd_ HO464) (Kd.R_base ho35) hb); replace HO467 := Aside0.mk (Kd.R_elder' (hd_ HO467) (Kd.R_base ho35) hb); replace BK458 := ab_ BK458 hb; replace HB := at_ HB hb; clear hb ho35))
  (try simp only [Act.put, List.setIfInBounds_toArray, List.set_cons_zero, List.set_cons_succ])
  go_loopg [10, 11] kj3 (fun kq v10 v11 w' => ∃ (x10_2 : List Int) (x11_2 : Int), v11 = .int .i64 x11_2 ∧ Aside0 (spec_CheapestWay.l0 kq a2 t462 t465 x10_2 x11_2 a0_0 l0_1 = some (r1, r2)) ∧ Aside0 (kq ≤ kj3) ∧ Aside0 (Kd.R (Kd.int .i64) 3 w' w.heap.size (fun k_ => some k_ ≠ ((.slice (some ad468) t465.length co33) : Value).ownBlock ∧ some k_ ≠ (v10 : Value).ownBlock) v463 t462) ∧ Aside0 (Kd.R (Kd.int .i64) 3 w' w.heap.size (fun k_ => some k_ ≠ (v463 : Value).ownBlock ∧ some k_ ≠ (v10 : Value).ownBlock) (.slice (some ad468) t465.length co33) t465) ∧ Aside0 (Kd.R (Kd.int .i64) 3 w' w.heap.size (fun k_ => some k_ ≠ (v463 : Value).ownBlock ∧ some k_ ≠ ((.slice (some ad468) t465.length co33) : Value).ownBlock) v10 x10_2) ∧ Aside0 (w'.heap[gb458]? = some (.cells #[.int .i64 a0_0, (.slice A0_1 l0_1.length c0_1)] 30 (0, 0))) ∧ Aside0 (Below w.heap.size w w'))
  case atStart => exact ⟨(y469), (a1), er_, H', ⟨Nat.le_refl _⟩, ⟨hd_ HO464⟩, ⟨hd_ HO467⟩, ⟨hq_ (Kd.R_mono HO471.out (fun _ hk => by first | exact ⟨hk.1.2, hk.2⟩ | grind))⟩, ⟨bx_ BK458⟩, ⟨bw115_⟩⟩
  clear H' c25b0 c26b0 c27 c27b0 c27b1 hcz31_0 hcz31_1 hfz31_0 hfz31_1 hx468_0 p468 q468
  obtain ⟨x10_2, x11_2, rfl, HA, HK2, HO_8, HO_9, HO_10, BK458, HB⟩ := hrel
  cases gk with
  | zero => exact absurd HA.out (by simp [spec_CheapestWay.l0])
  | succ k2 =>
   have H := HA.out
   clear HA
   simp only [spec_CheapestWay.l0] at H
   by_cases c36 : x11_2 = a2
   ·rw [if_pos c36] at H
    have c36b0 : (x11_2 == a2) = true := beq_iff_eq.mpr c36
    have c36b1 : (x11_2 != a2) = false := bne_eq_false_iff_eq.mpr c36
    clear c36
    simp only [Option.some.injEq, Prod.mk.injEq] at H
    obtain ⟨rfl, rfl⟩ := H
    go_wp2
    go_ret2
    exact ⟨_, ew_, by (with_reducible repeat (first | apply Kd.R_alloc | apply Kd.R_drewN | apply Kd.R_drew)); exact Kd.R_mono HO_10.out (fun _ hk => trivial), bw115_⟩
   rw [if_neg c36] at H
   have c36b0 : (x11_2 == a2) = false := beq_eq_false_iff_ne.mpr c36
   have c36b1 : (x11_2 != a2) = true := bne_iff_ne.mpr c36
   obtain ⟨t472, A37, H⟩ := ob_ H
   obtain ⟨c38b0, H⟩ := iq_ H
   obtain ⟨c39b0, H⟩ := iq_ H
   have H' := Aside0.mk H
   clear H
   have hcz40_0 := cz_ BK458 0 (.int .i64 a0_0)
   have hcz40_1 := cz_ BK458 1 (.slice A0_1 l0_1.length c0_1)
   have hfz40_0 := fz_ BK458 0
   have hfz40_1 := fz_ BK458 1
   go_wp2_with ((with_reducible refine gate_callee (f := 33) rfl ?_); refine gl_ (some 49) Try.func33 #[.agg #[.int .i64 a0_0, .slice A0_1 l0_1.length c0_1], .int .i64 x11_2] ?_; (with_reducible refine (spec_Distances.calls k2 a0_0 _ _ l0_1 x11_2 t472 _ ?side1 ?side2 A37.out).mono ?_); (case side1 => exact cb_ HR0_1 HB); (case side2 => exact HC0_1.out); rintro e w41 ⟨v473, rfl, ho0, hb⟩; refine ⟨_, rfl, ?_⟩; have HO474 := Aside0.mk (Kd.R_lower (Kd.R_new' (Kd.R_new' (Kd.R_new' ho0 (Kd.R_lt (hd_ HO_8))) (Kd.R_lt (hd_ HO_9))) (Kd.R_lt (hd_ HO_10))) (bz_ HB)); replace HO_8 := Aside0.mk (Kd.R_elder' (hd_ HO_8) (Kd.R_base ho0) hb); replace HO_9 := Aside0.mk (Kd.R_elder' (hd_ HO_9) (Kd.R_base ho0) hb); replace HO_10 := Aside0.mk (Kd.R_elder' (hd_ HO_10) (Kd.R_base ho0) hb); replace BK458 := ab_ BK458 hb; replace HB := at_ HB hb; clear hb ho0; obtain ⟨Ao42, co42, eo42⟩ := Kd.R_slice HO474.out; subst eo42; have p475 : 0 ≤ (a2 : Int) := oa_; have q475 : a2 < (t472.length : Int) := oa_; obtain ⟨ad475, e475, hx475_0⟩ := Kd.at_int (Kd.R_reads' HO474.out).2.2 a2 p475 q475; cases e475; obtain ⟨p475, q475⟩ := et_ p475 q475)
   (try simp only [Act.put, List.setIfInBounds_toArray, List.set_cons_zero, List.set_cons_succ])
   go_loopg [11, 13] k2 (fun kq v11 v13 w' => ∃ (x11_3 : Int) (x13_3 : Int), v11 = .int .i64 x11_3 ∧ v13 = .int .i64 x13_3 ∧ Aside0 (spec_CheapestWay.l1 kq a2 t462 t465 x10_2 x11_3 (rd t472 a2) x13_3 a0_0 l0_1 = some (r1, r2)) ∧ Aside0 (kq ≤ k2) ∧ Aside0 (Kd.R (Kd.int .i64) 3 w' w.heap.size (fun k_ => some k_ ≠ ((.slice (some ad468) t465.length co33) : Value).ownBlock ∧ some k_ ≠ (u10 : Value).ownBlock) v463 t462) ∧ Aside0 (Kd.R (Kd.int .i64) 3 w' w.heap.size (fun k_ => some k_ ≠ (v463 : Value).ownBlock ∧ some k_ ≠ (u10 : Value).ownBlock) (.slice (some ad468) t465.length co33) t465) ∧ Aside0 (Kd.R (Kd.int .i64) 3 w' w.heap.size (fun k_ => some k_ ≠ (v463 : Value).ownBlock ∧ some k_ ≠ ((.slice (some ad468) t465.length co33) : Value).ownBlock) u10 x10_2) ∧ Aside0 (w'.heap[gb458]? = some (.cells #[.int .i64 a0_0, (.slice A0_1 l0_1.length c0_1)] 30 (0, 0))) ∧ Aside0 (Below w.heap.size w w'))
   case atStart => exact ⟨(x11_2), (0), er_, er_, H', ⟨Nat.le_refl _⟩, ⟨hq_ (Kd.R_mono HO_8.out (fun _ hk => by first | exact ⟨hk.1.1, hk.1.2⟩ | grind))⟩, ⟨hq_ (Kd.R_mono HO_9.out (fun _ hk => by first | exact ⟨hk.1.1, hk.1.2⟩ | grind))⟩, ⟨hq_ (Kd.R_mono HO_10.out (fun _ hk => by first | exact ⟨hk.1.1, hk.1.2⟩ | grind))⟩, ⟨bx_ BK458⟩, ⟨bw115_⟩⟩
   clear H' c36 c36b0 c36b1 c38b0 c39b0 hcz40_0 hcz40_1 hfz40_0 hfz40_1 hx475_0 p468 p475 q468 q475
   obtain ⟨x11_3, x13_3, rfl, rfl, HA, HK3, HO_8, HO_9, HO_10, BK458, HB⟩ := hrel
   cases gk with
   | zero => exact absurd HA.out (by simp [spec_CheapestWay.l1])
   | succ k3 =>
    have H := HA.out
    clear HA
    simp only [spec_CheapestWay.l1] at H
    by_cases c43 : x13_3 < a0_0
    rotate_left
    ·rw [if_neg c43] at H
     have c43b0 : decide (x13_3 < a0_0) = false := decide_eq_false c43
     clear c43
     by_cases c85 : x10_2.length < 17592186044416
     rotate_left
     ·rw [if_neg c85] at H
      exact absurd H (by simp)
     rw [if_pos c85] at H
     have LMc85 := Aside0.mk c85
     clear c85
     obtain ⟨y476, hy476⟩ : ∃ y_ : List Int, y_ = (x10_2 ++ [x11_3]) := ⟨_, rfl⟩
     replace H : (spec_CheapestWay.l0 k3 a2 t462 t465 y476 x11_3 a0_0 l0_1) = some (r1, r2) := by first | (rw [hy476]; with_reducible exact H) | (have H2_ := (Option.bind_some _ _).symm.trans H; rw [hy476]; with_reducible exact H2_) | (have H2_ := (Option.bind_some _ _).symm.trans H; with_reducible exact H2_) | with_reducible exact H | (rw [hy476]; exact H) | exact H
     have Ny476 := Aside0.mk hy476
     clear hy476
     have H' := Aside0.mk H
     clear H
     have hcz86_0 := cz_ BK458 0 (.int .i64 a0_0)
     have hcz86_1 := cz_ BK458 1 (.slice A0_1 l0_1.length c0_1)
     have hfz86_0 := fz_ BK458 0
     have hfz86_1 := fz_ BK458 1
     go_wp2_with ((with_reducible refine gate_builtin (b := .append) (xs := #[.tmp 102, .tmp 104]) rfl ?_); at_builtin; refine Kd.R_append (Kd.int .i64) (w0 := w) w.heap.size rfl (.tmp 102) (.tmp 104) 26 3 (.int .i64 0) 8 rfl Try.underlying26 info3 rfl (by decide) (by omega) u10 x10_2 x11_3 [.int .i64 x11_3] (fun k_ => some k_ ≠ (v463 : Value).ownBlock ∧ some k_ ≠ (.slice (some ad468) t465.length co33 : Value).ownBlock) (fun _ => False) rfl rfl ?aP (fun _ hk => hk.elim) ?aF ?aO ?aB ?aS ?aL ?_; (case aP => exact rfl); (case aB => exact (bw115_)); (case aF => exact (fun k_ hk => ⟨Kd.fresh' (Kd.R_lt (hd_ HO_8)) k_ hk, Kd.fresh' (Kd.R_lt (hd_ HO_9)) k_ hk⟩)); (case aO => exact (hd_ HO_10)); (case aS => exact (bz_ HB)); (case aL => have := LMc85.out; omega); intro v477 w87 ho hb hg hat; rw [← Ny476.out] at ho; have HO478 := Aside0.mk ho; replace HO_8 := Aside0.mk (Kd.R_after (ok := (fun k_ => some k_ ≠ (.slice (some ad468) t465.length co33 : Value).ownBlock)) (hd_ HO_8) hg hat); replace HO_9 := Aside0.mk (Kd.R_after (ok := (fun k_ => some k_ ≠ (v463 : Value).ownBlock)) (hd_ HO_9) hg hat); replace BK458 := Aside0.mk (blk_grown (g := gb458) (o := .cells #[.int .i64 a0_0, .slice A0_1 l0_1.length c0_1] 30 (0, 0)) (bx_ BK458) hg (Kd.R_ne HO_10.out BK458.out (by decide))); replace HB := Aside0.mk (hb); clear HO_10 ho hb hg hat)
     go_roundg k3
     case measure => have := HJ3.out; have := HK2.out; have := HK3.out; omega
     case rel => exact ⟨(y476), (x11_3), er_, H', ⟨by have := HJ3.out; have := HK2.out; have := HK3.out; omega⟩, ⟨hd_ HO_8⟩, ⟨hd_ HO_9⟩, ⟨hd_ HO478⟩, ⟨bx_ BK458⟩, ⟨bw115_⟩⟩
    rw [if_pos c43] at H
    have c43b0 : decide (x13_3 < a0_0) = true := decide_eq_true c43
    clear c43
    obtain ⟨t479, A44, H⟩ := ob_ H
    by_cases c45 : x13_3 = x11_3
    ·rw [if_pos c45] at H
     have c45b0 : (x13_3 == x11_3) = true := beq_iff_eq.mpr c45
     have c45b1 : (x13_3 != x11_3) = false := bne_eq_false_iff_eq.mpr c45
     clear c45
     have H' := Aside0.mk H
     clear H
     have hcz46_0 := cz_ BK458 0 (.int .i64 a0_0)
     have hcz46_1 := cz_ BK458 1 (.slice A0_1 l0_1.length c0_1)
     have hfz46_0 := fz_ BK458 0
     have hfz46_1 := fz_ BK458 1
     try go_wp2_with ((with_reducible refine gate_callee (f := 72) rfl ?_); refine gl_ (some 62) Try.func72 #[.agg #[.int .i64 a0_0, .slice A0_1 l0_1.length c0_1], .int .i64 x11_3, .int .i64 x13_3] ?_; (with_reducible refine (spec_l03Cost.calls k3 a0_0 _ _ l0_1 x11_3 x13_3 t479 _ ?side1 ?side2 A44.out).mono ?_); (case side1 => exact cb_ HR0_1 HB); (case side2 => exact HC0_1.out); rintro e w47 ⟨rfl, hb⟩; refine ⟨_, rfl, ?_⟩; replace HO_8 := rb_ HO_8 hb; replace HO_9 := rb_ HO_9 hb; replace HO_10 := rb_ HO_10 hb; replace BK458 := ab_ BK458 hb; replace HB := at_ HB hb; clear hb)
     replace HO_8 := rw5_ HO_8
     replace HO_9 := rw5_ HO_9
     replace HO_10 := rw5_ HO_10
     replace BK458 := ad_ BK458
     replace HB := Aside0.mk (below_drew1 HB.out)
     refine start_ (n := 38) (S := fun w' => True) (ds := []) ba15_0 (by kernel_rfl) rfl rfl trivial (fun hHeld => ?_); refine with_tabW spec_CheapestWay.tab14 spec_CheapestWay.bits14 (fun HT_ HW_ => ?_)
     generalize w47.drew = w48 at HO_8 HO_9 HO_10 BK458 HB hHeld ⊢
     refine pz_ 0 63 ba15_1 HT_ ?_
     refine pz_ 1 64 ba15_2 HT_ ?_
     refine pz_ 2 65 ba15_3 HT_ ?_
     refine pz_ 3 66 ba15_4 HT_ ?_
     refine pu_ 4 67 ba15_5 HT_ ?_
     refine pu_ 5 68 ba15_6 HT_ ?_
     refine pz_ 6 69 ba15_7 HT_ ?_
     refine pz_ 7 70 ba15_8 HT_ ?_
     refine pu_ 8 71 ba15_9 HT_ ?_
     refine pu_ 9 72 ba15_10 HT_ ?_
     refine pu_ 10 73 ba15_11 HT_ ?_
     refine pu_ 11 74 ba15_12 HT_ ?_
     refine pu_ 12 75 ba15_13 HT_ ?_
     refine pz_ 13 76 ba15_14 HT_ ?_
     refine pz_ 14 77 ba15_15 HT_ ?_
     refine pu_ 15 78 ba15_16 HT_ ?_
     refine pu_ 16 79 ba15_17 HT_ ?_
     refine pu_ 17 80 ba15_18 HT_ ?_
     refine pu_ 18 81 ba15_19 HT_ ?_
     refine pu_ 19 82 ba15_20 HT_ ?_
     refine pu_ 20 83 ba15_21 HT_ ?_
     refine pu_ 21 84 ba15_22 HT_ ?_
     refine pu_ 22 85 ba15_23 HT_ ?_
     refine pu_ 23 86 ba15_24 HT_ ?_
     refine pu_ 24 87 ba15_25 HT_ ?_
     refine pz_ 25 88 ba15_26 HT_ ?_
     refine pz_ 26 89 ba15_27 HT_ ?_
     refine pu_ 27 90 ba15_28 HT_ ?_
     refine pu_ 28 91 ba15_29 HT_ ?_
     refine pu_ 29 92 ba15_30 HT_ ?_
     refine pu_ 30 93 ba15_31 HT_ ?_
     refine pu_ 31 94 ba15_32 HT_ ?_
     refine pu_ 32 95 ba15_33 HT_ ?_
     refine pu_ 33 96 ba15_34 HT_ ?_
     refine pu_ 34 97 ba15_35 HT_ ?_
     refine pu_ 35 98 ba15_36 HT_ ?_
     refine pu_ 36 99 ba15_37 HT_ ?_
     refine pz_ 37 100 ba15_38 HT_ ?_
     refine done_ (done_of HT_.out (by kernel_rfl)) ?_
     go_wp2
     go_roundg k3
     case measure => have := HJ3.out; have := HK2.out; have := HK3.out; omega
     case rel => exact ⟨(x11_3), (wrap64 (x13_3 + 1)), er_, er_, H', ⟨by have := HJ3.out; have := HK2.out; have := HK3.out; omega⟩, ⟨hd_ HO_8⟩, ⟨hd_ HO_9⟩, ⟨hd_ HO_10⟩, ⟨bx_ BK458⟩, ⟨bw115_⟩⟩
    rw [if_neg c45] at H
    have c45b0 : (x13_3 == x11_3) = false := beq_eq_false_iff_ne.mpr c45
    have c45b1 : (x13_3 != x11_3) = true := bne_iff_ne.mpr c45
    by_cases c49 : t479 < 1000000
    rotate_left
    ·rw [if_neg c49] at H
     have c49b0 : decide (t479 < 1000000) = false := decide_eq_false c49
     clear c49
     have H' := Aside0.mk H
     clear H
     have hcz82_0 := cz_ BK458 0 (.int .i64 a0_0)
     have hcz82_1 := cz_ BK458 1 (.slice A0_1 l0_1.length c0_1)
     have hfz82_0 := fz_ BK458 0
     have hfz82_1 := fz_ BK458 1
     try go_wp2_with ((with_reducible refine gate_callee (f := 72) rfl ?_); refine gl_ (some 62) Try.func72 #[.agg #[.int .i64 a0_0, .slice A0_1 l0_1.length c0_1], .int .i64 x11_3, .int .i64 x13_3] ?_; (with_reducible refine (spec_l03Cost.calls k3 a0_0 _ _ l0_1 x11_3 x13_3 t479 _ ?side1 ?side2 A44.out).mono ?_); (case side1 => exact cb_ HR0_1 HB); (case side2 => exact HC0_1.out); rintro e w83 ⟨rfl, hb⟩; refine ⟨_, rfl, ?_⟩; replace HO_8 := rb_ HO_8 hb; replace HO_9 := rb_ HO_9 hb; replace HO_10 := rb_ HO_10 hb; replace BK458 := ab_ BK458 hb; replace HB := at_ HB hb; clear hb)
     replace HO_8 := rw5_ HO_8
     replace HO_9 := rw5_ HO_9
     replace HO_10 := rw5_ HO_10
     replace BK458 := ad_ BK458
     replace HB := Aside0.mk (below_drew1 HB.out)
     refine start_ (n := 38) (S := fun w' => True) (ds := []) ba15_0 (by kernel_rfl) rfl rfl trivial (fun hHeld => ?_); refine with_tabW spec_CheapestWay.tab14 spec_CheapestWay.bits14 (fun HT_ HW_ => ?_)
     generalize w83.drew = w84 at HO_8 HO_9 HO_10 BK458 HB hHeld ⊢
     refine pz_ 0 63 ba15_1 HT_ ?_
     refine pz_ 1 64 ba15_2 HT_ ?_
     refine pz_ 2 65 ba15_3 HT_ ?_
     refine pz_ 3 66 ba15_4 HT_ ?_
     refine pz_ 4 67 ba15_5 HT_ ?_
     refine pz_ 5 68 ba15_6 HT_ ?_
     refine pz_ 6 69 ba15_7 HT_ ?_
     refine pz_ 7 70 ba15_8 HT_ ?_
     refine pu_ 8 71 ba15_9 HT_ ?_
     refine pu_ 9 72 ba15_10 HT_ ?_
     refine pu_ 10 73 ba15_11 HT_ ?_
     refine pu_ 11 74 ba15_12 HT_ ?_
     refine pu_ 12 75 ba15_13 HT_ ?_
     refine pz_ 13 76 ba15_14 HT_ ?_
     refine pz_ 14 77 ba15_15 HT_ ?_
     refine pu_ 15 78 ba15_16 HT_ ?_
     refine pu_ 16 79 ba15_17 HT_ ?_
     refine pu_ 17 80 ba15_18 HT_ ?_
     refine pu_ 18 81 ba15_19 HT_ ?_
     refine pu_ 19 82 ba15_20 HT_ ?_
     refine pu_ 20 83 ba15_21 HT_ ?_
     refine pu_ 21 84 ba15_22 HT_ ?_
     refine pu_ 22 85 ba15_23 HT_ ?_
     refine pu_ 23 86 ba15_24 HT_ ?_
     refine pu_ 24 87 ba15_25 HT_ ?_
     refine pz_ 25 88 ba15_26 HT_ ?_
     refine pz_ 26 89 ba15_27 HT_ ?_
     refine pu_ 27 90 ba15_28 HT_ ?_
     refine pu_ 28 91 ba15_29 HT_ ?_
     refine pu_ 29 92 ba15_30 HT_ ?_
     refine pu_ 30 93 ba15_31 HT_ ?_
     refine pu_ 31 94 ba15_32 HT_ ?_
     refine pu_ 32 95 ba15_33 HT_ ?_
     refine pu_ 33 96 ba15_34 HT_ ?_
     refine pu_ 34 97 ba15_35 HT_ ?_
     refine pu_ 35 98 ba15_36 HT_ ?_
     refine pu_ 36 99 ba15_37 HT_ ?_
     refine pz_ 37 100 ba15_38 HT_ ?_
     refine done_ (done_of HT_.out (by kernel_rfl)) ?_
     go_wp2
     go_roundg k3
     case measure => have := HJ3.out; have := HK2.out; have := HK3.out; omega
     case rel => exact ⟨(x11_3), (wrap64 (x13_3 + 1)), er_, er_, H', ⟨by have := HJ3.out; have := HK2.out; have := HK3.out; omega⟩, ⟨hd_ HO_8⟩, ⟨hd_ HO_9⟩, ⟨hd_ HO_10⟩, ⟨bx_ BK458⟩, ⟨bw115_⟩⟩
    rw [if_pos c49] at H
    have c49b0 : decide (t479 < 1000000) = true := decide_eq_true c49
    clear c49
    obtain ⟨c50b0, H⟩ := iq_ H
    obtain ⟨c51b0, H⟩ := iq_ H
    by_cases c52 : (rd t465 x13_3) > 0
    rotate_left
    ·rw [if_neg c52] at H
     have c52b0 : decide (0 < (rd t465 x13_3)) = false := decide_eq_false c52
     clear c52
     have H' := Aside0.mk H
     clear H
     have hcz79_0 := cz_ BK458 0 (.int .i64 a0_0)
     have hcz79_1 := cz_ BK458 1 (.slice A0_1 l0_1.length c0_1)
     have hfz79_0 := fz_ BK458 0
     have hfz79_1 := fz_ BK458 1
     try go_wp2_with ((with_reducible refine gate_callee (f := 72) rfl ?_); refine gl_ (some 62) Try.func72 #[.agg #[.int .i64 a0_0, .slice A0_1 l0_1.length c0_1], .int .i64 x11_3, .int .i64 x13_3] ?_; (with_reducible refine (spec_l03Cost.calls k3 a0_0 _ _ l0_1 x11_3 x13_3 t479 _ ?side1 ?side2 A44.out).mono ?_); (case side1 => exact cb_ HR0_1 HB); (case side2 => exact HC0_1.out); rintro e w80 ⟨rfl, hb⟩; refine ⟨_, rfl, ?_⟩; replace HO_8 := rb_ HO_8 hb; replace HO_9 := rb_ HO_9 hb; replace HO_10 := rb_ HO_10 hb; replace BK458 := ab_ BK458 hb; replace HB := at_ HB hb; clear hb)
     replace HO_8 := rw5_ HO_8
     replace HO_9 := rw5_ HO_9
     replace HO_10 := rw5_ HO_10
     replace BK458 := ad_ BK458
     replace HB := Aside0.mk (below_drew1 HB.out)
     have p480 : 0 ≤ (x13_3 : Int) := oa_
     have q480 : x13_3 < (t465.length : Int) := oa_
     obtain ⟨ad480, e480, hx480_0⟩ := Kd.at_int (Kd.R_reads' HO_9.out).2.2 x13_3 p480 q480
     obtain rfl : ad468 = ad480 := (by injection e480)
     obtain ⟨p480, q480⟩ := et_ p480 q480
     refine start_ (n := 38) (S := fun w' => w'.cell? (ad468.add (x13_3).toNat) = some (.int .i64 (rd t465 x13_3))) (ds := []) ba15_0 (by kernel_rfl) rfl rfl (hx480_0) (fun hHeld => ?_); refine with_tabW spec_CheapestWay.tab14 spec_CheapestWay.bits14 (fun HT_ HW_ => ?_)
     generalize w80.drew = w81 at HO_8 HO_9 HO_10 BK458 HB hx480_0 hHeld ⊢
     refine pz_ 0 63 ba15_1 HT_ ?_
     refine pz_ 1 64 ba15_2 HT_ ?_
     refine pz_ 2 65 ba15_3 HT_ ?_
     refine pz_ 3 66 ba15_4 HT_ ?_
     refine pz_ 4 67 ba15_5 HT_ ?_
     refine pz_ 5 68 ba15_6 HT_ ?_
     refine pz_ 6 69 ba15_7 HT_ ?_
     refine pz_ 7 70 ba15_8 HT_ ?_
     refine pz_ 8 71 ba15_9 HT_ ?_
     refine pz_ 9 72 ba15_10 HT_ ?_
     refine pz_ 10 73 ba15_11 HT_ ?_
     refine take_ (i := 11) (N := some 74) (v := ?_) (a' := ?_) ba15_12 rfl rfl (take_ofW HT_.out HW_.out (by kernel_rfl)) (fun _ _ _ h => h) (Or.inl ⟨by rfl, ?_⟩) hHeld ?_ ?_
     rotate_left; · intro w' s0; go_simp; with_reducible rfl
     rotate_left; · simp only [Act.put, List.setIfInBounds_toArray, List.set_cons_zero, List.set_cons_succ, i64_w, i32_w]; rfl
     refine pz_ 12 75 ba15_13 HT_ ?_
     refine pz_ 13 76 ba15_14 HT_ ?_
     refine pz_ 14 77 ba15_15 HT_ ?_
     refine pu_ 15 78 ba15_16 HT_ ?_
     refine pu_ 16 79 ba15_17 HT_ ?_
     refine pu_ 17 80 ba15_18 HT_ ?_
     refine pu_ 18 81 ba15_19 HT_ ?_
     refine pu_ 19 82 ba15_20 HT_ ?_
     refine pu_ 20 83 ba15_21 HT_ ?_
     refine pu_ 21 84 ba15_22 HT_ ?_
     refine pu_ 22 85 ba15_23 HT_ ?_
     refine pu_ 23 86 ba15_24 HT_ ?_
     refine pu_ 24 87 ba15_25 HT_ ?_
     refine pz_ 25 88 ba15_26 HT_ ?_
     refine pz_ 26 89 ba15_27 HT_ ?_
     refine pu_ 27 90 ba15_28 HT_ ?_
     refine pu_ 28 91 ba15_29 HT_ ?_
     refine pu_ 29 92 ba15_30 HT_ ?_
     refine pu_ 30 93 ba15_31 HT_ ?_
     refine pu_ 31 94 ba15_32 HT_ ?_
     refine pu_ 32 95 ba15_33 HT_ ?_
     refine pu_ 33 96 ba15_34 HT_ ?_
     refine pu_ 34 97 ba15_35 HT_ ?_
     refine pu_ 35 98 ba15_36 HT_ ?_
     refine pu_ 36 99 ba15_37 HT_ ?_
     refine pz_ 37 100 ba15_38 HT_ ?_
     refine done_ (done_of HT_.out (by kernel_rfl)) ?_
     go_wp2
     go_roundg k3
     case measure => have := HJ3.out; have := HK2.out; have := HK3.out; omega
     case rel => exact ⟨(x11_3), (wrap64 (x13_3 + 1)), er_, er_, H', ⟨by have := HJ3.out; have := HK2.out; have := HK3.out; omega⟩, ⟨hd_ HO_8⟩, ⟨hd_ HO_9⟩, ⟨hd_ HO_10⟩, ⟨bx_ BK458⟩, ⟨bw115_⟩⟩
    rw [if_pos c52] at H
    have c52b0 : decide (0 < (rd t465 x13_3)) = true := decide_eq_true c52
    clear c52
    obtain ⟨c53b0, H⟩ := iq_ H
    obtain ⟨c54b0, H⟩ := iq_ H
    obtain ⟨c55b0, H⟩ := iq_ H
    by_cases c56 : (wrap64 ((rd t462 x13_3) + 1)) = (rd t462 x11_3)
    rotate_left
    ·rw [if_neg c56] at H
     have c56b0 : ((wrap64 ((rd t462 x13_3) + 1)) == (rd t462 x11_3)) = false := beq_eq_false_iff_ne.mpr c56
     have c56b1 : ((wrap64 ((rd t462 x13_3) + 1)) != (rd t462 x11_3)) = true := bne_iff_ne.mpr c56
     have H' := Aside0.mk H
     clear H
     have hcz75_0 := cz_ BK458 0 (.int .i64 a0_0)
     have hcz75_1 := cz_ BK458 1 (.slice A0_1 l0_1.length c0_1)
     have hfz75_0 := fz_ BK458 0
     have hfz75_1 := fz_ BK458 1
     try go_wp2_with ((with_reducible refine gate_callee (f := 72) rfl ?_); refine gl_ (some 62) Try.func72 #[.agg #[.int .i64 a0_0, .slice A0_1 l0_1.length c0_1], .int .i64 x11_3, .int .i64 x13_3] ?_; (with_reducible refine (spec_l03Cost.calls k3 a0_0 _ _ l0_1 x11_3 x13_3 t479 _ ?side1 ?side2 A44.out).mono ?_); (case side1 => exact cb_ HR0_1 HB); (case side2 => exact HC0_1.out); rintro e w76 ⟨rfl, hb⟩; refine ⟨_, rfl, ?_⟩; replace HO_8 := rb_ HO_8 hb; replace HO_9 := rb_ HO_9 hb; replace HO_10 := rb_ HO_10 hb; replace BK458 := ab_ BK458 hb; replace HB := at_ HB hb; clear hb)
     replace HO_8 := rw5_ HO_8
     replace HO_9 := rw5_ HO_9
     replace HO_10 := rw5_ HO_10
     replace BK458 := ad_ BK458
     replace HB := Aside0.mk (below_drew1 HB.out)
     have p480 : 0 ≤ (x13_3 : Int) := oa_
     have q480 : x13_3 < (t465.length : Int) := oa_
     obtain ⟨ad480, e480, hx480_0⟩ := Kd.at_int (Kd.R_reads' HO_9.out).2.2 x13_3 p480 q480
     obtain rfl : ad468 = ad480 := (by injection e480)
     obtain ⟨p480, q480⟩ := et_ p480 q480
     obtain ⟨Ao78, co78, eo78⟩ := Kd.R_slice HO_8.out
     subst eo78
     have p481 : 0 ≤ (x13_3 : Int) := oa_
     have q481 : x13_3 < (t462.length : Int) := oa_
     obtain ⟨ad481, e481, hx481_0⟩ := Kd.at_int (Kd.R_reads' HO_8.out).2.2 x13_3 p481 q481
     cases e481
     obtain ⟨p481, q481⟩ := et_ p481 q481
     have p482 : 0 ≤ (x11_3 : Int) := oa_
     have q482 : x11_3 < (t462.length : Int) := oa_
     obtain ⟨ad482, e482, hx482_0⟩ := Kd.at_int (Kd.R_reads' HO_8.out).2.2 x11_3 p482 q482
     obtain rfl : ad481 = ad482 := (by injection e482)
     obtain ⟨p482, q482⟩ := et_ p482 q482
     refine start_ (n := 38) (S := fun w' => w'.cell? (ad468.add (x13_3).toNat) = some (.int .i64 (rd t465 x13_3)) ∧ w'.cell? (ad481.add (x13_3).toNat) = some (.int .i64 (rd t462 x13_3)) ∧ w'.cell? (ad481.add (x11_3).toNat) = some (.int .i64 (rd t462 x11_3))) (ds := []) ba15_0 (by kernel_rfl) rfl rfl ⟨hx480_0, hx481_0, hx482_0⟩ (fun hHeld => ?_); refine with_tabW spec_CheapestWay.tab14 spec_CheapestWay.bits14 (fun HT_ HW_ => ?_)
     generalize w76.drew = w77 at HO_8 HO_9 HO_10 BK458 HB hx480_0 hx481_0 hx482_0 hHeld ⊢
     refine pz_ 0 63 ba15_1 HT_ ?_
     refine pz_ 1 64 ba15_2 HT_ ?_
     refine pz_ 2 65 ba15_3 HT_ ?_
     refine pz_ 3 66 ba15_4 HT_ ?_
     refine pz_ 4 67 ba15_5 HT_ ?_
     refine pz_ 5 68 ba15_6 HT_ ?_
     refine pz_ 6 69 ba15_7 HT_ ?_
     refine pz_ 7 70 ba15_8 HT_ ?_
     refine pz_ 8 71 ba15_9 HT_ ?_
     refine pz_ 9 72 ba15_10 HT_ ?_
     refine pz_ 10 73 ba15_11 HT_ ?_
     refine pt_ 11 74 ba15_12 HT_ HW_ hHeld ?_
     refine pz_ 12 75 ba15_13 HT_ ?_
     refine pz_ 13 76 ba15_14 HT_ ?_
     refine pz_ 14 77 ba15_15 HT_ ?_
     refine pz_ 15 78 ba15_16 HT_ ?_
     refine pz_ 16 79 ba15_17 HT_ ?_
     refine pz_ 17 80 ba15_18 HT_ ?_
     refine pz_ 20 83 ba15_39 HT_ ?_
     refine pz_ 21 84 ba15_40 HT_ ?_
     refine pz_ 22 85 ba15_41 HT_ ?_
     refine pt_ 18 81 ba15_42 HT_ HW_ hHeld ?_
     refine pz_ 19 82 ba15_23 HT_ ?_
     refine pt_ 23 86 ba15_24 HT_ HW_ hHeld ?_
     refine pz_ 24 87 ba15_25 HT_ ?_
     refine pz_ 25 88 ba15_26 HT_ ?_
     refine pz_ 26 89 ba15_27 HT_ ?_
     refine pu_ 27 90 ba15_28 HT_ ?_
     refine pu_ 28 91 ba15_29 HT_ ?_
     refine pu_ 29 92 ba15_30 HT_ ?_
     refine pu_ 30 93 ba15_31 HT_ ?_
     refine pu_ 31 94 ba15_32 HT_ ?_
     refine pu_ 32 95 ba15_33 HT_ ?_
     refine pu_ 33 96 ba15_34 HT_ ?_
     refine pu_ 34 97 ba15_35 HT_ ?_
     refine pu_ 35 98 ba15_36 HT_ ?_
     refine pu_ 36 99 ba15_37 HT_ ?_
     refine pz_ 37 100 ba15_38 HT_ ?_
     refine done_ (done_of HT_.out (by kernel_rfl)) ?_
     go_wp2
     go_roundg k3
     case measure => have := HJ3.out; have := HK2.out; have := HK3.out; omega
     case rel => exact ⟨(x11_3), (wrap64 (x13_3 + 1)), er_, er_, H', ⟨by have := HJ3.out; have := HK2.out; have := HK3.out; omega⟩, ⟨hd_ HO_8⟩, ⟨hd_ HO_9⟩, ⟨hd_ HO_10⟩, ⟨bx_ BK458⟩, ⟨bw115_⟩⟩
    rw [if_pos c56] at H
    have c56b0 : ((wrap64 ((rd t462 x13_3) + 1)) == (rd t462 x11_3)) = true := beq_iff_eq.mpr c56
    have c56b1 : ((wrap64 ((rd t462 x13_3) + 1)) != (rd t462 x11_3)) = false := bne_eq_false_iff_eq.mpr c56
    clear c56
    obtain ⟨t483, A57, H⟩ := ob_ H
    obtain ⟨c58b0, H⟩ := iq_ H
    obtain ⟨c59b0, H⟩ := iq_ H
    by_cases c60 : (wrap64 (t479 + (rd t483 a2))) = (rd t472 a2)
    rotate_left
    ·rw [if_neg c60] at H
     have c60b0 : ((wrap64 (t479 + (rd t483 a2))) == (rd t472 a2)) = false := beq_eq_false_iff_ne.mpr c60
     have c60b1 : ((wrap64 (t479 + (rd t483 a2))) != (rd t472 a2)) = true := bne_iff_ne.mpr c60
     have H' := Aside0.mk H
     clear H
     have hcz69_0 := cz_ BK458 0 (.int .i64 a0_0)
     have hcz69_1 := cz_ BK458 1 (.slice A0_1 l0_1.length c0_1)
     have hfz69_0 := fz_ BK458 0
     have hfz69_1 := fz_ BK458 1
     try go_wp2_with ((with_reducible refine gate_callee (f := 72) rfl ?_); refine gl_ (some 62) Try.func72 #[.agg #[.int .i64 a0_0, .slice A0_1 l0_1.length c0_1], .int .i64 x11_3, .int .i64 x13_3] ?_; (with_reducible refine (spec_l03Cost.calls k3 a0_0 _ _ l0_1 x11_3 x13_3 t479 _ ?side1 ?side2 A44.out).mono ?_); (case side1 => exact cb_ HR0_1 HB); (case side2 => exact HC0_1.out); rintro e w70 ⟨rfl, hb⟩; refine ⟨_, rfl, ?_⟩; replace HO_8 := rb_ HO_8 hb; replace HO_9 := rb_ HO_9 hb; replace HO_10 := rb_ HO_10 hb; replace BK458 := ab_ BK458 hb; replace HB := at_ HB hb; clear hb)
     replace HO_8 := rw5_ HO_8
     replace HO_9 := rw5_ HO_9
     replace HO_10 := rw5_ HO_10
     replace BK458 := ad_ BK458
     replace HB := Aside0.mk (below_drew1 HB.out)
     have p480 : 0 ≤ (x13_3 : Int) := oa_
     have q480 : x13_3 < (t465.length : Int) := oa_
     obtain ⟨ad480, e480, hx480_0⟩ := Kd.at_int (Kd.R_reads' HO_9.out).2.2 x13_3 p480 q480
     obtain rfl : ad468 = ad480 := (by injection e480)
     obtain ⟨p480, q480⟩ := et_ p480 q480
     obtain ⟨Ao72, co72, eo72⟩ := Kd.R_slice HO_8.out
     subst eo72
     have p481 : 0 ≤ (x13_3 : Int) := oa_
     have q481 : x13_3 < (t462.length : Int) := oa_
     obtain ⟨ad481, e481, hx481_0⟩ := Kd.at_int (Kd.R_reads' HO_8.out).2.2 x13_3 p481 q481
     cases e481
     obtain ⟨p481, q481⟩ := et_ p481 q481
     have p482 : 0 ≤ (x11_3 : Int) := oa_
     have q482 : x11_3 < (t462.length : Int) := oa_
     obtain ⟨ad482, e482, hx482_0⟩ := Kd.at_int (Kd.R_reads' HO_8.out).2.2 x11_3 p482 q482
     obtain rfl : ad481 = ad482 := (by injection e482)
     obtain ⟨p482, q482⟩ := et_ p482 q482
     refine start_ (n := 38) (S := fun w' => w'.cell? ⟨gb458, 0, none⟩ = some (.int .i64 a0_0) ∧ w'.cell? ⟨gb458, 1, none⟩ = some (.slice A0_1 l0_1.length c0_1) ∧ w'.cell? (ad468.add (x13_3).toNat) = some (.int .i64 (rd t465 x13_3)) ∧ w'.cell? (ad481.add (x13_3).toNat) = some (.int .i64 (rd t462 x13_3)) ∧ w'.cell? (ad481.add (x11_3).toNat) = some (.int .i64 (rd t462 x11_3))) (ds := []) ba15_0 (by kernel_rfl) rfl rfl ⟨bq5_ BK458 0, bq5_ BK458 1, hx480_0, hx481_0, hx482_0⟩ (fun hHeld => ?_); refine with_tabW spec_CheapestWay.tab14 spec_CheapestWay.bits14 (fun HT_ HW_ => ?_)
     generalize w70.drew = w71 at HO_8 HO_9 HO_10 BK458 HB hx480_0 hx481_0 hx482_0 hHeld ⊢
     refine pz_ 0 63 ba15_1 HT_ ?_
     refine pz_ 1 64 ba15_2 HT_ ?_
     refine pz_ 2 65 ba15_3 HT_ ?_
     refine pz_ 3 66 ba15_4 HT_ ?_
     refine pz_ 4 67 ba15_5 HT_ ?_
     refine pz_ 5 68 ba15_6 HT_ ?_
     refine pz_ 6 69 ba15_7 HT_ ?_
     refine pz_ 7 70 ba15_8 HT_ ?_
     refine pz_ 8 71 ba15_9 HT_ ?_
     refine pz_ 9 72 ba15_10 HT_ ?_
     refine pz_ 10 73 ba15_11 HT_ ?_
     refine pt_ 11 74 ba15_12 HT_ HW_ hHeld ?_
     refine pz_ 12 75 ba15_13 HT_ ?_
     refine pz_ 13 76 ba15_14 HT_ ?_
     refine pz_ 14 77 ba15_15 HT_ ?_
     refine pz_ 15 78 ba15_16 HT_ ?_
     refine pz_ 16 79 ba15_17 HT_ ?_
     refine pz_ 17 80 ba15_18 HT_ ?_
     refine pz_ 20 83 ba15_39 HT_ ?_
     refine pz_ 21 84 ba15_40 HT_ ?_
     refine pz_ 22 85 ba15_41 HT_ ?_
     refine pt_ 18 81 ba15_42 HT_ HW_ hHeld ?_
     refine pz_ 19 82 ba15_23 HT_ ?_
     refine pt_ 23 86 ba15_24 HT_ HW_ hHeld ?_
     refine pz_ 24 87 ba15_25 HT_ ?_
     refine pz_ 25 88 ba15_26 HT_ ?_
     refine pz_ 26 89 ba15_27 HT_ ?_
     refine pz_ 27 90 ba15_28 HT_ ?_
     refine pz_ 29 92 ba15_43 HT_ ?_
     refine pz_ 31 94 ba15_44 HT_ ?_
     refine pz_ 35 98 ba15_45 HT_ ?_
     refine pt_ 28 91 ba15_46 HT_ HW_ hHeld ?_
     refine on_ 30 (some 93) ba15_47 HT_ (fun K hK => ?_)
     refine gz_ Try.func33 #[.agg #[.int .i64 a0_0, .slice A0_1 l0_1.length c0_1], .int .i64 x13_3] ?_
     with_reducible refine (spec_Distances.calls k3 a0_0 _ _ l0_1 x13_3 t483 _ ?side1 ?side2 A57.out).mono ?_
     (case side1 => exact cb_ HR0_1 HB)
     (case side2 => exact HC0_1.out)
     rintro e w73 ⟨v484, rfl, ho0, hb⟩
     have HS2_ := (hb.cell (World.block_lt_of_cell? _ _ (hHeld.2.2.1))).trans (hHeld.2.2.1)
     have HS3_ := (hb.cell (World.block_lt_of_cell? _ _ (hHeld.2.2.2.1))).trans (hHeld.2.2.2.1)
     have HS4_ := (hb.cell (World.block_lt_of_cell? _ _ (hHeld.2.2.2.2))).trans (hHeld.2.2.2.2)
     refine ⟨_, rfl, ?_⟩
     have HO485 := Aside0.mk (Kd.R_lower (Kd.R_new' (Kd.R_new' (Kd.R_new' ho0 (Kd.R_lt (hd_ HO_8))) (Kd.R_lt (hd_ HO_9))) (Kd.R_lt (hd_ HO_10))) (bz_ HB))
     replace HO_8 := Aside0.mk (Kd.R_elder' (hd_ HO_8) (Kd.R_base ho0) hb)
     replace HO_9 := Aside0.mk (Kd.R_elder' (hd_ HO_9) (Kd.R_base ho0) hb)
     replace HO_10 := Aside0.mk (Kd.R_elder' (hd_ HO_10) (Kd.R_base ho0) hb)
     replace BK458 := ab_ BK458 hb
     replace HB := at_ HB hb
     clear hb ho0
     obtain ⟨Ao74, co74, eo74⟩ := Kd.R_slice HO485.out
     subst eo74
     have p486 : 0 ≤ (a2 : Int) := oa_
     have q486 : a2 < (t483.length : Int) := oa_
     obtain ⟨ad486, e486, hx486_0⟩ := Kd.at_int (Kd.R_reads' HO485.out).2.2 a2 p486 q486
     cases e486
     obtain ⟨p486, q486⟩ := et_ p486 q486
     refine hK.out _ _ ⟨bq5_ BK458 0, bq5_ BK458 1, HS2_, HS3_, HS4_⟩ (fun hHeld => ?_)
     clear hK K
     refine nz_ 93 ?_
     refine pz_ 32 95 ba15_48 HT_ ?_
     refine po_ 33 96 ba15_49 HT_ (fun w' => w'.cell? ⟨gb458, 0, none⟩ = some (.int .i64 a0_0) ∧ w'.cell? ⟨gb458, 1, none⟩ = some (.slice A0_1 l0_1.length c0_1) ∧ w'.cell? (ad468.add (x13_3).toNat) = some (.int .i64 (rd t465 x13_3)) ∧ w'.cell? (ad481.add (x13_3).toNat) = some (.int .i64 (rd t462 x13_3)) ∧ w'.cell? (ad481.add (x11_3).toNat) = some (.int .i64 (rd t462 x11_3)) ∧ w'.cell? (ad486.add (a2).toNat) = some (.int .i64 (rd t483 a2))) ⟨hHeld.1, hHeld.2.1, hHeld.2.2.1, hHeld.2.2.2.1, hHeld.2.2.2.2, hx486_0⟩ ?_
     refine pz_ 34 97 ba15_36 HT_ ?_
     refine pz_ 36 99 ba15_37 HT_ ?_
     refine pz_ 37 100 ba15_38 HT_ ?_
     refine done_ (done_of HT_.out (by kernel_rfl)) ?_
     go_wp2
     go_roundg k3
     case measure => have := HJ3.out; have := HK2.out; have := HK3.out; omega
     case rel => exact ⟨(x11_3), (wrap64 (x13_3 + 1)), er_, er_, H', ⟨by have := HJ3.out; have := HK2.out; have := HK3.out; omega⟩, ⟨hq_ (Kd.R_mono HO_8.out (fun _ hk => by first | exact ⟨hk.1.1, hk.1.2⟩ | grind))⟩, ⟨hq_ (Kd.R_mono HO_9.out (fun _ hk => by first | exact ⟨hk.1.1, hk.1.2⟩ | grind))⟩, ⟨hq_ (Kd.R_mono HO_10.out (fun _ hk => by first | exact ⟨hk.1.1, hk.1.2⟩ | grind))⟩, ⟨bx_ BK458⟩, ⟨bw115_⟩⟩
    rw [if_pos c60] at H
    have c60b0 : ((wrap64 (t479 + (rd t483 a2))) == (rd t472 a2)) = true := beq_iff_eq.mpr c60
    have c60b1 : ((wrap64 (t479 + (rd t483 a2))) != (rd t472 a2)) = false := bne_eq_false_iff_eq.mpr c60
    clear c60
    by_cases c61 : x10_2.length < 17592186044416
    rotate_left
    ·rw [if_neg c61] at H
     exact absurd H (by simp)
    rw [if_pos c61] at H
    have LMc61 := Aside0.mk c61
    clear c61
    obtain ⟨y487, hy487⟩ : ∃ y_ : List Int, y_ = (x10_2 ++ [x13_3]) := ⟨_, rfl⟩
    replace H : (spec_CheapestWay.l0 k3 a2 t462 t465 y487 x13_3 a0_0 l0_1) = some (r1, r2) := by first | (rw [hy487]; with_reducible exact H) | (have H2_ := (Option.bind_some _ _).symm.trans H; rw [hy487]; with_reducible exact H2_) | (have H2_ := (Option.bind_some _ _).symm.trans H; with_reducible exact H2_) | with_reducible exact H | (rw [hy487]; exact H) | exact H
    have Ny487 := Aside0.mk hy487
    clear hy487
    have H' := Aside0.mk H
    clear H
    have hcz62_0 := cz_ BK458 0 (.int .i64 a0_0)
    have hcz62_1 := cz_ BK458 1 (.slice A0_1 l0_1.length c0_1)
    have hfz62_0 := fz_ BK458 0
    have hfz62_1 := fz_ BK458 1
    try go_wp2_with ((with_reducible refine gate_callee (f := 72) rfl ?_); refine gl_ (some 62) Try.func72 #[.agg #[.int .i64 a0_0, .slice A0_1 l0_1.length c0_1], .int .i64 x11_3, .int .i64 x13_3] ?_; (with_reducible refine (spec_l03Cost.calls k3 a0_0 _ _ l0_1 x11_3 x13_3 t479 _ ?side1 ?side2 A44.out).mono ?_); (case side1 => exact cb_ HR0_1 HB); (case side2 => exact HC0_1.out); rintro e w63 ⟨rfl, hb⟩; refine ⟨_, rfl, ?_⟩; replace HO_8 := rb_ HO_8 hb; replace HO_9 := rb_ HO_9 hb; replace HO_10 := rb_ HO_10 hb; replace BK458 := ab_ BK458 hb; replace HB := at_ HB hb; clear hb)
    replace HO_8 := rw5_ HO_8
    replace HO_9 := rw5_ HO_9
    replace HO_10 := rw5_ HO_10
    replace BK458 := ad_ BK458
    replace HB := Aside0.mk (below_drew1 HB.out)
    have p480 : 0 ≤ (x13_3 : Int) := oa_
    have q480 : x13_3 < (t465.length : Int) := oa_
    obtain ⟨ad480, e480, hx480_0⟩ := Kd.at_int (Kd.R_reads' HO_9.out).2.2 x13_3 p480 q480
    obtain rfl : ad468 = ad480 := (by injection e480)
    obtain ⟨p480, q480⟩ := et_ p480 q480
    obtain ⟨Ao65, co65, eo65⟩ := Kd.R_slice HO_8.out
    subst eo65
    have p481 : 0 ≤ (x13_3 : Int) := oa_
    have q481 : x13_3 < (t462.length : Int) := oa_
    obtain ⟨ad481, e481, hx481_0⟩ := Kd.at_int (Kd.R_reads' HO_8.out).2.2 x13_3 p481 q481
    cases e481
    obtain ⟨p481, q481⟩ := et_ p481 q481
    have p482 : 0 ≤ (x11_3 : Int) := oa_
    have q482 : x11_3 < (t462.length : Int) := oa_
    obtain ⟨ad482, e482, hx482_0⟩ := Kd.at_int (Kd.R_reads' HO_8.out).2.2 x11_3 p482 q482
    obtain rfl : ad481 = ad482 := (by injection e482)
    obtain ⟨p482, q482⟩ := et_ p482 q482
    refine start_ (n := 38) (S := fun w' => w'.cell? ⟨gb458, 0, none⟩ = some (.int .i64 a0_0) ∧ w'.cell? ⟨gb458, 1, none⟩ = some (.slice A0_1 l0_1.length c0_1) ∧ w'.cell? (ad468.add (x13_3).toNat) = some (.int .i64 (rd t465 x13_3)) ∧ w'.cell? (ad481.add (x13_3).toNat) = some (.int .i64 (rd t462 x13_3)) ∧ w'.cell? (ad481.add (x11_3).toNat) = some (.int .i64 (rd t462 x11_3))) (ds := []) ba15_0 (by kernel_rfl) rfl rfl ⟨bq5_ BK458 0, bq5_ BK458 1, hx480_0, hx481_0, hx482_0⟩ (fun hHeld => ?_); refine with_tabW spec_CheapestWay.tab14 spec_CheapestWay.bits14 (fun HT_ HW_ => ?_)
    generalize w63.drew = w64 at HO_8 HO_9 HO_10 BK458 HB hx480_0 hx481_0 hx482_0 hHeld ⊢
    refine pz_ 0 63 ba15_1 HT_ ?_
    refine pz_ 1 64 ba15_2 HT_ ?_
    refine pz_ 2 65 ba15_3 HT_ ?_
    refine pz_ 3 66 ba15_4 HT_ ?_
    refine pz_ 4 67 ba15_5 HT_ ?_
    refine pz_ 5 68 ba15_6 HT_ ?_
    refine pz_ 6 69 ba15_7 HT_ ?_
    refine pz_ 7 70 ba15_8 HT_ ?_
    refine pz_ 8 71 ba15_9 HT_ ?_
    refine pz_ 9 72 ba15_10 HT_ ?_
    refine pz_ 10 73 ba15_11 HT_ ?_
    refine pt_ 11 74 ba15_12 HT_ HW_ hHeld ?_
    refine pz_ 12 75 ba15_13 HT_ ?_
    refine pz_ 13 76 ba15_14 HT_ ?_
    refine pz_ 14 77 ba15_15 HT_ ?_
    refine pz_ 15 78 ba15_16 HT_ ?_
    refine pz_ 16 79 ba15_17 HT_ ?_
    refine pz_ 17 80 ba15_18 HT_ ?_
    refine pz_ 20 83 ba15_39 HT_ ?_
    refine pz_ 21 84 ba15_40 HT_ ?_
    refine pz_ 22 85 ba15_41 HT_ ?_
    refine pt_ 18 81 ba15_42 HT_ HW_ hHeld ?_
    refine pz_ 19 82 ba15_23 HT_ ?_
    refine pt_ 23 86 ba15_24 HT_ HW_ hHeld ?_
    refine pz_ 24 87 ba15_25 HT_ ?_
    refine pz_ 25 88 ba15_26 HT_ ?_
    refine pz_ 26 89 ba15_27 HT_ ?_
    refine pz_ 27 90 ba15_28 HT_ ?_
    refine pz_ 29 92 ba15_43 HT_ ?_
    refine pz_ 31 94 ba15_44 HT_ ?_
    refine pz_ 35 98 ba15_45 HT_ ?_
    refine pt_ 28 91 ba15_46 HT_ HW_ hHeld ?_
    refine on_ 30 (some 93) ba15_47 HT_ (fun K hK => ?_)
    refine gz_ Try.func33 #[.agg #[.int .i64 a0_0, .slice A0_1 l0_1.length c0_1], .int .i64 x13_3] ?_
    with_reducible refine (spec_Distances.calls k3 a0_0 _ _ l0_1 x13_3 t483 _ ?side1 ?side2 A57.out).mono ?_
    (case side1 => exact cb_ HR0_1 HB)
    (case side2 => exact HC0_1.out)
    rintro e w66 ⟨v484, rfl, ho0, hb⟩
    have HS2_ := (hb.cell (World.block_lt_of_cell? _ _ (hHeld.2.2.1))).trans (hHeld.2.2.1)
    have HS3_ := (hb.cell (World.block_lt_of_cell? _ _ (hHeld.2.2.2.1))).trans (hHeld.2.2.2.1)
    have HS4_ := (hb.cell (World.block_lt_of_cell? _ _ (hHeld.2.2.2.2))).trans (hHeld.2.2.2.2)
    refine ⟨_, rfl, ?_⟩
    have HO485 := Aside0.mk (Kd.R_lower (Kd.R_new' (Kd.R_new' (Kd.R_new' ho0 (Kd.R_lt (hd_ HO_8))) (Kd.R_lt (hd_ HO_9))) (Kd.R_lt (hd_ HO_10))) (bz_ HB))
    replace HO_8 := Aside0.mk (Kd.R_elder' (hd_ HO_8) (Kd.R_base ho0) hb)
    replace HO_9 := Aside0.mk (Kd.R_elder' (hd_ HO_9) (Kd.R_base ho0) hb)
    replace HO_10 := Aside0.mk (Kd.R_elder' (hd_ HO_10) (Kd.R_base ho0) hb)
    replace BK458 := ab_ BK458 hb
    replace HB := at_ HB hb
    clear hb ho0
    obtain ⟨Ao67, co67, eo67⟩ := Kd.R_slice HO485.out
    subst eo67
    have p486 : 0 ≤ (a2 : Int) := oa_
    have q486 : a2 < (t483.length : Int) := oa_
    obtain ⟨ad486, e486, hx486_0⟩ := Kd.at_int (Kd.R_reads' HO485.out).2.2 a2 p486 q486
    cases e486
    obtain ⟨p486, q486⟩ := et_ p486 q486
    refine hK.out _ _ ⟨bq5_ BK458 0, bq5_ BK458 1, HS2_, HS3_, HS4_⟩ (fun hHeld => ?_)
    clear hK K
    refine nz_ 93 ?_
    refine pz_ 32 95 ba15_48 HT_ ?_
    refine po_ 33 96 ba15_49 HT_ (fun w' => w'.cell? ⟨gb458, 0, none⟩ = some (.int .i64 a0_0) ∧ w'.cell? ⟨gb458, 1, none⟩ = some (.slice A0_1 l0_1.length c0_1) ∧ w'.cell? (ad468.add (x13_3).toNat) = some (.int .i64 (rd t465 x13_3)) ∧ w'.cell? (ad481.add (x13_3).toNat) = some (.int .i64 (rd t462 x13_3)) ∧ w'.cell? (ad481.add (x11_3).toNat) = some (.int .i64 (rd t462 x11_3)) ∧ w'.cell? (ad486.add (a2).toNat) = some (.int .i64 (rd t483 a2))) ⟨hHeld.1, hHeld.2.1, hHeld.2.2.1, hHeld.2.2.2.1, hHeld.2.2.2.2, hx486_0⟩ ?_
    refine pz_ 34 97 ba15_36 HT_ ?_
    refine pz_ 36 99 ba15_37 HT_ ?_
    refine pz_ 37 100 ba15_38 HT_ ?_
    refine done_ (done_of HT_.out (by kernel_rfl)) ?_
    try go_wp2_with ((with_reducible refine gate_builtin (b := .append) (xs := #[.tmp 102, .tmp 104]) rfl ?_); at_builtin; refine Kd.R_append (Kd.int .i64) (w0 := w) w.heap.size rfl (.tmp 102) (.tmp 104) 26 3 (.int .i64 0) 8 rfl Try.underlying26 info3 rfl (by decide) (by omega) u10 x10_2 x13_3 [.int .i64 x13_3] (fun k_ => some k_ ≠ (.slice (some ad481) t462.length co65 : Value).ownBlock ∧ some k_ ≠ (.slice (some ad468) t465.length co33 : Value).ownBlock ∧ some k_ ≠ (.slice (some ad486) t483.length co67 : Value).ownBlock) (fun _ => False) rfl rfl ?aP (fun _ hk => hk.elim) ?aF ?aO ?aB ?aS ?aL ?_; (case aP => exact rfl); (case aB => exact (bw115_)); (case aF => exact (fun k_ hk => ⟨Kd.fresh' (Kd.R_lt (hd_ HO_8)) k_ hk, Kd.fresh' (Kd.R_lt (hd_ HO_9)) k_ hk, Kd.fresh' (Kd.R_lt (hd_ HO485)) k_ hk⟩)); (case aO => exact (hq_ (Kd.R_mono HO_10.out (fun _ hk => ⟨hk.1.1, ⟨hk.1.2, hk.2⟩⟩)))); (case aS => exact (bz_ HB)); (case aL => have := LMc61.out; omega); intro v488 w68 ho hb hg hat; rw [← Ny487.out] at ho; have HO489 := Aside0.mk ho; replace HO_8 := Aside0.mk (Kd.R_after (ok := (fun k_ => some k_ ≠ (.slice (some ad468) t465.length co33 : Value).ownBlock ∧ some k_ ≠ (.slice (some ad486) t483.length co67 : Value).ownBlock)) (hq_ (Kd.R_mono HO_8.out (fun _ hk => ⟨⟨hk.1.1, hk.2⟩, hk.1.2⟩))) hg hat); replace HO_9 := Aside0.mk (Kd.R_after (ok := (fun k_ => some k_ ≠ (.slice (some ad481) t462.length co65 : Value).ownBlock ∧ some k_ ≠ (.slice (some ad486) t483.length co67 : Value).ownBlock)) (hq_ (Kd.R_mono HO_9.out (fun _ hk => ⟨⟨hk.1.1, hk.2⟩, hk.1.2⟩))) hg hat); replace BK458 := Aside0.mk (blk_grown (g := gb458) (o := .cells #[.int .i64 a0_0, .slice A0_1 l0_1.length c0_1] 30 (0, 0)) (bx_ BK458) hg (Kd.R_ne HO_10.out BK458.out (by decide))); replace HO485 := Aside0.mk (Kd.R_after (ok := (fun k_ => some k_ ≠ (.slice (some ad481) t462.length co65 : Value).ownBlock ∧ some k_ ≠ (.slice (some ad468) t465.length co33 : Value).ownBlock)) (hq_ (Kd.R_mono HO485.out (fun _ hk => ⟨⟨hk.1.1.2, hk.1.2⟩, hk.2⟩))) hg hat); replace HB := Aside0.mk (hb); clear HO_10 ho hb hg hat)
    go_roundg k3
    case measure => have := HJ3.out; have := HK2.out; have := HK3.out; omega
    case rel => exact ⟨(y487), (x13_3), er_, H', ⟨by have := HJ3.out; have := HK2.out; have := HK3.out; omega⟩, ⟨hq_ (Kd.R_mono HO_8.out (fun _ hk => by first | exact ⟨hk.1.1, hk.2⟩ | grind))⟩, ⟨hq_ (Kd.R_mono HO_9.out (fun _ hk => by first | exact ⟨hk.1.1, hk.2⟩ | grind))⟩, ⟨hq_ (Kd.R_mono HO489.out (fun _ hk => by first | exact ⟨hk.1, hk.2.1⟩ | grind))⟩, ⟨bx_ BK458⟩, ⟨bw115_⟩⟩
end Go.Proofs.Ythmahcohcphljaa.QFnCheapest
