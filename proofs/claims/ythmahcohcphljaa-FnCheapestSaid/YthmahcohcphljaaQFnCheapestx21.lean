/- Contracts of functions that the law reaches: what each call returns and what it leaves in memory. Made by this session over the print of the kit. -/
import Derived.Test.YthmahcohcphljaaQFnCheapestx0
import Derived.Test.YthmahcohcphljaaQFnCheapestx1
import Derived.Test.YthmahcohcphljaaQFnCheapestx3
import Derived.Test.YthmahcohcphljaaQFnCheapestx7
import Derived.Test.YthmahcohcphljaaQFnCheapestx14
import Derived.Test.YthmahcohcphljaaQFnCheapestx4
namespace Go.Proofs.Ythmahcohcphljaa.QFnCheapest
open Go.RowKit Go.Proofs.YthmahcohcphljaaC.PrintWords Go.Proofs.YthmahcohcphljaaC.PrintLast Go.Proofs.YthmahcohcphljaaC.PrintMore
attribute [local go_sem] max2_int min2_int max_two min_two max_three min_three max_four min_four
set_option linter.unusedVariables false
set_option linter.unusedSimpArgs false
def spec_CountWays.f (k : Nat) (a0_0 : Int) (l0_1 : List (S76)) (a1 : Int) (a2 : Int) : Option (Int) := (spec_GraphOk.f k a0_0 l0_1).bind fun t588 => (if t588 = true then ((spec_l03Node.f a0_0 l0_1 a1).bind fun t589 => (if t589 = true then ((spec_l03Node.f a0_0 l0_1 a2).bind fun t590 => (if t590 = true then ((spec_l03Steps.f k a0_0 l0_1 a2).bind fun bt591 => (if 0 ≤ a1 then (if a1 < (bt591.2.length : Int) then (some (rd bt591.2 a1)) else (none)) else (none))) else (some (-1)))) else (some (-1)))) else (some (-1)))
set_option maxHeartbeats 8000000 in
set_option maxRecDepth 100000 in
theorem spec_CountWays.calls (k : Nat) (a0_0 : Int) (A0_1 : Option Addr) (c0_1 : Nat) (l0_1 : List (S76)) (a1 : Int) (a2 : Int) (r : Int) (w : World) (hr0_1 : Kd.C k76 w A0_1 l0_1.length l0_1) (hc0_1 : l0_1.length ≤ c0_1) (h : spec_CountWays.f k a0_0 l0_1 a1 a2 = some r) :
  Calls Try.prog 42 #[.agg #[.int .i64 a0_0, .slice A0_1 l0_1.length c0_1], .int .i64 a1, .int .i64 a2] w fun e w' => e = .returned (.int .i64 r) ∧ Below w.heap.size w w' := by
 have hu30 := Try.underlying30
 have HR0_1 := Aside0.mk hr0_1
 have HC0_1 := Aside0.mk hc0_1
 clear hr0_1 hc0_1
 have HB := Aside0.mk (Below.refl w.heap.size w)
 have H : ((spec_GraphOk.f k a0_0 l0_1).bind fun t588 => (if t588 = true then ((spec_l03Node.f a0_0 l0_1 a1).bind fun t589 => (if t589 = true then ((spec_l03Node.f a0_0 l0_1 a2).bind fun t590 => (if t590 = true then ((spec_l03Steps.f k a0_0 l0_1 a2).bind fun bt591 => (if 0 ≤ a1 then (if a1 < (bt591.2.length : Int) then (some (rd bt591.2 a1)) else (none)) else (none))) else (some (-1)))) else (some (-1)))) else (some (-1)))) = some r := h
 clear h
 obtain ⟨t588, A4, H⟩ := ob_ H
 by_cases c5 : t588 = true
 rotate_left
 ·replace c5 := Bool.eq_false_iff.mpr c5
  subst c5
  rw [if_neg (show ¬ (false = true) by decide)] at H
  obtain rfl := Option.some.inj H
  go_enter Try.func42, Try.ntmps42
  go_wp2_with (first | ((with_reducible refine gate_dst (N := 3) rfl ?_); refine be_ 3 #[.int .i64 a0_0, .slice A0_1 l0_1.length c0_1] 30 ?_; intro gb587 hg w35 BK587 hb; have GW587 := ge_ HB hg; have GE587 := ge_ HB hg; replace HB := at_ HB hb; clear hb hg; have hcz36_0 := cz_ BK587 0 (.int .i64 a0_0); have hcz36_1 := cz_ BK587 1 (.slice A0_1 l0_1.length c0_1); have hfz36_0 := fz_ BK587 0; have hfz36_1 := fz_ BK587 1) | ((with_reducible refine gate_callee (f := 25) rfl ?_); refine gl_ (some 10) Try.func25 #[.agg #[.int .i64 a0_0, .slice A0_1 l0_1.length c0_1]] ?_; (with_reducible refine (spec_GraphOk.calls k a0_0 _ _ l0_1 false _ ?side1 ?side2 A4.out).mono ?_); (case side1 => exact cb_ HR0_1 HB); (case side2 => exact HC0_1.out); rintro e w37 ⟨rfl, hb⟩; refine ⟨_, rfl, ?_⟩; replace BK587 := ab_ BK587 hb; replace HB := at_ HB hb; clear hb))
  go_ret
  exact ⟨ew_, bw115_⟩
 subst c5
 rw [if_pos rfl] at H
 obtain ⟨t589, A6, H⟩ := ob_ H
 by_cases c7 : t589 = true
 rotate_left
 ·replace c7 := Bool.eq_false_iff.mpr c7
  subst c7
  rw [if_neg (show ¬ (false = true) by decide)] at H
  obtain rfl := Option.some.inj H
  go_enter Try.func42, Try.ntmps42
  go_wp2_with (first | ((with_reducible refine gate_dst (N := 3) rfl ?_); refine be_ 3 #[.int .i64 a0_0, .slice A0_1 l0_1.length c0_1] 30 ?_; intro gb587 hg w30 BK587 hb; have GW587 := ge_ HB hg; have GE587 := ge_ HB hg; replace HB := at_ HB hb; clear hb hg; have hcz31_0 := cz_ BK587 0 (.int .i64 a0_0); have hcz31_1 := cz_ BK587 1 (.slice A0_1 l0_1.length c0_1); have hfz31_0 := fz_ BK587 0; have hfz31_1 := fz_ BK587 1) | ((with_reducible refine gate_callee (f := 25) rfl ?_); refine gl_ (some 10) Try.func25 #[.agg #[.int .i64 a0_0, .slice A0_1 l0_1.length c0_1]] ?_; (with_reducible refine (spec_GraphOk.calls k a0_0 _ _ l0_1 true _ ?side1 ?side2 A4.out).mono ?_); (case side1 => exact cb_ HR0_1 HB); (case side2 => exact HC0_1.out); rintro e w32 ⟨rfl, hb⟩; refine ⟨_, rfl, ?_⟩; replace BK587 := ab_ BK587 hb; replace HB := at_ HB hb; clear hb; have hcz33_0 := cz_ BK587 0 (.int .i64 a0_0); have hcz33_1 := cz_ BK587 1 (.slice A0_1 l0_1.length c0_1); have hfz33_0 := fz_ BK587 0; have hfz33_1 := fz_ BK587 1) | (go_at_call 45; (with_reducible refine (spec_l03Node.calls a0_0 _ _ l0_1 a1 false _ ?side1 ?side2 A6.out).mono ?_); (case side1 => exact cb_ HR0_1 HB); (case side2 => exact HC0_1.out); rintro e w34 ⟨rfl, hb⟩; replace BK587 := ab_ BK587 hb; replace HB := at_ HB hb; clear hb))
  go_ret
  exact ⟨ew_, bw115_⟩
 subst c7
 rw [if_pos rfl] at H
 obtain ⟨t590, A8, H⟩ := ob_ H
 by_cases c9 : t590 = true
 rotate_left
 ·replace c9 := Bool.eq_false_iff.mpr c9
  subst c9
  rw [if_neg (show ¬ (false = true) by decide)] at H
  obtain rfl := Option.some.inj H
  go_enter Try.func42, Try.ntmps42
  go_wp2_with (first | ((with_reducible refine gate_dst (N := 3) rfl ?_); refine be_ 3 #[.int .i64 a0_0, .slice A0_1 l0_1.length c0_1] 30 ?_; intro gb587 hg w23 BK587 hb; have GW587 := ge_ HB hg; have GE587 := ge_ HB hg; replace HB := at_ HB hb; clear hb hg; have hcz24_0 := cz_ BK587 0 (.int .i64 a0_0); have hcz24_1 := cz_ BK587 1 (.slice A0_1 l0_1.length c0_1); have hfz24_0 := fz_ BK587 0; have hfz24_1 := fz_ BK587 1) | ((with_reducible refine gate_callee (f := 25) rfl ?_); refine gl_ (some 10) Try.func25 #[.agg #[.int .i64 a0_0, .slice A0_1 l0_1.length c0_1]] ?_; (with_reducible refine (spec_GraphOk.calls k a0_0 _ _ l0_1 true _ ?side1 ?side2 A4.out).mono ?_); (case side1 => exact cb_ HR0_1 HB); (case side2 => exact HC0_1.out); rintro e w25 ⟨rfl, hb⟩; refine ⟨_, rfl, ?_⟩; replace BK587 := ab_ BK587 hb; replace HB := at_ HB hb; clear hb; have hcz26_0 := cz_ BK587 0 (.int .i64 a0_0); have hcz26_1 := cz_ BK587 1 (.slice A0_1 l0_1.length c0_1); have hfz26_0 := fz_ BK587 0; have hfz26_1 := fz_ BK587 1) | (go_at_call 45; (with_reducible refine (spec_l03Node.calls a0_0 _ _ l0_1 a1 true _ ?side1 ?side2 A6.out).mono ?_); (case side1 => exact cb_ HR0_1 HB); (case side2 => exact HC0_1.out); rintro e w27 ⟨rfl, hb⟩; replace BK587 := ab_ BK587 hb; replace HB := at_ HB hb; clear hb; have hcz28_0 := cz_ BK587 0 (.int .i64 a0_0); have hcz28_1 := cz_ BK587 1 (.slice A0_1 l0_1.length c0_1); have hfz28_0 := fz_ BK587 0; have hfz28_1 := fz_ BK587 1) | (go_at_call 45; (with_reducible refine (spec_l03Node.calls a0_0 _ _ l0_1 a2 false _ ?side1 ?side2 A8.out).mono ?_); (case side1 => exact cb_ HR0_1 HB); (case side2 => exact HC0_1.out); rintro e w29 ⟨rfl, hb⟩; replace BK587 := ab_ BK587 hb; replace HB := at_ HB hb; clear hb))
  go_ret
  exact ⟨ew_, bw115_⟩
 subst c9
 rw [if_pos rfl] at H
 obtain ⟨⟨t591, t594⟩, A10, H⟩ := ob_ H
 obtain ⟨c11b0, H⟩ := iq_ H
 obtain ⟨c12b0, H⟩ := iq_ H
 obtain rfl := Option.some.inj H
 go_enter Try.func42, Try.ntmps42
 go_wp2_with (first | ((with_reducible refine gate_dst (N := 3) rfl ?_); refine be_ 3 #[.int .i64 a0_0, .slice A0_1 l0_1.length c0_1] 30 ?_; intro gb587 hg w13 BK587 hb; have GW587 := ge_ HB hg; have GE587 := ge_ HB hg; replace HB := at_ HB hb; clear hb hg; have hcz14_0 := cz_ BK587 0 (.int .i64 a0_0); have hcz14_1 := cz_ BK587 1 (.slice A0_1 l0_1.length c0_1); have hfz14_0 := fz_ BK587 0; have hfz14_1 := fz_ BK587 1) | ((with_reducible refine gate_callee (f := 25) rfl ?_); refine gl_ (some 10) Try.func25 #[.agg #[.int .i64 a0_0, .slice A0_1 l0_1.length c0_1]] ?_; (with_reducible refine (spec_GraphOk.calls k a0_0 _ _ l0_1 true _ ?side1 ?side2 A4.out).mono ?_); (case side1 => exact cb_ HR0_1 HB); (case side2 => exact HC0_1.out); rintro e w15 ⟨rfl, hb⟩; refine ⟨_, rfl, ?_⟩; replace BK587 := ab_ BK587 hb; replace HB := at_ HB hb; clear hb; have hcz16_0 := cz_ BK587 0 (.int .i64 a0_0); have hcz16_1 := cz_ BK587 1 (.slice A0_1 l0_1.length c0_1); have hfz16_0 := fz_ BK587 0; have hfz16_1 := fz_ BK587 1) | (go_at_call 45; (with_reducible refine (spec_l03Node.calls a0_0 _ _ l0_1 a1 true _ ?side1 ?side2 A6.out).mono ?_); (case side1 => exact cb_ HR0_1 HB); (case side2 => exact HC0_1.out); rintro e w17 ⟨rfl, hb⟩; replace BK587 := ab_ BK587 hb; replace HB := at_ HB hb; clear hb; have hcz18_0 := cz_ BK587 0 (.int .i64 a0_0); have hcz18_1 := cz_ BK587 1 (.slice A0_1 l0_1.length c0_1); have hfz18_0 := fz_ BK587 0; have hfz18_1 := fz_ BK587 1) | (go_at_call 45; (with_reducible refine (spec_l03Node.calls a0_0 _ _ l0_1 a2 true _ ?side1 ?side2 A8.out).mono ?_); (case side1 => exact cb_ HR0_1 HB); (case side2 => exact HC0_1.out); rintro e w19 ⟨rfl, hb⟩; replace BK587 := ab_ BK587 hb; replace HB := at_ HB hb; clear hb; have hcz20_0 := cz_ BK587 0 (.int .i64 a0_0); have hcz20_1 := cz_ BK587 1 (.slice A0_1 l0_1.length c0_1); have hfz20_0 := fz_ BK587 0; have hfz20_1 := fz_ BK587 1) | ((with_reducible refine gate_callee (f := 71) rfl ?_); refine gl_ (some 27) Try.func71 #[.agg #[.int .i64 a0_0, .slice A0_1 l0_1.length c0_1], .int .i64 a2] ?_; (with_reducible refine (spec_l03Steps.calls k a0_0 _ _ l0_1 a2 t591 t594 _ ?side1 ?side2 A10.out).mono ?_); (case side1 => exact cb_ HR0_1 HB); (case side2 => exact HC0_1.out); rintro e w21 ⟨v592, v595, rfl, ho0, ho1, hb⟩; refine ⟨_, rfl, ?_⟩; have HO593 := Aside0.mk (Kd.R_lower ho0 (bz_ HB)); have HO596 := Aside0.mk (Kd.R_lower ho1 (bz_ HB)); replace BK587 := ab_ BK587 hb; replace HB := at_ HB hb; clear hb ho0 ho1; obtain ⟨Ao22, co22, eo22⟩ := Kd.R_slice HO596.out; subst eo22; have p597 : 0 ≤ (a1 : Int) := oa_; have q597 : a1 < (t594.length : Int) := oa_; obtain ⟨ad597, e597, hx597_0⟩ := Kd.at_int (Kd.R_reads' HO596.out).2.2 a1 p597 q597; cases e597; obtain ⟨p597, q597⟩ := et_ p597 q597))
 go_ret
 exact ⟨ew_, bw115_⟩
mutual
def impl_Graph_cost.j0 : Nat → Int → Int → Bool → Int → List (S76) → Option (Int)
 | 0, _, _, _, _, _ => none
 | k + 1, x1, x2, x16, x599000, x599001 => if x16 = true then (some 0) else (impl_Graph_cost.l0 k x1 x2 x599001 (x599001.length : Int) 0)
def impl_Graph_cost.l0 : Nat → Int → Int → List (S76) → Int → Int → Option (Int)
 | 0, _, _, _, _, _ => none
 | k + 1, x1, x2, x18, x19, x20 => if x20 < x19 then (if 0 ≤ x20 then (if x20 < (x18.length : Int) then (if ((rd_T76 x18 x20).f0) = x1 then (if ((rd_T76 x18 x20).f1) = x2 then (some ((rd_T76 x18 x20).f2)) else (impl_Graph_cost.l0 k x1 x2 x18 x19 (wrap64 (x20 + 1)))) else (impl_Graph_cost.l0 k x1 x2 x18 x19 (wrap64 (x20 + 1)))) else (none)) else (none)) else (some 1000000)
end
def impl_Graph_cost.f (k : Nat) (a0_0 : Int) (l0_1 : List (S76)) (a1 : Int) (a2 : Int) : Option (Int) := if a1 = a2 then ((impl_Graph_isNode.f a0_0 l0_1 a1).bind fun t599 => (impl_Graph_cost.j0 k a1 a2 t599 a0_0 l0_1)) else (impl_Graph_cost.j0 k a1 a2 false a0_0 l0_1)
set_option maxHeartbeats 8000000 in
set_option maxRecDepth 100000 in
theorem impl_Graph_cost.calls (k : Nat) (a0_0 : Int) (A0_1 : Option Addr) (c0_1 : Nat) (l0_1 : List (S76)) (a1 : Int) (a2 : Int) (r : Int) (w : World) (hr0_1 : Kd.C k76 w A0_1 l0_1.length l0_1) (hc0_1 : l0_1.length ≤ c0_1) (h : impl_Graph_cost.f k a0_0 l0_1 a1 a2 = some r) :
  Calls Try.prog 63 #[.agg #[.int .i64 a0_0, .slice A0_1 l0_1.length c0_1], .int .i64 a1, .int .i64 a2] w fun e w' => e = .returned (.int .i64 r) ∧ Below w.heap.size w w' := by
 have hu30 := Try.underlying30
 have hu76 := Try.underlying76
 have HR0_1 := Aside0.mk hr0_1
 have HC0_1 := Aside0.mk hc0_1
 clear hr0_1 hc0_1
 have HB := Aside0.mk (Below.refl w.heap.size w)
 have H : (if a1 = a2 then ((impl_Graph_isNode.f a0_0 l0_1 a1).bind fun t599 => (impl_Graph_cost.j0 k a1 a2 t599 a0_0 l0_1)) else (impl_Graph_cost.j0 k a1 a2 false a0_0 l0_1)) = some r := h
 clear h
 have HC4 := Aside0.mk H
 clear H
 go_enter Try.func63, Try.ntmps63
 go_upto_region 1 with ((with_reducible refine gate_dst (N := 3) rfl ?_); refine be_ 3 #[.int .i64 a0_0, .slice A0_1 l0_1.length c0_1] 30 ?_; intro gb598 hg w5 BK598 hb; have GW598 := ge_ HB hg; have GE598 := ge_ HB hg; replace HB := at_ HB hb; clear hb hg)
 (try simp only [Act.put, List.setIfInBounds_toArray, List.set_cons_zero, List.set_cons_succ])
 go_cut [16] (fun v16 wc => ∃ (kq : Nat) (x16_3 : Bool), v16 = .bool x16_3 ∧ Aside0 (impl_Graph_cost.j0 kq a1 a2 x16_3 a0_0 l0_1 = some r) ∧ Aside0 (kq ≤ k) ∧ Aside0 (wc.heap[gb598]? = some (.cells #[.int .i64 a0_0, (.slice A0_1 l0_1.length c0_1)] 30 (0, 0))) ∧ Aside0 (Below w.heap.size w wc))
 case first =>
  have H := HC4.out
  clear HC4
  by_cases c6 : a1 = a2
  rotate_left
  ·rw [if_neg c6] at H
   have c6b0 : (a1 == a2) = false := beq_eq_false_iff_ne.mpr c6
   have c6b1 : (a1 != a2) = true := bne_iff_ne.mpr c6
   (first | rw [c6b0] | (simp only [i64_w, i32_w]; rw [c6b0]) | skip)
   have H' := Aside0.mk H
   clear H
   go_wp2
   go_meet
   case rel => exact ⟨_, (false), er_, H', ⟨by first | omega | exact Nat.le_refl _⟩, ⟨bx_ BK598⟩, ⟨bw115_⟩⟩
  rw [if_pos c6] at H
  have c6b0 : (a1 == a2) = true := beq_iff_eq.mpr c6
  have c6b1 : (a1 != a2) = false := bne_eq_false_iff_eq.mpr c6
  clear c6
  (first | rw [c6b0] | (simp only [i64_w, i32_w]; rw [c6b0]) | skip)
  obtain ⟨t599, A7, H⟩ := ob_ H
  have H' := Aside0.mk H
  clear H
  have hcz8_0 := cz_ BK598 0 (.int .i64 a0_0)
  have hcz8_1 := cz_ BK598 1 (.slice A0_1 l0_1.length c0_1)
  have hfz8_0 := fz_ BK598 0
  have hfz8_1 := fz_ BK598 1
  go_wp2_with (go_at_call 48; (with_reducible refine (impl_Graph_isNode.calls a0_0 _ _ l0_1 a1 t599 _ ?side1 ?side2 A7.out).mono ?_); (case side1 => exact cb_ HR0_1 HB); (case side2 => exact HC0_1.out); rintro e w9 ⟨rfl, hb⟩; replace BK598 := ab_ BK598 hb; replace HB := at_ HB hb; clear hb)
  go_meet
  case rel => exact ⟨_, (t599), er_, H', ⟨by first | omega | exact Nat.le_refl _⟩, ⟨bx_ BK598⟩, ⟨bw115_⟩⟩
 clear HC4
 obtain ⟨kq, x16_3, rfl, HA, HJ3, BK598, HB⟩ := hcut
 cases kq with
 | zero => exact absurd HA.out (by simp [impl_Graph_cost.j0])
 | succ kj3 =>
  have H := HA.out
  clear HA
  simp only [impl_Graph_cost.j0] at H
  by_cases c10 : x16_3 = true
  ·subst c10
   rw [if_pos rfl] at H
   obtain rfl := Option.some.inj H
   go_wp2
   go_ret
   exact ⟨ew_, bw115_⟩
  replace c10 := Bool.eq_false_iff.mpr c10
  subst c10
  rw [if_neg (show ¬ (false = true) by decide)] at H
  have H' := Aside0.mk H
  clear H
  have hcz11_0 := cz_ BK598 0 (.int .i64 a0_0)
  have hcz11_1 := cz_ BK598 1 (.slice A0_1 l0_1.length c0_1)
  have hfz11_0 := fz_ BK598 0
  have hfz11_1 := fz_ BK598 1
  go_wp2
  go_loopg [20] kj3 (fun kq v20 w' => ∃ (x20_2 : Int), v20 = .int .i64 x20_2 ∧ Aside0 (impl_Graph_cost.l0 kq a1 a2 l0_1 (l0_1.length : Int) x20_2 = some r) ∧ Aside0 (kq ≤ kj3) ∧ Aside0 (w'.heap[gb598]? = some (.cells #[.int .i64 a0_0, (.slice A0_1 l0_1.length c0_1)] 30 (0, 0))) ∧ Aside0 (Below w.heap.size w w'))
  case atStart => exact ⟨(0), er_, H', ⟨Nat.le_refl _⟩, ⟨bx_ BK598⟩, ⟨bw115_⟩⟩
  clear H' hcz11_0 hcz11_1 hfz11_0 hfz11_1
  obtain ⟨x20_2, rfl, HA, HK2, BK598, HB⟩ := hrel
  cases gk with
  | zero => exact absurd HA.out (by simp [impl_Graph_cost.l0])
  | succ k2 =>
   have H := HA.out
   clear HA
   simp only [impl_Graph_cost.l0] at H
   by_cases c12 : x20_2 < (l0_1.length : Int)
   rotate_left
   ·rw [if_neg c12] at H
    have c12b0 : decide (x20_2 < (l0_1.length : Int)) = false := decide_eq_false c12
    clear c12
    obtain rfl := Option.some.inj H
    go_wp2
    go_ret
    exact ⟨ew_, bw115_⟩
   rw [if_pos c12] at H
   have c12b0 : decide (x20_2 < (l0_1.length : Int)) = true := decide_eq_true c12
   clear c12
   obtain ⟨c13b0, H⟩ := iq_ H
   obtain ⟨c14b0, H⟩ := iq_ H
   by_cases c15 : ((rd_T76 l0_1 x20_2).f0) = a1
   rotate_left
   ·rw [if_neg c15] at H
    have c15b0 : (((rd_T76 l0_1 x20_2).f0) == a1) = false := beq_eq_false_iff_ne.mpr c15
    have c15b1 : (((rd_T76 l0_1 x20_2).f0) != a1) = true := bne_iff_ne.mpr c15
    have H' := Aside0.mk H
    clear H
    have p600 : 0 ≤ (x20_2 : Int) := oa_
    have q600 : x20_2 < (l0_1.length : Int) := oa_
    obtain ⟨ad600, e600, hx600_0, hx600_1, hx600_2⟩ := at_T76 HR0_1.out x20_2 p600 q600
    cases e600
    replace hx600_0 := hc5_ HB hx600_0
    replace hx600_1 := hc5_ HB hx600_1
    replace hx600_2 := hc5_ HB hx600_2
    obtain ⟨p600, q600⟩ := et_ p600 q600
    go_wp2_with ((with_reducible refine gate_dst (N := 8) rfl ?_); refine be_ 8 #[.int .i64 0, .int .i64 0, .int .i64 0] 76 ?_; intro gb601 hg w23 BK601 hb; have GW601 := ge_ HB hg; have GE601 := ge_ HB hg; have NB598_601 := nl_ BK598 hg; have NB601_598 := ng_ BK598 hg; replace HB := at_ HB hb; replace BK598 := ab_ BK598 hb; clear hb hg; have hnb24 := NB601_598.out; have hnc24 := NB598_601.out; have hcz25_0 := cz_ BK601 0 (.int .i64 0); have hcz25_1 := cz_ BK601 1 (.int .i64 0); have hcz25_2 := cz_ BK601 2 (.int .i64 0); have hfz25_0 := fz_ BK601 0; have hfz25_1 := fz_ BK601 1; have hfz25_2 := fz_ BK601 2)
    go_roundg k2
    case measure => have := HJ3.out; have := HK2.out; omega
    case rel => exact ⟨(wrap64 (x20_2 + 1)), er_, H', ⟨by have := HJ3.out; have := HK2.out; omega⟩, ⟨bc_ BK598⟩, ⟨bw115_⟩⟩
   rw [if_pos c15] at H
   have c15b0 : (((rd_T76 l0_1 x20_2).f0) == a1) = true := beq_iff_eq.mpr c15
   have c15b1 : (((rd_T76 l0_1 x20_2).f0) != a1) = false := bne_eq_false_iff_eq.mpr c15
   clear c15
   by_cases c16 : ((rd_T76 l0_1 x20_2).f1) = a2
   ·rw [if_pos c16] at H
    have c16b0 : (((rd_T76 l0_1 x20_2).f1) == a2) = true := beq_iff_eq.mpr c16
    have c16b1 : (((rd_T76 l0_1 x20_2).f1) != a2) = false := bne_eq_false_iff_eq.mpr c16
    clear c16
    obtain rfl := Option.some.inj H
    have p600 : 0 ≤ (x20_2 : Int) := oa_
    have q600 : x20_2 < (l0_1.length : Int) := oa_
    obtain ⟨ad600, e600, hx600_0, hx600_1, hx600_2⟩ := at_T76 HR0_1.out x20_2 p600 q600
    cases e600
    replace hx600_0 := hc5_ HB hx600_0
    replace hx600_1 := hc5_ HB hx600_1
    replace hx600_2 := hc5_ HB hx600_2
    obtain ⟨p600, q600⟩ := et_ p600 q600
    go_wp2_with ((with_reducible refine gate_dst (N := 8) rfl ?_); refine be_ 8 #[.int .i64 0, .int .i64 0, .int .i64 0] 76 ?_; intro gb601 hg w17 BK601 hb; have GW601 := ge_ HB hg; have GE601 := ge_ HB hg; have NB598_601 := nl_ BK598 hg; have NB601_598 := ng_ BK598 hg; replace HB := at_ HB hb; replace BK598 := ab_ BK598 hb; clear hb hg; have hnb18 := NB601_598.out; have hnc18 := NB598_601.out; have hcz19_0 := cz_ BK601 0 (.int .i64 0); have hcz19_1 := cz_ BK601 1 (.int .i64 0); have hcz19_2 := cz_ BK601 2 (.int .i64 0); have hfz19_0 := fz_ BK601 0; have hfz19_1 := fz_ BK601 1; have hfz19_2 := fz_ BK601 2)
    go_ret
    exact ⟨ew_, bw115_⟩
   rw [if_neg c16] at H
   have c16b0 : (((rd_T76 l0_1 x20_2).f1) == a2) = false := beq_eq_false_iff_ne.mpr c16
   have c16b1 : (((rd_T76 l0_1 x20_2).f1) != a2) = true := bne_iff_ne.mpr c16
   have H' := Aside0.mk H
   clear H
   have p600 : 0 ≤ (x20_2 : Int) := oa_
   have q600 : x20_2 < (l0_1.length : Int) := oa_
   obtain ⟨ad600, e600, hx600_0, hx600_1, hx600_2⟩ := at_T76 HR0_1.out x20_2 p600 q600
   cases e600
   replace hx600_0 := hc5_ HB hx600_0
   replace hx600_1 := hc5_ HB hx600_1
   replace hx600_2 := hc5_ HB hx600_2
   obtain ⟨p600, q600⟩ := et_ p600 q600
   go_wp2_with ((with_reducible refine gate_dst (N := 8) rfl ?_); refine be_ 8 #[.int .i64 0, .int .i64 0, .int .i64 0] 76 ?_; intro gb601 hg w20 BK601 hb; have GW601 := ge_ HB hg; have GE601 := ge_ HB hg; have NB598_601 := nl_ BK598 hg; have NB601_598 := ng_ BK598 hg; replace HB := at_ HB hb; replace BK598 := ab_ BK598 hb; clear hb hg; have hnb21 := NB601_598.out; have hnc21 := NB598_601.out; have hcz22_0 := cz_ BK601 0 (.int .i64 0); have hcz22_1 := cz_ BK601 1 (.int .i64 0); have hcz22_2 := cz_ BK601 2 (.int .i64 0); have hfz22_0 := fz_ BK601 0; have hfz22_1 := fz_ BK601 1; have hfz22_2 := fz_ BK601 2)
   go_roundg k2
   case measure => have := HJ3.out; have := HK2.out; omega
   case rel => exact ⟨(wrap64 (x20_2 + 1)), er_, H', ⟨by have := HJ3.out; have := HK2.out; omega⟩, ⟨bc_ BK598⟩, ⟨bw115_⟩⟩
def ba22_0 := bs_ 17 0
def ba22_1 := bs_ 17 1
def ba22_2 := bs_ 17 3
def ba22_3 := bs_ 17 7
def ba22_4 := bs_ 17 15
def ba22_5 := bs_ 17 31
def ba22_6 := bs_ 17 63
def ba22_7 := bs_ 17 127
def ba22_8 := bs_ 17 255
def ba22_9 := bs_ 17 511
def ba22_10 := bs_ 17 1023
def ba22_11 := bs_ 17 3071
def ba22_12 := bs_ 17 7167
def ba22_13 := bs_ 17 8191
def ba22_14 := bs_ 17 16383
def ba22_15 := bs_ 17 32767
def ba22_16 := bs_ 17 65535
def ba22_17 := bs_ 17 131071
def ba22_18 := bs_ 17 2047
def ba22_19 := bs_ 17 4095
def ba22_20 := bs_ 12 0
def ba22_21 := bs_ 12 2
def ba22_22 := bs_ 12 6
def ba22_23 := bs_ 12 14
def ba22_24 := bs_ 12 30
def ba22_25 := bs_ 12 94
def ba22_26 := bs_ 12 222
def ba22_27 := bs_ 12 478
def ba22_28 := bs_ 12 479
def ba22_29 := bs_ 12 511
def ba22_30 := bs_ 12 1023
def ba22_31 := bs_ 12 2047
def ba22_32 := bs_ 12 4095
def ba22_33 := bs_ 14 0
def ba22_34 := bs_ 14 1
def ba22_35 := bs_ 14 3
def ba22_36 := bs_ 14 7
def ba22_37 := bs_ 14 15
def ba22_38 := bs_ 14 31
def ba22_39 := bs_ 14 63
def ba22_40 := bs_ 14 127
def ba22_41 := bs_ 14 255
def ba22_42 := bs_ 14 511
def ba22_43 := bs_ 14 1023
def ba22_44 := bs_ 14 2047
def ba22_45 := bs_ 14 4095
def ba22_46 := bs_ 14 8191
def ba22_47 := bs_ 14 16383
def ba22_48 := bs_ 14 191
def ba22_49 := bs_ 14 447
def ba22_50 := bs_ 14 959
def ba22_51 := bs_ 14 1983
mutual
def impl_WayCost.j0 : Nat → List Int → Bool → Int → List (S76) → Option (Int)
 | 0, _, _, _, _ => none
 | k + 1, x1, x24, x603000, x603001 => if x24 = true then (some (-1)) else (impl_WayCost.l0 k x1 0 1 x603000 x603001)
def impl_WayCost.l0 : Nat → List Int → Int → Int → Int → List (S76) → Option (Int)
 | 0, _, _, _, _, _ => none
 | k + 1, x1, x5, x6, x603000, x603001 => if x6 < (x1.length : Int) then (if 0 ≤ (wrap64 (x6 - 1)) then (if (wrap64 (x6 - 1)) < (x1.length : Int) then (if 0 ≤ x6 then ((impl_Graph_cost.f k x603000 x603001 (rd x1 (wrap64 (x6 - 1))) (rd x1 x6)).bind fun t609 => (if t609 = 1000000 then (some (-1)) else (if (rd x1 x6) = (rd x1 (wrap64 (x6 - 1))) then (some (-1)) else (impl_WayCost.l0 k x1 (wrap64 (x5 + t609)) (wrap64 (x6 + 1)) x603000 x603001)))) else (none)) else (none)) else (none)) else (some x5)
end
def impl_WayCost.f (k : Nat) (a0_0 : Int) (l0_1 : List (S76)) (l1 : List Int) : Option (Int) := (impl_GraphOk.f k a0_0 l0_1).bind fun t603 => (if t603 = true then ((impl_within.f (l1.length : Int) 1 300).bind fun t604 => (if t604 = true then (if 0 < (l1.length : Int) then ((impl_Graph_isNode.f a0_0 l0_1 (rd l1 0)).bind fun t606 => (impl_WayCost.j0 k l1 (!t606) a0_0 l0_1)) else (none)) else (impl_WayCost.j0 k l1 true a0_0 l0_1))) else (impl_WayCost.j0 k l1 true a0_0 l0_1))
def impl_WayCost.T1 : Bool × List (List Nat × List Nat) := (true, [([], []), ([0], [0]), ([1], [1]), ([2, 1], [2]), ([3], [3]), ([4, 3], [3, 4]), ([5, 3, 3], [3, 5]), ([6, 3], [3, 6]), ([3, 7], [3, 7]), ([8, 6], [8]), ([9], [9]), ([9], [9]), ([11, 9], [9, 11]), ([12, 9], [9, 12]), ([10, 13, 9, 9], [9, 10, 13]), ([14, 9], [9, 14]), ([9, 15], [9, 15])])
def impl_WayCost.B1 : List Nat := [0, 1, 3, 7, 15, 31, 63, 127, 255, 511, 1023, 1023, 3071, 7167, 16383, 32767, 65535]
theorem impl_WayCost.tab1 : rtab .any (opsOf Try.f43 1) = impl_WayCost.T1 := by kernel_rfl
theorem impl_WayCost.bits1 : waitsOk impl_WayCost.T1.2 impl_WayCost.B1 = true := by kernel_rfl
def impl_WayCost.T7 : Bool × List (List Nat × List Nat) := (true, [([], []), ([], []), ([], []), ([2], [2]), ([1, 3], [1, 3]), ([4], [4]), ([], []), ([], []), ([6, 7], [6, 7]), ([8], [8]), ([0, 5, 9], [0, 5, 9]), ([10, 10, 0, 1, 2, 3, 4, 5, 6, 7, 8, 9, 10], [10])])
def impl_WayCost.B7 : List Nat := [0, 0, 0, 4, 14, 30, 0, 0, 192, 448, 1023, 2047]
theorem impl_WayCost.tab7 : rtab .any (opsOf Try.f43 7) = impl_WayCost.T7 := by kernel_rfl
theorem impl_WayCost.bits7 : waitsOk impl_WayCost.T7.2 impl_WayCost.B7 = true := by kernel_rfl
def impl_WayCost.T8 : Bool × List (List Nat × List Nat) := (true, [([], []), ([0], [0]), ([1], [1]), ([2], [2]), ([2], [2]), ([3, 4, 2], [2, 3, 4]), ([5, 2], [2, 5]), ([2], [2]), ([2], [2]), ([8, 2], [2, 8]), ([7, 9, 2], [2, 7, 9]), ([10, 2], [2, 10]), ([6, 11, 2], [2, 6, 11]), ([2, 12], [2, 12])])
def impl_WayCost.B8 : List Nat := [0, 1, 3, 7, 7, 31, 63, 7, 7, 263, 903, 1927, 4095, 8191]
theorem impl_WayCost.tab8 : rtab .any (opsOf Try.f43 8) = impl_WayCost.T8 := by kernel_rfl
theorem impl_WayCost.bits8 : waitsOk impl_WayCost.T8.2 impl_WayCost.B8 = true := by kernel_rfl
set_option maxHeartbeats 8000000 in
set_option maxRecDepth 100000 in
theorem impl_WayCost.calls (k : Nat) (a0_0 : Int) (A0_1 : Option Addr) (c0_1 : Nat) (l0_1 : List (S76)) (A1 : Option Addr) (c1 : Nat) (l1 : List Int) (r : Int) (w : World) (hr0_1 : Kd.C k76 w A0_1 l0_1.length l0_1) (hc0_1 : l0_1.length ≤ c0_1) (hr1 : Kd.C (Kd.int .i64) w A1 l1.length l1) (hc1 : l1.length ≤ c1) (h : impl_WayCost.f k a0_0 l0_1 l1 = some r) :
  Calls Try.prog 43 #[.agg #[.int .i64 a0_0, .slice A0_1 l0_1.length c0_1], .slice A1 l1.length c1] w fun e w' => e = .returned (.int .i64 r) ∧ Below w.heap.size w w' := by
 have hu30 := Try.underlying30
 have HR0_1 := Aside0.mk hr0_1
 have HC0_1 := Aside0.mk hc0_1
 clear hr0_1 hc0_1
 have HR1 := Aside0.mk hr1
 have HC1 := Aside0.mk hc1
 clear hr1 hc1
 have HB := Aside0.mk (Below.refl w.heap.size w)
 have H : ((impl_GraphOk.f k a0_0 l0_1).bind fun t603 => (if t603 = true then ((impl_within.f (l1.length : Int) 1 300).bind fun t604 => (if t604 = true then (if 0 < (l1.length : Int) then ((impl_Graph_isNode.f a0_0 l0_1 (rd l1 0)).bind fun t606 => (impl_WayCost.j0 k l1 (!t606) a0_0 l0_1)) else (none)) else (impl_WayCost.j0 k l1 true a0_0 l0_1))) else (impl_WayCost.j0 k l1 true a0_0 l0_1))) = some r := h
 clear h
 have HC3 := Aside0.mk H
 clear H
 go_enter Try.func43, Try.ntmps43
 go_upto_region 1 with ((with_reducible refine gate_dst (N := 2) rfl ?_); refine be_ 2 #[.int .i64 a0_0, .slice A0_1 l0_1.length c0_1] 30 ?_; intro gb602 hg w4 BK602 hb; have GW602 := ge_ HB hg; have GE602 := ge_ HB hg; replace HB := at_ HB hb; clear hb hg)
 (try simp only [Act.put, List.setIfInBounds_toArray, List.set_cons_zero, List.set_cons_succ])
 go_cut [24] (fun v24 wc => ∃ (kq : Nat) (x24_2 : Bool), v24 = .bool x24_2 ∧ Aside0 (impl_WayCost.j0 kq l1 x24_2 a0_0 l0_1 = some r) ∧ Aside0 (kq ≤ k) ∧ Aside0 (wc.heap[gb602]? = some (.cells #[.int .i64 a0_0, (.slice A0_1 l0_1.length c0_1)] 30 (0, 0))) ∧ Aside0 (Below w.heap.size w wc))
 case first =>
  have H := HC3.out
  clear HC3
  obtain ⟨t603, A5, H⟩ := ob_ H
  by_cases c6 : t603 = true
  rotate_left
  ·replace c6 := Bool.eq_false_iff.mpr c6
   subst c6
   rw [if_neg (show ¬ (false = true) by decide)] at H
   have H' := Aside0.mk H
   clear H
   go_wp2
   replace BK602 := ad_ BK602
   replace HB := Aside0.mk (below_drew1 HB.out)
   refine start_ (n := 17) (S := fun w' => w'.cell? ⟨gb602, 0, none⟩ = some (.int .i64 a0_0) ∧ w'.cell? ⟨gb602, 1, none⟩ = some (.slice A0_1 l0_1.length c0_1)) (ds := []) ba22_0 (by kernel_rfl) rfl rfl ⟨bq5_ BK602 0, bq5_ BK602 1⟩ (fun hHeld => ?_); refine with_tabW impl_WayCost.tab1 impl_WayCost.bits1 (fun HT_ HW_ => ?_)
   generalize w4.drew = w16 at BK602 HB hHeld ⊢
   refine pt_ 0 8 ba22_1 HT_ HW_ hHeld ?_
   refine on_ 1 (some 9) ba22_2 HT_ (fun K hK => ?_)
   refine gz_ Try.func47 #[.agg #[.int .i64 a0_0, .slice A0_1 l0_1.length c0_1]] ?_
   with_reducible refine (impl_GraphOk.calls k a0_0 _ _ l0_1 false _ ?side1 ?side2 A5.out).mono ?_
   (case side1 => exact cb_ HR0_1 HB)
   (case side2 => exact HC0_1.out)
   rintro e w17 ⟨rfl, hb⟩
   refine ⟨_, rfl, ?_⟩
   replace BK602 := ab_ BK602 hb
   replace HB := at_ HB hb
   clear hb
   refine hK.out _ _ ⟨bq5_ BK602 0, bq5_ BK602 1⟩ (fun hHeld => ?_)
   clear hK K
   refine nz_ 9 ?_
   refine pz_ 2 10 ba22_3 HT_ ?_
   refine pz_ 3 11 ba22_4 HT_ ?_
   refine pu_ 4 12 ba22_5 HT_ ?_
   refine pu_ 5 13 ba22_6 HT_ ?_
   refine pu_ 6 14 ba22_7 HT_ ?_
   refine pu_ 7 15 ba22_8 HT_ ?_
   refine pz_ 8 16 ba22_9 HT_ ?_
   refine pz_ 9 17 ba22_10 HT_ ?_
   refine pu_ 10 18 ba22_18 HT_ ?_
   refine pu_ 11 19 ba22_19 HT_ ?_
   refine pu_ 12 20 ba22_13 HT_ ?_
   refine pu_ 13 21 ba22_14 HT_ ?_
   refine pu_ 14 22 ba22_15 HT_ ?_
   refine pu_ 15 23 ba22_16 HT_ ?_
   refine pz_ 16 24 ba22_17 HT_ ?_
   refine done_ (done_of HT_.out (by kernel_rfl)) ?_
   go_wp2
   go_meet
   case rel => exact ⟨_, (true), er_, H', ⟨by first | omega | exact Nat.le_refl _⟩, ⟨bx_ BK602⟩, ⟨bw115_⟩⟩
  subst c6
  rw [if_pos rfl] at H
  obtain ⟨t604, A7, H⟩ := ob_ H
  by_cases c8 : t604 = true
  rotate_left
  ·replace c8 := Bool.eq_false_iff.mpr c8
   subst c8
   rw [if_neg (show ¬ (false = true) by decide)] at H
   have H' := Aside0.mk H
   clear H
   go_wp2
   replace BK602 := ad_ BK602
   replace HB := Aside0.mk (below_drew1 HB.out)
   refine start_ (n := 17) (S := fun w' => w'.cell? ⟨gb602, 0, none⟩ = some (.int .i64 a0_0) ∧ w'.cell? ⟨gb602, 1, none⟩ = some (.slice A0_1 l0_1.length c0_1)) (ds := []) ba22_0 (by kernel_rfl) rfl rfl ⟨bq5_ BK602 0, bq5_ BK602 1⟩ (fun hHeld => ?_); refine with_tabW impl_WayCost.tab1 impl_WayCost.bits1 (fun HT_ HW_ => ?_)
   generalize w4.drew = w14 at BK602 HB hHeld ⊢
   refine pt_ 0 8 ba22_1 HT_ HW_ hHeld ?_
   refine on_ 1 (some 9) ba22_2 HT_ (fun K hK => ?_)
   refine gz_ Try.func47 #[.agg #[.int .i64 a0_0, .slice A0_1 l0_1.length c0_1]] ?_
   with_reducible refine (impl_GraphOk.calls k a0_0 _ _ l0_1 true _ ?side1 ?side2 A5.out).mono ?_
   (case side1 => exact cb_ HR0_1 HB)
   (case side2 => exact HC0_1.out)
   rintro e w15 ⟨rfl, hb⟩
   refine ⟨_, rfl, ?_⟩
   replace BK602 := ab_ BK602 hb
   replace HB := at_ HB hb
   clear hb
   refine hK.out _ _ ⟨bq5_ BK602 0, bq5_ BK602 1⟩ (fun hHeld => ?_)
   clear hK K
   refine nz_ 9 ?_
   refine pz_ 2 10 ba22_3 HT_ ?_
   refine pz_ 3 11 ba22_4 HT_ ?_
   refine pz_ 4 12 ba22_5 HT_ ?_
   refine pz_ 5 13 ba22_6 HT_ ?_
   refine on_ 6 (some 14) ba22_7 HT_ (fun K hK => ?_)
   refine gz_ Try.func54 #[.int .i64 (l1.length : Int), .int .i64 1, .int .i64 300] ?_
   with_reducible refine (impl_within.calls (l1.length : Int) 1 300 false _ A7.out).mono ?_
   rintro e w' ⟨rfl, ⟨nd, rfl⟩⟩
   refine ⟨_, rfl, ?_⟩
   refine hK.out _ _ ⟨bq5_ BK602 0, bq5_ BK602 1⟩ (fun hHeld => ?_)
   clear hK K
   refine nz_ 14 ?_
   refine pz_ 7 15 ba22_8 HT_ ?_
   refine pz_ 8 16 ba22_9 HT_ ?_
   refine pz_ 9 17 ba22_10 HT_ ?_
   refine pu_ 10 18 ba22_18 HT_ ?_
   refine pu_ 11 19 ba22_19 HT_ ?_
   refine pu_ 12 20 ba22_13 HT_ ?_
   refine pu_ 13 21 ba22_14 HT_ ?_
   refine pu_ 14 22 ba22_15 HT_ ?_
   refine pu_ 15 23 ba22_16 HT_ ?_
   refine pz_ 16 24 ba22_17 HT_ ?_
   refine done_ (done_of HT_.out (by kernel_rfl)) ?_
   go_wp2
   go_meet
   case rel => exact ⟨_, (true), er_, H', ⟨by first | omega | exact Nat.le_refl _⟩, ⟨bx_ BK602⟩, ⟨bw115_⟩⟩
  subst c8
  rw [if_pos rfl] at H
  by_cases c9 : 0 < (l1.length : Int)
  rotate_left
  ·rw [if_neg c9] at H
   exact absurd H (by simp)
  rw [if_pos c9] at H
  have c9b0 : decide (0 < (l1.length : Int)) = true := decide_eq_true c9
  have c9b1 : decide (0 < l1.length) = true := decide_eq_true (by omega)
  clear c9
  (first | rw [c9b0] | (simp only [i64_w, i32_w]; rw [c9b0]) | skip)
  obtain ⟨t606, A10, H⟩ := ob_ H
  have H' := Aside0.mk H
  clear H
  go_wp2
  replace BK602 := ad_ BK602
  replace HB := Aside0.mk (below_drew1 HB.out)
  have p605 : 0 ≤ (0 : Int) := (by omega)
  have q605 : 0 < (l1.length : Int) := oa_
  obtain ⟨ad605, e605, hx605_0⟩ := Kd.at_int HR1.out 0 p605 q605
  have hw605_0 := hx605_0
  (try rw [show ((0 : Int)).toNat = 0 from rfl] at hw605_0)
  (try rw [show 0 * 1 = 0 from rfl] at hw605_0)
  (try rw [Addr.add_zero'] at hw605_0)
  cases e605
  have qi605 : (0 < l1.length) = True := eq_true (by omega)
  (try rw [show ((0 : Int)).toNat = 0 from rfl] at hx605_0)
  (try rw [Addr.add_zero'] at hx605_0)
  replace hx605_0 := hc5_ HB hx605_0
  obtain ⟨p605, q605⟩ := et_ p605 q605
  refine start_ (n := 17) (S := fun w' => w'.cell? ⟨gb602, 0, none⟩ = some (.int .i64 a0_0) ∧ w'.cell? ⟨gb602, 1, none⟩ = some (.slice A0_1 l0_1.length c0_1) ∧ w'.cell? ad605 = some (.int .i64 (rd l1 0))) (ds := []) ba22_0 (by kernel_rfl) rfl rfl ⟨bq5_ BK602 0, bq5_ BK602 1, (hc_ HB hw605_0)⟩ (fun hHeld => ?_); refine with_tabW impl_WayCost.tab1 impl_WayCost.bits1 (fun HT_ HW_ => ?_)
  generalize w4.drew = w11 at BK602 HB hx605_0 hHeld ⊢
  refine pt_ 0 8 ba22_1 HT_ HW_ hHeld ?_
  refine on_ 1 (some 9) ba22_2 HT_ (fun K hK => ?_)
  refine gz_ Try.func47 #[.agg #[.int .i64 a0_0, .slice A0_1 l0_1.length c0_1]] ?_
  with_reducible refine (impl_GraphOk.calls k a0_0 _ _ l0_1 true _ ?side1 ?side2 A5.out).mono ?_
  (case side1 => exact cb_ HR0_1 HB)
  (case side2 => exact HC0_1.out)
  rintro e w12 ⟨rfl, hb⟩
  refine ⟨_, rfl, ?_⟩
  replace BK602 := ab_ BK602 hb
  replace HB := at_ HB hb
  clear hb
  refine hK.out _ _ ⟨bq5_ BK602 0, bq5_ BK602 1, (hc_ HB hw605_0)⟩ (fun hHeld => ?_)
  clear hK K
  refine nz_ 9 ?_
  refine pz_ 2 10 ba22_3 HT_ ?_
  refine pz_ 3 11 ba22_4 HT_ ?_
  refine pz_ 4 12 ba22_5 HT_ ?_
  refine pz_ 5 13 ba22_6 HT_ ?_
  refine on_ 6 (some 14) ba22_7 HT_ (fun K hK => ?_)
  refine gz_ Try.func54 #[.int .i64 (l1.length : Int), .int .i64 1, .int .i64 300] ?_
  with_reducible refine (impl_within.calls (l1.length : Int) 1 300 true _ A7.out).mono ?_
  rintro e w' ⟨rfl, ⟨nd, rfl⟩⟩
  refine ⟨_, rfl, ?_⟩
  refine hK.out _ _ ⟨bq5_ BK602 0, bq5_ BK602 1, (hc_ HB hw605_0)⟩ (fun hHeld => ?_)
  clear hK K
  refine nz_ 14 ?_
  refine pz_ 7 15 ba22_8 HT_ ?_
  refine pz_ 8 16 ba22_9 HT_ ?_
  refine pz_ 9 17 ba22_10 HT_ ?_
  refine pz_ 11 19 ba22_11 HT_ ?_
  refine pz_ 12 20 ba22_12 HT_ ?_
  refine pt_ 10 18 ba22_13 HT_ HW_ hHeld ?_
  refine pt_ 13 21 ba22_14 HT_ HW_ hHeld ?_
  refine on_ 14 (some 22) ba22_15 HT_ (fun K hK => ?_)
  refine gz_ Try.func48 #[.agg #[.int .i64 a0_0, .slice A0_1 l0_1.length c0_1], .int .i64 (rd l1 0)] ?_
  with_reducible refine (impl_Graph_isNode.calls a0_0 _ _ l0_1 (rd l1 0) t606 _ ?side1 ?side2 A10.out).mono ?_
  (case side1 => exact cc_ HR0_1 HB)
  (case side2 => exact HC0_1.out)
  rintro e w13 ⟨rfl, hb⟩
  refine ⟨_, rfl, ?_⟩
  replace BK602 := ab_ BK602 hb
  replace HB := at_ HB hb
  clear hb
  refine hK.out _ _ ⟨bq5_ BK602 0, bq5_ BK602 1, (hc_ HB hw605_0)⟩ (fun hHeld => ?_)
  clear hK K
  refine nz_ 22 ?_
  refine pz_ 15 23 ba22_16 HT_ ?_
  refine pz_ 16 24 ba22_17 HT_ ?_
  refine done_ (done_of HT_.out (by kernel_rfl)) ?_
  go_wp2
  go_meet
  case rel => exact ⟨_, (!t606), er_, H', ⟨by first | omega | exact Nat.le_refl _⟩, ⟨bx_ BK602⟩, ⟨bw115_⟩⟩
 clear HC3
 obtain ⟨kq, x24_2, rfl, HA, HJ2, BK602, HB⟩ := hcut
 cases kq with
 | zero => exact absurd HA.out (by simp [impl_WayCost.j0])
 | succ kj2 =>
  have H := HA.out
  clear HA
  simp only [impl_WayCost.j0] at H
  by_cases c18 : x24_2 = true
  ·subst c18
   rw [if_pos rfl] at H
   obtain rfl := Option.some.inj H
   go_wp2
   go_ret
   exact ⟨ew_, bw115_⟩
  replace c18 := Bool.eq_false_iff.mpr c18
  subst c18
  rw [if_neg (show ¬ (false = true) by decide)] at H
  have H' := Aside0.mk H
  clear H
  go_wp2
  go_loopg [5, 6] kj2 (fun kq v5 v6 w' => ∃ (x5_2 : Int) (x6_2 : Int), v5 = .int .i64 x5_2 ∧ v6 = .int .i64 x6_2 ∧ Aside0 (impl_WayCost.l0 kq l1 x5_2 x6_2 a0_0 l0_1 = some r) ∧ Aside0 (kq ≤ kj2) ∧ Aside0 (w'.heap[gb602]? = some (.cells #[.int .i64 a0_0, (.slice A0_1 l0_1.length c0_1)] 30 (0, 0))) ∧ Aside0 (Below w.heap.size w w'))
  case atStart => exact ⟨(0), (1), er_, er_, H', ⟨Nat.le_refl _⟩, ⟨bx_ BK602⟩, ⟨bw115_⟩⟩
  clear H'
  obtain ⟨x5_2, x6_2, rfl, rfl, HA, HK2, BK602, HB⟩ := hrel
  cases gk with
  | zero => exact absurd HA.out (by simp [impl_WayCost.l0])
  | succ k2 =>
   have H := HA.out
   clear HA
   simp only [impl_WayCost.l0] at H
   by_cases c19 : x6_2 < (l1.length : Int)
   rotate_left
   ·rw [if_neg c19] at H
    have c19b0 : decide (x6_2 < (l1.length : Int)) = false := decide_eq_false c19
    clear c19
    obtain rfl := Option.some.inj H
    go_wp2
    go_ret
    exact ⟨ew_, bw115_⟩
   rw [if_pos c19] at H
   have c19b0 : decide (x6_2 < (l1.length : Int)) = true := decide_eq_true c19
   clear c19
   obtain ⟨ji20, hji20⟩ : ∃ j_ : Int, (wrap64 (x6_2 - 1)) = j_ := ⟨_, rfl⟩
   first | rw [hji20] at H | simp only [hji20] at H
   have hji20w : (IntKind.i64.wrap (x6_2 - 1)) = ji20 := (i64_w _).trans hji20
   obtain ⟨c21b0, H⟩ := iq_ H
   obtain ⟨c22b0, H⟩ := iq_ H
   obtain ⟨c23b0, H⟩ := iq_ H
   obtain ⟨t609, A24, H⟩ := ob_ H
   have Hh_ := Aside0.mk H
   clear H
   go_wp2
   replace BK602 := ad_ BK602
   replace HB := Aside0.mk (below_drew1 HB.out)
   have p607 : 0 ≤ ((ji20) : Int) := oa_
   have q607 : (ji20) < (l1.length : Int) := oa_
   obtain ⟨ad607, e607, hx607_0⟩ := Kd.at_int HR1.out (ji20) p607 q607
   have hw607_0 := hx607_0
   cases e607
   replace hx607_0 := hc5_ HB hx607_0
   obtain ⟨p607, q607⟩ := et_ p607 q607
   have p608 : 0 ≤ (x6_2 : Int) := oa_
   have q608 : x6_2 < (l1.length : Int) := oa_
   obtain ⟨ad608, e608, hx608_0⟩ := Kd.at_int HR1.out x6_2 p608 q608
   have hw608_0 := hx608_0
   obtain rfl : ad607 = ad608 := (by injection e608)
   replace hx608_0 := hc5_ HB hx608_0
   obtain ⟨p608, q608⟩ := et_ p608 q608
   refine start_ (n := 12) (S := fun w' => w'.cell? ⟨gb602, 0, none⟩ = some (.int .i64 a0_0) ∧ w'.cell? ⟨gb602, 1, none⟩ = some (.slice A0_1 l0_1.length c0_1) ∧ w'.cell? (ad607.add ((ji20)).toNat) = some (.int .i64 (rd l1 (ji20))) ∧ w'.cell? (ad607.add (x6_2).toNat) = some (.int .i64 (rd l1 x6_2))) (ds := []) ba22_20 (by kernel_rfl) rfl rfl ⟨bq5_ BK602 0, bq5_ BK602 1, (hc_ HB hw607_0), (hc_ HB hw608_0)⟩ (fun hHeld => ?_); refine with_tabW impl_WayCost.tab7 impl_WayCost.bits7 (fun HT_ HW_ => ?_)
   generalize wr.drew = w26 at BK602 HB hx607_0 hx608_0 hHeld ⊢
   refine pz_ 1 32 ba22_21 HT_ ?_
   refine pz_ 2 33 ba22_22 HT_ ?_
   refine pz_ 3 34 ba22_23 HT_ ?_
   refine pz_ 4 35 ba22_24 HT_ ?_
   refine pz_ 6 37 ba22_25 HT_ ?_
   refine pz_ 7 38 ba22_26 HT_ ?_
   refine pz_ 8 39 ba22_27 HT_ ?_
   refine pt_ 0 31 ba22_28 HT_ HW_ hHeld ?_
   refine pt_ 5 36 ba22_29 HT_ HW_ hHeld ?_
   refine pt_ 9 40 ba22_30 HT_ HW_ hHeld ?_
   refine on_ 10 (some 41) ba22_31 HT_ (fun K hK => ?_)
   refine goes_ Try.func63 (by kernel_rfl) rfl #[.agg #[.int .i64 a0_0, .slice A0_1 l0_1.length c0_1], .int .i64 (rd l1 (ji20)), .int .i64 (rd l1 x6_2)] (by rfl) rfl rfl (by (try simp only [List.map_toArray, List.map_cons, List.map_nil]); first | done | (simp only [hji20]; rfl) | rfl | (simp only [List.length_drop, List.length_take]; rfl)) ?_
   with_reducible refine (impl_Graph_cost.calls k2 a0_0 _ _ l0_1 (rd l1 (ji20)) (rd l1 x6_2) t609 _ ?side1 ?side2 A24.out).mono ?_
   (case side1 => exact cb_ HR0_1 HB)
   (case side2 => exact HC0_1.out)
   rintro e w27 ⟨rfl, hb⟩
   refine ⟨_, rfl, ?_⟩
   replace BK602 := ab_ BK602 hb
   replace HB := at_ HB hb
   clear hb
   refine hK.out _ _ ⟨bq5_ BK602 0, bq5_ BK602 1, (hc_ HB hw607_0), (hc_ HB hw608_0)⟩ (fun hHeld => ?_)
   clear hK K
   refine nz_ 41 ?_
   refine pz_ 11 7 ba22_32 HT_ ?_
   refine done_ (done_of HT_.out (by kernel_rfl)) ?_
   go_wp2
   replace BK602 := ad_ BK602
   replace HB := Aside0.mk (below_drew1 HB.out)
   have H := Hh_.out
   clear Hh_
   by_cases c25 : t609 = 1000000
   ·rw [if_pos c25] at H
    have c25b0 : (t609 == 1000000) = true := beq_iff_eq.mpr c25
    have c25b1 : (t609 != 1000000) = false := bne_eq_false_iff_eq.mpr c25
    clear c25
    obtain rfl := Option.some.inj H
    refine start_ (n := 14) (S := fun w' => True) (ds := []) ba22_33 (by kernel_rfl) rfl rfl trivial (fun hHeld => ?_); refine with_tabW impl_WayCost.tab8 impl_WayCost.bits8 (fun HT_ HW_ => ?_)
    generalize w27.drew = w28 at BK602 HB hHeld ⊢
    refine pz_ 0 42 ba22_34 HT_ ?_
    refine pz_ 1 43 ba22_35 HT_ ?_
    refine pz_ 2 44 ba22_36 HT_ ?_
    refine pu_ 3 45 ba22_37 HT_ ?_
    refine pu_ 4 46 ba22_38 HT_ ?_
    refine pu_ 5 47 ba22_39 HT_ ?_
    refine pu_ 6 48 ba22_40 HT_ ?_
    refine pu_ 7 49 ba22_41 HT_ ?_
    refine pu_ 8 50 ba22_42 HT_ ?_
    refine pu_ 9 51 ba22_43 HT_ ?_
    refine pu_ 10 52 ba22_44 HT_ ?_
    refine pu_ 11 53 ba22_45 HT_ ?_
    refine pu_ 12 54 ba22_46 HT_ ?_
    refine pz_ 13 55 ba22_47 HT_ ?_
    refine done_ (done_of HT_.out (by kernel_rfl)) ?_
    go_wp2
    go_ret
    exact ⟨by first | rfl | (simp [errW_none, errW_some] <;> rfl) | (simp only [← hji20]; first | rfl | (simp [errW_none, errW_some] <;> rfl)) | (simp [*, errW_none, errW_some] <;> rfl), bw115_⟩
   rw [if_neg c25] at H
   have c25b0 : (t609 == 1000000) = false := beq_eq_false_iff_ne.mpr c25
   have c25b1 : (t609 != 1000000) = true := bne_iff_ne.mpr c25
   have Hh_ := Aside0.mk H
   clear H
   have p610 : 0 ≤ (x6_2 : Int) := oa_
   have q610 : x6_2 < (l1.length : Int) := oa_
   obtain ⟨ad610, e610, hx610_0⟩ := Kd.at_int HR1.out x6_2 p610 q610
   have hw610_0 := hx610_0
   obtain rfl : ad607 = ad610 := (by injection e610)
   replace hx610_0 := hc5_ HB hx610_0
   obtain ⟨p610, q610⟩ := et_ p610 q610
   have p611 : 0 ≤ ((ji20) : Int) := oa_
   have q611 : (ji20) < (l1.length : Int) := oa_
   obtain ⟨ad611, e611, hx611_0⟩ := Kd.at_int HR1.out (ji20) p611 q611
   have hw611_0 := hx611_0
   obtain rfl : ad607 = ad611 := (by injection e611)
   replace hx611_0 := hc5_ HB hx611_0
   obtain ⟨p611, q611⟩ := et_ p611 q611
   refine start_ (n := 14) (S := fun w' => w'.cell? (ad607.add (x6_2).toNat) = some (.int .i64 (rd l1 x6_2)) ∧ w'.cell? (ad607.add ((ji20)).toNat) = some (.int .i64 (rd l1 (ji20)))) (ds := []) ba22_33 (by kernel_rfl) rfl rfl ⟨(hc_ HB hw610_0), (hc_ HB hw611_0)⟩ (fun hHeld => ?_); refine with_tabW impl_WayCost.tab8 impl_WayCost.bits8 (fun HT_ HW_ => ?_)
   generalize w27.drew = w32 at BK602 HB hx610_0 hx611_0 hHeld ⊢
   have H := Hh_.out
   clear Hh_
   by_cases c29 : (rd l1 x6_2) = (rd l1 (ji20))
   ·rw [if_pos c29] at H
    have c29b0 : ((rd l1 x6_2) == (rd l1 (ji20))) = true := beq_iff_eq.mpr c29
    have c29b1 : ((rd l1 x6_2) != (rd l1 (ji20))) = false := bne_eq_false_iff_eq.mpr c29
    clear c29
    obtain rfl := Option.some.inj H
    refine pz_ 0 42 ba22_34 HT_ ?_
    refine pz_ 1 43 ba22_35 HT_ ?_
    refine pz_ 2 44 ba22_36 HT_ ?_
    refine pz_ 3 45 ba22_37 HT_ ?_
    refine pz_ 4 46 ba22_38 HT_ ?_
    refine pz_ 5 47 ba22_39 HT_ ?_
    refine pz_ 7 49 ba22_48 HT_ ?_
    refine pz_ 8 50 ba22_49 HT_ ?_
    refine pz_ 9 51 ba22_50 HT_ ?_
    refine pz_ 10 52 ba22_51 HT_ ?_
    refine pt_ 6 48 ba22_44 HT_ HW_ hHeld ?_
    refine pt_ 11 53 ba22_45 HT_ HW_ hHeld ?_
    refine pz_ 12 54 ba22_46 HT_ ?_
    refine pz_ 13 55 ba22_47 HT_ ?_
    refine done_ (done_of HT_.out (by kernel_rfl)) ?_
    go_wp2
    go_ret
    exact ⟨by first | rfl | (simp [errW_none, errW_some] <;> rfl) | (simp only [← hji20]; first | rfl | (simp [errW_none, errW_some] <;> rfl)) | (simp [*, errW_none, errW_some] <;> rfl), bw115_⟩
   rw [if_neg c29] at H
   have c29b0 : ((rd l1 x6_2) == (rd l1 (ji20))) = false := beq_eq_false_iff_ne.mpr c29
   have c29b1 : ((rd l1 x6_2) != (rd l1 (ji20))) = true := bne_iff_ne.mpr c29
   have H' := Aside0.mk H
   clear H
   refine pz_ 0 42 ba22_34 HT_ ?_
   refine pz_ 1 43 ba22_35 HT_ ?_
   refine pz_ 2 44 ba22_36 HT_ ?_
   refine pz_ 3 45 ba22_37 HT_ ?_
   refine pz_ 4 46 ba22_38 HT_ ?_
   refine pz_ 5 47 ba22_39 HT_ ?_
   refine pz_ 7 49 ba22_48 HT_ ?_
   refine pz_ 8 50 ba22_49 HT_ ?_
   refine pz_ 9 51 ba22_50 HT_ ?_
   refine pz_ 10 52 ba22_51 HT_ ?_
   refine pt_ 6 48 ba22_44 HT_ HW_ hHeld ?_
   refine pt_ 11 53 ba22_45 HT_ HW_ hHeld ?_
   refine pz_ 12 54 ba22_46 HT_ ?_
   refine pz_ 13 55 ba22_47 HT_ ?_
   refine done_ (done_of HT_.out (by kernel_rfl)) ?_
   go_wp2
   go_roundg k2
   case measure => have := HJ2.out; have := HK2.out; omega
   case rel => exact ⟨(wrap64 (x5_2 + t609)), (wrap64 (x6_2 + 1)), er_, er_, H', ⟨by have := HJ2.out; have := HK2.out; omega⟩, ⟨bx_ BK602⟩, ⟨bw115_⟩⟩
end Go.Proofs.Ythmahcohcphljaa.QFnCheapest
