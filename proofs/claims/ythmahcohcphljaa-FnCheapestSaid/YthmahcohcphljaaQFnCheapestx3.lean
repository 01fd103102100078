/- Contracts of functions that the law reaches: what each call returns and what it leaves in memory. Made by this session over the print of the kit. -/
import Derived.Test.YthmahcohcphljaaQFnCheapestx0
namespace Go.Proofs.Ythmahcohcphljaa.QFnCheapest
open Go.RowKit Go.Proofs.YthmahcohcphljaaC.PrintWords Go.Proofs.YthmahcohcphljaaC.PrintLast Go.Proofs.YthmahcohcphljaaC.PrintMore
attribute [local go_sem] max2_int min2_int max_two min_two max_three min_three max_four min_four
set_option linter.unusedVariables false
set_option linter.unusedSimpArgs false
def impl_within.f (a0 : Int) (a1 : Int) (a2 : Int) : Option (Bool) := if a0 ≥ a1 then (some (decide (a0 ≤ a2))) else (some false)
set_option maxHeartbeats 8000000 in
set_option maxRecDepth 100000 in
theorem impl_within.calls (a0 : Int) (a1 : Int) (a2 : Int) (r : Bool) (w : World) (h : impl_within.f a0 a1 a2 = some r) :
  Calls Try.prog 54 #[.int .i64 a0, .int .i64 a1, .int .i64 a2] w fun e w' => e = .returned (.bool r) ∧ Drawn0 w w' := by
 have H : (if a0 ≥ a1 then (some (decide (a0 ≤ a2))) else (some false)) = some r := h
 clear h
 by_cases c4 : a0 ≥ a1
 ·rw [if_pos c4] at H
  have c4b0 : decide (a1 ≤ a0) = true := decide_eq_true c4
  clear c4
  obtain rfl := Option.some.inj H
  go_enter Try.func54, Try.ntmps54
  go_wp2
  go_ret
  exact ⟨by first | rfl | (simp; done) | (simp [*]; done), by repeat (first | exact Drawn0.refl _ | apply Drawn0.step)⟩
 rw [if_neg c4] at H
 have c4b0 : decide (a1 ≤ a0) = false := decide_eq_false c4
 clear c4
 obtain rfl := Option.some.inj H
 go_enter Try.func54, Try.ntmps54
 go_wp2
 go_ret
 exact ⟨by first | rfl | (simp; done) | (simp [*]; done), by repeat (first | exact Drawn0.refl _ | apply Drawn0.step)⟩
def impl_Graph_isNode.f (a0_0 : Int) (l0_1 : List (S76)) (a1 : Int) : Option (Bool) := (impl_within.f a1 0 (wrap64 (a0_0 - 1))).bind fun t132 => (some t132)
set_option maxHeartbeats 8000000 in
set_option maxRecDepth 100000 in
theorem impl_Graph_isNode.calls (a0_0 : Int) (A0_1 : Option Addr) (c0_1 : Nat) (l0_1 : List (S76)) (a1 : Int) (r : Bool) (w : World) (hr0_1 : Kd.C k76 w A0_1 l0_1.length l0_1) (hc0_1 : l0_1.length ≤ c0_1) (h : impl_Graph_isNode.f a0_0 l0_1 a1 = some r) :
  Calls Try.prog 48 #[.agg #[.int .i64 a0_0, .slice A0_1 l0_1.length c0_1], .int .i64 a1] w fun e w' => e = .returned (.bool r) ∧ Below w.heap.size w w' := by
 have hu30 := Try.underlying30
 have HR0_1 := Aside0.mk hr0_1
 have HC0_1 := Aside0.mk hc0_1
 clear hr0_1 hc0_1
 have HB := Aside0.mk (Below.refl w.heap.size w)
 have H : ((impl_within.f a1 0 (wrap64 (a0_0 - 1))).bind fun t132 => (some t132)) = some r := h
 clear h
 obtain ⟨t132, A3, H⟩ := ob_ H
 obtain rfl := Option.some.inj H
 go_enter Try.func48, Try.ntmps48
 go_wp2_with (first | ((with_reducible refine gate_dst (N := 2) rfl ?_); refine be_ 2 #[.int .i64 a0_0, .slice A0_1 l0_1.length c0_1] 30 ?_; intro gb131 hg w4 BK131 hb; have GW131 := ge_ HB hg; have GE131 := ge_ HB hg; replace HB := at_ HB hb; clear hb hg; have hcz5_0 := cz_ BK131 0 (.int .i64 a0_0); have hcz5_1 := cz_ BK131 1 (.slice A0_1 l0_1.length c0_1); have hfz5_0 := fz_ BK131 0; have hfz5_1 := fz_ BK131 1) | ((with_reducible refine gate_callee (f := 54) rfl ?_); refine gl_ (some 9) Try.func54 #[.int .i64 a1, .int .i64 0, .int .i64 (wrap64 (a0_0 - 1))] ?_; (with_reducible refine (impl_within.calls a1 0 (wrap64 (a0_0 - 1)) t132 _ A3.out).mono ?_); rintro e w' ⟨rfl, ⟨nd, rfl⟩⟩; refine ⟨_, rfl, ?_⟩))
 go_ret
 exact ⟨ew_, bw_⟩
def impl_compareEdges.f (a0_0 : Int) (a0_1 : Int) (a0_2 : Int) (a1_0 : Int) (a1_1 : Int) (a1_2 : Int) : Option (Int) := if a0_0 = a1_0 then (some (wrap64 (a0_1 - a1_1))) else (some (wrap64 (a0_0 - a1_0)))
set_option maxHeartbeats 8000000 in
set_option maxRecDepth 100000 in
theorem impl_compareEdges.calls (a0_0 : Int) (a0_1 : Int) (a0_2 : Int) (a1_0 : Int) (a1_1 : Int) (a1_2 : Int) (r : Int) (w : World) (h : impl_compareEdges.f a0_0 a0_1 a0_2 a1_0 a1_1 a1_2 = some r) :
  Calls Try.prog 76 #[.agg #[.int .i64 a0_0, .int .i64 a0_1, .int .i64 a0_2], .agg #[.int .i64 a1_0, .int .i64 a1_1, .int .i64 a1_2]] w fun e w' => e = .returned (.int .i64 r) ∧ Below w.heap.size w w' := by
 have hu76 := Try.underlying76
 have HB := Aside0.mk (Below.refl w.heap.size w)
 have H : (if a0_0 = a1_0 then (some (wrap64 (a0_1 - a1_1))) else (some (wrap64 (a0_0 - a1_0)))) = some r := h
 clear h
 by_cases c3 : a0_0 = a1_0
 rotate_left
 ·rw [if_neg c3] at H
  have c3b0 : (a0_0 == a1_0) = false := beq_eq_false_iff_ne.mpr c3
  have c3b1 : (a0_0 != a1_0) = true := bne_iff_ne.mpr c3
  obtain rfl := Option.some.inj H
  go_enter Try.func76, Try.ntmps76
  go_wp2_with (first | ((with_reducible refine gate_dst (N := 2) rfl ?_); refine be_ 2 #[.int .i64 a0_0, .int .i64 a0_1, .int .i64 a0_2] 76 ?_; intro gb133 hg w9 BK133 hb; have GW133 := ge_ HB hg; have GE133 := ge_ HB hg; replace HB := at_ HB hb; clear hb hg) | ((with_reducible refine gate_dst (N := 3) rfl ?_); refine be_ 3 #[.int .i64 a1_0, .int .i64 a1_1, .int .i64 a1_2] 76 ?_; intro gb134 hg w10 BK134 hb; have GW134 := ge_ HB hg; have GE134 := ge_ HB hg; have NB133_134 := nl_ BK133 hg; have NB134_133 := ng_ BK133 hg; replace HB := at_ HB hb; replace BK133 := ab_ BK133 hb; clear hb hg; have hnb11 := NB133_134.out; have hnc11 := NB134_133.out; have hcz12_0 := cz_ BK133 0 (.int .i64 a0_0); have hcz12_1 := cz_ BK133 1 (.int .i64 a0_1); have hcz12_2 := cz_ BK133 2 (.int .i64 a0_2); have hfz12_0 := fz_ BK133 0; have hfz12_1 := fz_ BK133 1; have hfz12_2 := fz_ BK133 2; have hcz13_0 := cz_ BK134 0 (.int .i64 a1_0); have hcz13_1 := cz_ BK134 1 (.int .i64 a1_1); have hcz13_2 := cz_ BK134 2 (.int .i64 a1_2); have hfz13_0 := fz_ BK134 0; have hfz13_1 := fz_ BK134 1; have hfz13_2 := fz_ BK134 2))
  go_ret
  exact ⟨ew_, bw_⟩
 rw [if_pos c3] at H
 have c3b0 : (a0_0 == a1_0) = true := beq_iff_eq.mpr c3
 have c3b1 : (a0_0 != a1_0) = false := bne_eq_false_iff_eq.mpr c3
 clear c3
 obtain rfl := Option.some.inj H
 go_enter Try.func76, Try.ntmps76
 go_wp2_with (first | ((with_reducible refine gate_dst (N := 2) rfl ?_); refine be_ 2 #[.int .i64 a0_0, .int .i64 a0_1, .int .i64 a0_2] 76 ?_; intro gb133 hg w4 BK133 hb; have GW133 := ge_ HB hg; have GE133 := ge_ HB hg; replace HB := at_ HB hb; clear hb hg) | ((with_reducible refine gate_dst (N := 3) rfl ?_); refine be_ 3 #[.int .i64 a1_0, .int .i64 a1_1, .int .i64 a1_2] 76 ?_; intro gb134 hg w5 BK134 hb; have GW134 := ge_ HB hg; have GE134 := ge_ HB hg; have NB133_134 := nl_ BK133 hg; have NB134_133 := ng_ BK133 hg; replace HB := at_ HB hb; replace BK133 := ab_ BK133 hb; clear hb hg; have hnb6 := NB133_134.out; have hnc6 := NB134_133.out; have hcz7_0 := cz_ BK133 0 (.int .i64 a0_0); have hcz7_1 := cz_ BK133 1 (.int .i64 a0_1); have hcz7_2 := cz_ BK133 2 (.int .i64 a0_2); have hfz7_0 := fz_ BK133 0; have hfz7_1 := fz_ BK133 1; have hfz7_2 := fz_ BK133 2; have hcz8_0 := cz_ BK134 0 (.int .i64 a1_0); have hcz8_1 := cz_ BK134 1 (.int .i64 a1_1); have hcz8_2 := cz_ BK134 2 (.int .i64 a1_2); have hfz8_0 := fz_ BK134 0; have hfz8_1 := fz_ BK134 1; have hfz8_2 := fz_ BK134 2))
 go_ret
 exact ⟨ew_, bw_⟩
end Go.Proofs.Ythmahcohcphljaa.QFnCheapest
