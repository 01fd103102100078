/- Contracts of functions that the law reaches: what each call returns and what it leaves in memory. Made by this session over the print of the kit. -/
import Derived.Test.YthmahcohcphljaaQFnCheapestx0
import Derived.Test.YthmahcohcphljaaQFnCheapestx3
import Derived.Test.YthmahcohcphljaaQFnCheapestx4
import Derived.Test.YthmahcohcphljaaQFnCheapestx5
namespace Go.Proofs.Ythmahcohcphljaa.QFnCheapest
open Go.RowKit Go.Proofs.YthmahcohcphljaaC.PrintWords Go.Proofs.YthmahcohcphljaaC.PrintLast Go.Proofs.YthmahcohcphljaaC.PrintMore
attribute [local go_sem] max2_int min2_int max_two min_two max_three min_three max_four min_four
set_option linter.unusedVariables false
set_option linter.unusedSimpArgs false
def impl_onWay.f (l0 : List (List Int)) (a1 : Int) (a2 : Int) (a3 : Int) : Option (Bool) := if 0 ≤ a1 then (if a1 < (l0.length : Int) then (if 0 ≤ a2 then (if a2 < ((rd_L3 l0 a1).length : Int) then (if (rd (rd_L3 l0 a1) a2) < 1000000 then (if 0 ≤ a3 then (if a3 < ((rd_L3 l0 a1).length : Int) then (if a3 < (l0.length : Int) then (if a2 < ((rd_L3 l0 a3).length : Int) then (some ((wrap64 ((rd (rd_L3 l0 a1) a3) + (rd (rd_L3 l0 a3) a2))) == (rd (rd_L3 l0 a1) a2))) else (none)) else (none)) else (none)) else (none)) else (some false)) else (none)) else (none)) else (none)) else (none)
set_option maxHeartbeats 8000000 in
set_option maxRecDepth 100000 in
theorem impl_onWay.calls (A0 : Option Addr) (c0 : Nat) (l0 : List (List Int)) (a1 : Int) (a2 : Int) (a3 : Int) (r : Bool) (w : World) (hr0 : Kd.C (Kd.slice 3 (Kd.int .i64)) w A0 l0.length l0) (hc0 : l0.length ≤ c0) (h : impl_onWay.f l0 a1 a2 a3 = some r) :
  Calls Try.prog 69 #[.slice A0 l0.length c0, .int .i64 a1, .int .i64 a2, .int .i64 a3] w fun e w' => e = .returned (.bool r) ∧ Drawn0 w w' := by
 have HR0 := Aside0.mk hr0
 have HC0 := Aside0.mk hc0
 clear hr0 hc0
 have H : (if 0 ≤ a1 then (if a1 < (l0.length : Int) then (if 0 ≤ a2 then (if a2 < ((rd_L3 l0 a1).length : Int) then (if (rd (rd_L3 l0 a1) a2) < 1000000 then (if 0 ≤ a3 then (if a3 < ((rd_L3 l0 a1).length : Int) then (if a3 < (l0.length : Int) then (if a2 < ((rd_L3 l0 a3).length : Int) then (some ((wrap64 ((rd (rd_L3 l0 a1) a3) + (rd (rd_L3 l0 a3) a2))) == (rd (rd_L3 l0 a1) a2))) else (none)) else (none)) else (none)) else (none)) else (some false)) else (none)) else (none)) else (none)) else (none)) = some r := h
 clear h
 obtain ⟨c5b0, H⟩ := iq_ H
 obtain ⟨c6b0, H⟩ := iq_ H
 obtain ⟨c7b0, H⟩ := iq_ H
 obtain ⟨c8b0, H⟩ := iq_ H
 by_cases c9 : (rd (rd_L3 l0 a1) a2) < 1000000
 rotate_left
 ·rw [if_neg c9] at H
  have c9b0 : decide ((rd (rd_L3 l0 a1) a2) < 1000000) = false := decide_eq_false c9
  clear c9
  obtain rfl := Option.some.inj H
  have p196 : 0 ≤ (a1 : Int) := oa_
  have q196 : a1 < (l0.length : Int) := oa_
  obtain ⟨ad196, A196_0, c196_0, e196, hx196_0, hl196_0, hi196_0⟩ := at_L3 HR0.out a1 p196 q196
  cases e196
  have HR196_0 := Aside0.mk hi196_0
  have HC196_0 := Aside0.mk hl196_0
  clear hi196_0 hl196_0
  obtain ⟨p196, q196⟩ := et_ p196 q196
  have p197 : 0 ≤ (a2 : Int) := oa_
  have q197 : a2 < ((rd_L3 l0 a1).length : Int) := oa_
  obtain ⟨ad197, e197, hx197_0⟩ := Kd.at_int HR196_0.out a2 p197 q197
  cases e197
  obtain ⟨p197, q197⟩ := et_ p197 q197
  go_enter Try.func69, Try.ntmps69
  go_wp2
  repeat (go_quiet (fail); try go_wp2)
  go_ret
  exact ⟨by first | rfl | (simp; done) | (simp [*]; done), by repeat (first | exact Drawn0.refl _ | apply Drawn0.step)⟩
 rw [if_pos c9] at H
 have c9b0 : decide ((rd (rd_L3 l0 a1) a2) < 1000000) = true := decide_eq_true c9
 clear c9
 obtain ⟨c10b0, H⟩ := iq_ H
 obtain ⟨c11b0, H⟩ := iq_ H
 obtain ⟨c12b0, H⟩ := iq_ H
 obtain ⟨c13b0, H⟩ := iq_ H
 obtain rfl := Option.some.inj H
 have p196 : 0 ≤ (a1 : Int) := oa_
 have q196 : a1 < (l0.length : Int) := oa_
 obtain ⟨ad196, A196_0, c196_0, e196, hx196_0, hl196_0, hi196_0⟩ := at_L3 HR0.out a1 p196 q196
 cases e196
 have HR196_0 := Aside0.mk hi196_0
 have HC196_0 := Aside0.mk hl196_0
 clear hi196_0 hl196_0
 obtain ⟨p196, q196⟩ := et_ p196 q196
 have p197 : 0 ≤ (a2 : Int) := oa_
 have q197 : a2 < ((rd_L3 l0 a1).length : Int) := oa_
 obtain ⟨ad197, e197, hx197_0⟩ := Kd.at_int HR196_0.out a2 p197 q197
 cases e197
 obtain ⟨p197, q197⟩ := et_ p197 q197
 have p198 : 0 ≤ (a1 : Int) := oa_
 have q198 : a1 < (l0.length : Int) := oa_
 obtain ⟨ad198, A198_0, c198_0, e198, hx198_0, hl198_0, hi198_0⟩ := at_L3 HR0.out a1 p198 q198
 obtain rfl : ad196 = ad198 := (by injection e198)
 have HR198_0 := Aside0.mk hi198_0
 have HC198_0 := Aside0.mk hl198_0
 clear hi198_0 hl198_0
 obtain ⟨p198, q198⟩ := et_ p198 q198
 have ea_ := Option.some.inj (hx196_0.symm.trans hx198_0)
 injection ea_ with ea_ en_ ec_
 subst ea_
 subst ec_
 clear en_
 have p199 : 0 ≤ (a3 : Int) := oa_
 have q199 : a3 < ((rd_L3 l0 a1).length : Int) := oa_
 obtain ⟨ad199, e199, hx199_0⟩ := Kd.at_int HR198_0.out a3 p199 q199
 cases e199
 obtain ⟨p199, q199⟩ := et_ p199 q199
 have p200 : 0 ≤ (a3 : Int) := oa_
 have q200 : a3 < (l0.length : Int) := oa_
 obtain ⟨ad200, A200_0, c200_0, e200, hx200_0, hl200_0, hi200_0⟩ := at_L3 HR0.out a3 p200 q200
 obtain rfl : ad196 = ad200 := (by injection e200)
 have HR200_0 := Aside0.mk hi200_0
 have HC200_0 := Aside0.mk hl200_0
 clear hi200_0 hl200_0
 obtain ⟨p200, q200⟩ := et_ p200 q200
 have p201 : 0 ≤ (a2 : Int) := oa_
 have q201 : a2 < ((rd_L3 l0 a3).length : Int) := oa_
 obtain ⟨ad201, e201, hx201_0⟩ := Kd.at_int HR200_0.out a2 p201 q201
 cases e201
 obtain ⟨p201, q201⟩ := et_ p201 q201
 have p202 : 0 ≤ (a1 : Int) := oa_
 have q202 : a1 < (l0.length : Int) := oa_
 obtain ⟨ad202, A202_0, c202_0, e202, hx202_0, hl202_0, hi202_0⟩ := at_L3 HR0.out a1 p202 q202
 obtain rfl : ad196 = ad202 := (by injection e202)
 have HR202_0 := Aside0.mk hi202_0
 have HC202_0 := Aside0.mk hl202_0
 clear hi202_0 hl202_0
 obtain ⟨p202, q202⟩ := et_ p202 q202
 have ea_ := Option.some.inj (hx196_0.symm.trans hx202_0)
 injection ea_ with ea_ en_ ec_
 subst ea_
 subst ec_
 clear en_
 have p203 : 0 ≤ (a2 : Int) := oa_
 have q203 : a2 < ((rd_L3 l0 a1).length : Int) := oa_
 obtain ⟨ad203, e203, hx203_0⟩ := Kd.at_int HR202_0.out a2 p203 q203
 cases e203
 obtain ⟨p203, q203⟩ := et_ p203 q203
 go_enter Try.func69, Try.ntmps69
 go_wp2
 repeat (go_quiet (fail); try go_wp2)
 go_ret
 exact ⟨by first | rfl | (simp; done) | (simp [*]; done), by repeat (first | exact Drawn0.refl _ | apply Drawn0.step)⟩
def impl_OnWay.f (k : Nat) (a0_0 : Int) (l0_1 : List (S76)) (a1 : Int) (a2 : Int) (a3 : Int) : Option (Bool) := (impl_GraphOk.f k a0_0 l0_1).bind fun t205 => (if t205 = true then ((impl_Graph_isNode.f a0_0 l0_1 a1).bind fun t206 => (if t206 = true then ((impl_Graph_isNode.f a0_0 l0_1 a2).bind fun t207 => (if t207 = true then ((impl_Graph_isNode.f a0_0 l0_1 a3).bind fun t208 => (if t208 = true then ((impl_Graph_all.f k a0_0 l0_1).bind fun t209 => ((impl_onWay.f t209 a1 a2 a3).bind fun t212 => (some t212))) else (some false))) else (some false))) else (some false))) else (some false))
set_option maxHeartbeats 8000000 in
set_option maxRecDepth 100000 in
theorem impl_OnWay.calls (k : Nat) (a0_0 : Int) (A0_1 : Option Addr) (c0_1 : Nat) (l0_1 : List (S76)) (a1 : Int) (a2 : Int) (a3 : Int) (r : Bool) (w : World) (hr0_1 : Kd.C k76 w A0_1 l0_1.length l0_1) (hc0_1 : l0_1.length ≤ c0_1) (h : impl_OnWay.f k a0_0 l0_1 a1 a2 a3 = some r) :
  Calls Try.prog 37 #[.agg #[.int .i64 a0_0, .slice A0_1 l0_1.length c0_1], .int .i64 a1, .int .i64 a2, .int .i64 a3] w fun e w' => e = .returned (.bool r) ∧ Below w.heap.size w w' := by
 have hu30 := Try.underlying30
 have HR0_1 := Aside0.mk hr0_1
 have HC0_1 := Aside0.mk hc0_1
 clear hr0_1 hc0_1
 have HB := Aside0.mk (Below.refl w.heap.size w)
 have H : ((impl_GraphOk.f k a0_0 l0_1).bind fun t205 => (if t205 = true then ((impl_Graph_isNode.f a0_0 l0_1 a1).bind fun t206 => (if t206 = true then ((impl_Graph_isNode.f a0_0 l0_1 a2).bind fun t207 => (if t207 = true then ((impl_Graph_isNode.f a0_0 l0_1 a3).bind fun t208 => (if t208 = true then ((impl_Graph_all.f k a0_0 l0_1).bind fun t209 => ((impl_onWay.f t209 a1 a2 a3).bind fun t212 => (some t212))) else (some false))) else (some false))) else (some false))) else (some false))) = some r := h
 clear h
 obtain ⟨t205, A5, H⟩ := ob_ H
 by_cases c6 : t205 = true
 rotate_left
 ·replace c6 := Bool.eq_false_iff.mpr c6
  subst c6
  rw [if_neg (show ¬ (false = true) by decide)] at H
  obtain rfl := Option.some.inj H
  go_enter Try.func37, Try.ntmps37
  go_wp2_with (first | ((with_reducible refine gate_dst (N := 4) rfl ?_); refine be_ 4 #[.int .i64 a0_0, .slice A0_1 l0_1.length c0_1] 30 ?_; intro gb204 hg w48 BK204 hb; have GW204 := ge_ HB hg; have GE204 := ge_ HB hg; replace HB := at_ HB hb; clear hb hg; have hcz49_0 := cz_ BK204 0 (.int .i64 a0_0); have hcz49_1 := cz_ BK204 1 (.slice A0_1 l0_1.length c0_1); have hfz49_0 := fz_ BK204 0; have hfz49_1 := fz_ BK204 1) | ((with_reducible refine gate_callee (f := 47) rfl ?_); refine gl_ (some 10) Try.func47 #[.agg #[.int .i64 a0_0, .slice A0_1 l0_1.length c0_1]] ?_; (with_reducible refine (impl_GraphOk.calls k a0_0 _ _ l0_1 false _ ?side1 ?side2 A5.out).mono ?_); (case side1 => exact cb_ HR0_1 HB); (case side2 => exact HC0_1.out); rintro e w50 ⟨rfl, hb⟩; refine ⟨_, rfl, ?_⟩; replace BK204 := ab_ BK204 hb; replace HB := at_ HB hb; clear hb))
  go_ret
  exact ⟨ew_, bw_⟩
 subst c6
 rw [if_pos rfl] at H
 obtain ⟨t206, A7, H⟩ := ob_ H
 by_cases c8 : t206 = true
 rotate_left
 ·replace c8 := Bool.eq_false_iff.mpr c8
  subst c8
  rw [if_neg (show ¬ (false = true) by decide)] at H
  obtain rfl := Option.some.inj H
  go_enter Try.func37, Try.ntmps37
  go_wp2_with (first | ((with_reducible refine gate_dst (N := 4) rfl ?_); refine be_ 4 #[.int .i64 a0_0, .slice A0_1 l0_1.length c0_1] 30 ?_; intro gb204 hg w43 BK204 hb; have GW204 := ge_ HB hg; have GE204 := ge_ HB hg; replace HB := at_ HB hb; clear hb hg; have hcz44_0 := cz_ BK204 0 (.int .i64 a0_0); have hcz44_1 := cz_ BK204 1 (.slice A0_1 l0_1.length c0_1); have hfz44_0 := fz_ BK204 0; have hfz44_1 := fz_ BK204 1) | ((with_reducible refine gate_callee (f := 47) rfl ?_); refine gl_ (some 10) Try.func47 #[.agg #[.int .i64 a0_0, .slice A0_1 l0_1.length c0_1]] ?_; (with_reducible refine (impl_GraphOk.calls k a0_0 _ _ l0_1 true _ ?side1 ?side2 A5.out).mono ?_); (case side1 => exact cb_ HR0_1 HB); (case side2 => exact HC0_1.out); rintro e w45 ⟨rfl, hb⟩; refine ⟨_, rfl, ?_⟩; replace BK204 := ab_ BK204 hb; replace HB := at_ HB hb; clear hb; have hcz46_0 := cz_ BK204 0 (.int .i64 a0_0); have hcz46_1 := cz_ BK204 1 (.slice A0_1 l0_1.length c0_1); have hfz46_0 := fz_ BK204 0; have hfz46_1 := fz_ BK204 1) | (go_at_call 48; (with_reducible refine (impl_Graph_isNode.calls a0_0 _ _ l0_1 a1 false _ ?side1 ?side2 A7.out).mono ?_); (case side1 => exact cb_ HR0_1 HB); (case side2 => exact HC0_1.out); rintro e w47 ⟨rfl, hb⟩; replace BK204 := ab_ BK204 hb; replace HB := at_ HB hb; clear hb))
  go_ret
  exact ⟨ew_, bw_⟩
 subst c8
 rw [if_pos rfl] at H
 obtain ⟨t207, A9, H⟩ := ob_ H
 by_cases c10 : t207 = true
 rotate_left
 ·replace c10 := Bool.eq_false_iff.mpr c10
  subst c10
  rw [if_neg (show ¬ (false = true) by decide)] at H
  obtain rfl := Option.some.inj H
  go_enter Try.func37, Try.ntmps37
  go_wp2_with (first | ((with_reducible refine gate_dst (N := 4) rfl ?_); refine be_ 4 #[.int .i64 a0_0, .slice A0_1 l0_1.length c0_1] 30 ?_; intro gb204 hg w36 BK204 hb; have GW204 := ge_ HB hg; have GE204 := ge_ HB hg; replace HB := at_ HB hb; clear hb hg; have hcz37_0 := cz_ BK204 0 (.int .i64 a0_0); have hcz37_1 := cz_ BK204 1 (.slice A0_1 l0_1.length c0_1); have hfz37_0 := fz_ BK204 0; have hfz37_1 := fz_ BK204 1) | ((with_reducible refine gate_callee (f := 47) rfl ?_); refine gl_ (some 10) Try.func47 #[.agg #[.int .i64 a0_0, .slice A0_1 l0_1.length c0_1]] ?_; (with_reducible refine (impl_GraphOk.calls k a0_0 _ _ l0_1 true _ ?side1 ?side2 A5.out).mono ?_); (case side1 => exact cb_ HR0_1 HB); (case side2 => exact HC0_1.out); rintro e w38 ⟨rfl, hb⟩; refine ⟨_, rfl, ?_⟩; replace BK204 := ab_ BK204 hb; replace HB := at_ HB hb; clear hb; have hcz39_0 := cz_ BK204 0 (.int .i64 a0_0); have hcz39_1 := cz_ BK204 1 (.slice A0_1 l0_1.length c0_1); have hfz39_0 := fz_ BK204 0; have hfz39_1 := fz_ BK204 1) | (go_at_call 48; (with_reducible refine (impl_Graph_isNode.calls a0_0 _ _ l0_1 a1 true _ ?side1 ?side2 A7.out).mono ?_); (case side1 => exact cb_ HR0_1 HB); (case side2 => exact HC0_1.out); rintro e w40 ⟨rfl, hb⟩; replace BK204 := ab_ BK204 hb; replace HB := at_ HB hb; clear hb; have hcz41_0 := cz_ BK204 0 (.int .i64 a0_0); have hcz41_1 := cz_ BK204 1 (.slice A0_1 l0_1.length c0_1); have hfz41_0 := fz_ BK204 0; have hfz41_1 := fz_ BK204 1) | (go_at_call 48; (with_reducible refine (impl_Graph_isNode.calls a0_0 _ _ l0_1 a2 false _ ?side1 ?side2 A9.out).mono ?_); (case side1 => exact cb_ HR0_1 HB); (case side2 => exact HC0_1.out); rintro e w42 ⟨rfl, hb⟩; replace BK204 := ab_ BK204 hb; replace HB := at_ HB hb; clear hb))
  go_ret
  exact ⟨ew_, bw_⟩
 subst c10
 rw [if_pos rfl] at H
 obtain ⟨t208, A11, H⟩ := ob_ H
 by_cases c12 : t208 = true
 rotate_left
 ·replace c12 := Bool.eq_false_iff.mpr c12
  subst c12
  rw [if_neg (show ¬ (false = true) by decide)] at H
  obtain rfl := Option.some.inj H
  go_enter Try.func37, Try.ntmps37
  go_wp2_with (first | ((with_reducible refine gate_dst (N := 4) rfl ?_); refine be_ 4 #[.int .i64 a0_0, .slice A0_1 l0_1.length c0_1] 30 ?_; intro gb204 hg w27 BK204 hb; have GW204 := ge_ HB hg; have GE204 := ge_ HB hg; replace HB := at_ HB hb; clear hb hg; have hcz28_0 := cz_ BK204 0 (.int .i64 a0_0); have hcz28_1 := cz_ BK204 1 (.slice A0_1 l0_1.length c0_1); have hfz28_0 := fz_ BK204 0; have hfz28_1 := fz_ BK204 1) | ((with_reducible refine gate_callee (f := 47) rfl ?_); refine gl_ (some 10) Try.func47 #[.agg #[.int .i64 a0_0, .slice A0_1 l0_1.length c0_1]] ?_; (with_reducible refine (impl_GraphOk.calls k a0_0 _ _ l0_1 true _ ?side1 ?side2 A5.out).mono ?_); (case side1 => exact cb_ HR0_1 HB); (case side2 => exact HC0_1.out); rintro e w29 ⟨rfl, hb⟩; refine ⟨_, rfl, ?_⟩; replace BK204 := ab_ BK204 hb; replace HB := at_ HB hb; clear hb; have hcz30_0 := cz_ BK204 0 (.int .i64 a0_0); have hcz30_1 := cz_ BK204 1 (.slice A0_1 l0_1.length c0_1); have hfz30_0 := fz_ BK204 0; have hfz30_1 := fz_ BK204 1) | (go_at_call 48; (with_reducible refine (impl_Graph_isNode.calls a0_0 _ _ l0_1 a1 true _ ?side1 ?side2 A7.out).mono ?_); (case side1 => exact cb_ HR0_1 HB); (case side2 => exact HC0_1.out); rintro e w31 ⟨rfl, hb⟩; replace BK204 := ab_ BK204 hb; replace HB := at_ HB hb; clear hb; have hcz32_0 := cz_ BK204 0 (.int .i64 a0_0); have hcz32_1 := cz_ BK204 1 (.slice A0_1 l0_1.length c0_1); have hfz32_0 := fz_ BK204 0; have hfz32_1 := fz_ BK204 1) | (go_at_call 48; (with_reducible refine (impl_Graph_isNode.calls a0_0 _ _ l0_1 a2 true _ ?side1 ?side2 A9.out).mono ?_); (case side1 => exact cb_ HR0_1 HB); (case side2 => exact HC0_1.out); rintro e w33 ⟨rfl, hb⟩; replace BK204 := ab_ BK204 hb; replace HB := at_ HB hb; clear hb; have hcz34_0 := cz_ BK204 0 (.int .i64 a0_0); have hcz34_1 := cz_ BK204 1 (.slice A0_1 l0_1.length c0_1); have hfz34_0 := fz_ BK204 0; have hfz34_1 := fz_ BK204 1) | (go_at_call 48; (with_reducible refine (impl_Graph_isNode.calls a0_0 _ _ l0_1 a3 false _ ?side1 ?side2 A11.out).mono ?_); (case side1 => exact cb_ HR0_1 HB); (case side2 => exact HC0_1.out); rintro e w35 ⟨rfl, hb⟩; replace BK204 := ab_ BK204 hb; replace HB := at_ HB hb; clear hb))
  go_ret
  exact ⟨ew_, bw_⟩
 subst c12
 rw [if_pos rfl] at H
 obtain ⟨t209, A13, H⟩ := ob_ H
 obtain ⟨t212, A14, H⟩ := ob_ H
 obtain rfl := Option.some.inj H
 go_enter Try.func37, Try.ntmps37
 go_wp2_with (first | ((with_reducible refine gate_dst (N := 4) rfl ?_); refine be_ 4 #[.int .i64 a0_0, .slice A0_1 l0_1.length c0_1] 30 ?_; intro gb204 hg w15 BK204 hb; have GW204 := ge_ HB hg; have GE204 := ge_ HB hg; replace HB := at_ HB hb; clear hb hg; have hcz16_0 := cz_ BK204 0 (.int .i64 a0_0); have hcz16_1 := cz_ BK204 1 (.slice A0_1 l0_1.length c0_1); have hfz16_0 := fz_ BK204 0; have hfz16_1 := fz_ BK204 1) | ((with_reducible refine gate_callee (f := 47) rfl ?_); refine gl_ (some 10) Try.func47 #[.agg #[.int .i64 a0_0, .slice A0_1 l0_1.length c0_1]] ?_; (with_reducible refine (impl_GraphOk.calls k a0_0 _ _ l0_1 true _ ?side1 ?side2 A5.out).mono ?_); (case side1 => exact cb_ HR0_1 HB); (case side2 => exact HC0_1.out); rintro e w17 ⟨rfl, hb⟩; refine ⟨_, rfl, ?_⟩; replace BK204 := ab_ BK204 hb; replace HB := at_ HB hb; clear hb; have hcz18_0 := cz_ BK204 0 (.int .i64 a0_0); have hcz18_1 := cz_ BK204 1 (.slice A0_1 l0_1.length c0_1); have hfz18_0 := fz_ BK204 0; have hfz18_1 := fz_ BK204 1) | (go_at_call 48; (with_reducible refine (impl_Graph_isNode.calls a0_0 _ _ l0_1 a1 true _ ?side1 ?side2 A7.out).mono ?_); (case side1 => exact cb_ HR0_1 HB); (case side2 => exact HC0_1.out); rintro e w19 ⟨rfl, hb⟩; replace BK204 := ab_ BK204 hb; replace HB := at_ HB hb; clear hb; have hcz20_0 := cz_ BK204 0 (.int .i64 a0_0); have hcz20_1 := cz_ BK204 1 (.slice A0_1 l0_1.length c0_1); have hfz20_0 := fz_ BK204 0; have hfz20_1 := fz_ BK204 1) | (go_at_call 48; (with_reducible refine (impl_Graph_isNode.calls a0_0 _ _ l0_1 a2 true _ ?side1 ?side2 A9.out).mono ?_); (case side1 => exact cb_ HR0_1 HB); (case side2 => exact HC0_1.out); rintro e w21 ⟨rfl, hb⟩; replace BK204 := ab_ BK204 hb; replace HB := at_ HB hb; clear hb; have hcz22_0 := cz_ BK204 0 (.int .i64 a0_0); have hcz22_1 := cz_ BK204 1 (.slice A0_1 l0_1.length c0_1); have hfz22_0 := fz_ BK204 0; have hfz22_1 := fz_ BK204 1) | (go_at_call 48; (with_reducible refine (impl_Graph_isNode.calls a0_0 _ _ l0_1 a3 true _ ?side1 ?side2 A11.out).mono ?_); (case side1 => exact cb_ HR0_1 HB); (case side2 => exact HC0_1.out); rintro e w23 ⟨rfl, hb⟩; replace BK204 := ab_ BK204 hb; replace HB := at_ HB hb; clear hb; have hcz24_0 := cz_ BK204 0 (.int .i64 a0_0); have hcz24_1 := cz_ BK204 1 (.slice A0_1 l0_1.length c0_1); have hfz24_0 := fz_ BK204 0; have hfz24_1 := fz_ BK204 1) | (go_at_call 55; (with_reducible refine (impl_Graph_all.calls k a0_0 _ _ l0_1 t209 _ ?side1 ?side2 A13.out).mono ?_); (case side1 => exact cb_ HR0_1 HB); (case side2 => exact HC0_1.out); rintro e w25 ⟨v210, rfl, ho0, hb⟩; have HO211 := Aside0.mk (Kd.S_lower ho0 (bz_ HB)); replace BK204 := ab_ BK204 hb; replace HB := at_ HB hb; clear hb ho0; obtain ⟨Ao26, co26, eo26⟩ := Kd.S_slice HO211.out; subst eo26) | (go_at_call 69; (with_reducible refine (impl_onWay.calls _ _ t209 a1 a2 a3 t212 _ ?side1 ?side2 A14.out).mono ?_); (case side1 => repeat (first | exact (Kd.S_reads' HO211.out).2.2 | (with_reducible refine Kd.C_alloc ?_ _) | (with_reducible refine Kd.C_drewN ?_ _) | (with_reducible refine Kd.C_drew ?_))); (case side2 => exact (Kd.S_reads' HO211.out).2.1); rintro e w' ⟨rfl, ⟨nd, rfl⟩⟩))
 go_ret
 exact ⟨ew_, bw_⟩
/-- A state of type 115 at block g of W; what its slices lead to came in by w0. -/
def IsS115 (w0 W : World) (g : Nat) (f0 : List Int) (f1 : Int) (f2 : Int) : Prop := ∃ A0 c0, W.heap[g]? = some (.cells #[.slice A0 f0.length c0, .int .i64 f1, .int .i64 f2] 115 (0, 0)) ∧ w0.heap.size ≤ g ∧ Kd.C (Kd.int .u8) w0 A0 f0.length f0
theorem IsS115.grown {w0 W : World} {g : Nat} {f0 : List Int} {f1 : Int} {f2 : Int} {W1 : World} {row : Option Nat} (h : IsS115 w0 W g f0 f1 f2) (hw : W.grownBy W1 row) (hne : some g ≠ row) : IsS115 w0 W1 g f0 f1 f2 := by
 obtain ⟨A0, c0, hb, hg, hr0⟩ := h
 exact ⟨A0, c0, blk_grown hb hw hne, hg, hr0⟩
theorem IsS115.below {w0 W : World} {g : Nat} {f0 : List Int} {f1 : Int} {f2 : Int} {W1 : World} (h : IsS115 w0 W g f0 f1 f2) (hw : Below W.heap.size W W1) : IsS115 w0 W1 g f0 f1 f2 := h.grown (grown_of_below hw none) (by simp)
theorem IsS115.alloc {w0 W : World} {g : Nat} {f0 : List Int} {f1 : Int} {f2 : Int} (h : IsS115 w0 W g f0 f1 f2) (o : Obj) : IsS115 w0 (W.alloc o) g f0 f1 f2 := h.below (below_alloc (Below.refl _ _) o)
theorem IsS115.drewN {w0 W : World} {g : Nat} {f0 : List Int} {f1 : Int} {f2 : Int} (h : IsS115 w0 W g f0 f1 f2) (m : Nat) : IsS115 w0 (W.drewN m) g f0 f1 f2 := h
theorem IsS115.drew {w0 W : World} {g : Nat} {f0 : List Int} {f1 : Int} {f2 : Int} (h : IsS115 w0 W g f0 f1 f2) : IsS115 w0 W.drew g f0 f1 f2 := h
theorem IsS115.apart {w0 W : World} {g : Nat} {f0 : List Int} {f1 : Int} {f2 : Int} {α : Type} {d : Kd α} {e : Nat} {base : Nat} {ok : Nat → Prop} {v : Value} {xs : List α} (h : IsS115 w0 W g f0 f1 f2) (ho : d.R e W base ok v xs) (ht : ∀ q, q ∈ e :: d.E → q ≠ 115) : d.R e W base (fun k => ok k ∧ k ≠ g) v xs := by
 obtain ⟨A0, c0, hb, hg, hr0⟩ := h
 exact Kd.R_types ho hb ht
theorem IsS115.own_ne {w0 W : World} {g : Nat} {f0 : List Int} {f1 : Int} {f2 : Int} {α : Type} {d : Kd α} {e : Nat} {base : Nat} {ok : Nat → Prop} {v : Value} {xs : List α} (h : IsS115 w0 W g f0 f1 f2) (ho : d.R e W base ok v xs) (ht : e ≠ 115) : some g ≠ v.ownBlock := by
 obtain ⟨A0, c0, hb, hg, hr0⟩ := h
 exact Kd.R_ne ho hb ht
theorem IsS115.lt {w0 W : World} {g : Nat} {f0 : List Int} {f1 : Int} {f2 : Int} (h : IsS115 w0 W g f0 f1 f2) : g < W.heap.size := by
 obtain ⟨A0, c0, hb, hg, hr0⟩ := h
 exact blk_lt hb
theorem IsS115.ge {w0 W : World} {g : Nat} {f0 : List Int} {f1 : Int} {f2 : Int} (h : IsS115 w0 W g f0 f1 f2) : w0.heap.size ≤ g := by
 obtain ⟨A0, c0, hb, hg, hr0⟩ := h
 exact hg
theorem IsS115.ne_blk {w0 W : World} {g : Nat} {f0 : List Int} {f1 : Int} {f2 : Int} {a : Nat} {cs : Array Value} {t : TypeId} {fr : Nat × Nat} (h : IsS115 w0 W g f0 f1 f2) (hb2 : W.heap[a]? = some (.cells cs t fr)) (ht : t ≠ 115) : g ≠ a := by
 obtain ⟨A0, c0, hb, hg, hr0⟩ := h
 rintro rfl
 rw [hb] at hb2
 injection hb2 with hb2
 injection hb2 with _ ht2
 exact ht ht2.symm
theorem IsS115.far {w0 W : World} {g : Nat} {f0 : List Int} {f1 : Int} {f2 : Int} {p : Addr} (h : IsS115 w0 W g f0 f1 f2) (hne : g ≠ p.block) (u : Value) : IsS115 w0 (W.setCell p u) g f0 f1 f2 := by
 obtain ⟨A0, c0, hb, hg, hr0⟩ := h
 exact ⟨A0, c0, blk_far hb hne u, hg, hr0⟩
theorem cellS115_0 {W : World} {g : Nat} {A0 : Option Addr} {c0 : Nat} {f0 : List Int} {f1 : Int} {f2 : Int} (h : W.heap[g]? = some (.cells #[.slice A0 f0.length c0, .int .i64 f1, .int .i64 f2] 115 (0, 0))) : W.cell? ⟨g, 0, none⟩ = some (.slice A0 f0.length c0) := (blk_cell h 0).trans rfl
theorem cellS115_1 {W : World} {g : Nat} {A0 : Option Addr} {c0 : Nat} {f0 : List Int} {f1 : Int} {f2 : Int} (h : W.heap[g]? = some (.cells #[.slice A0 f0.length c0, .int .i64 f1, .int .i64 f2] 115 (0, 0))) : W.cell? ⟨g, 1, none⟩ = some (.int .i64 f1) := (blk_cell h 1).trans rfl
theorem IsS115.set_1 {w0 W : World} {g : Nat} {f0 : List Int} {f1 : Int} {f2 : Int} (h : IsS115 w0 W g f0 f1 f2) (x : Int) : IsS115 w0 (W.setCell ⟨g, 1, none⟩ (.int .i64 x)) g f0 x f2 := by
 obtain ⟨A0, c0, hb, hg, hr0⟩ := h
 exact ⟨A0, c0, by simpa using blk_set hb 1 (.int .i64 x), hg, hr0⟩
theorem cellS115_2 {W : World} {g : Nat} {A0 : Option Addr} {c0 : Nat} {f0 : List Int} {f1 : Int} {f2 : Int} (h : W.heap[g]? = some (.cells #[.slice A0 f0.length c0, .int .i64 f1, .int .i64 f2] 115 (0, 0))) : W.cell? ⟨g, 2, none⟩ = some (.int .i64 f2) := (blk_cell h 2).trans rfl
theorem IsS115.set_2 {w0 W : World} {g : Nat} {f0 : List Int} {f1 : Int} {f2 : Int} (h : IsS115 w0 W g f0 f1 f2) (x : Int) : IsS115 w0 (W.setCell ⟨g, 2, none⟩ (.int .i64 x)) g f0 f1 x := by
 obtain ⟨A0, c0, hb, hg, hr0⟩ := h
 exact ⟨A0, c0, by simpa using blk_set hb 2 (.int .i64 x), hg, hr0⟩
theorem is115_ {w0 W : World} {g : Nat} {f0 : List Int} {f1 : Int} {f2 : Int} (h : IsS115 w0 W g f0 f1 f2 := by repeat (first | (with_reducible first | exact Aside0.out (by assumption) | apply IsS115.alloc | apply IsS115.drewN | apply IsS115.drew | apply IsS115.set_1 | apply IsS115.set_2) | refine IsS115.far ?_ (Aside0.out (by assumption)) _ | exact Aside0.out (by assumption))) : IsS115 w0 W g f0 f1 f2 := h
theorem bw115_ {w0 W : World} (h : Below w0.heap.size w0 W := by repeat (first | (with_reducible first | exact Aside0.out (by assumption) | apply below_alloc | apply pw_below_drewN | apply below_drew1 | refine below_set ?_ (Aside0.out (by assumption)) | refine below_set ?_ (IsS115.ge (Aside0.out (by assumption)))) | exact Aside0.out (by assumption))) : Below w0.heap.size w0 W := h
theorem ak115_ {w0 W W1 Wo : World} {g : Nat} {f0 : List Int} {f1 : Int} {f2 : Int} {α : Type} {d : Kd α} {e base : Nat} {ok : Nat → Prop} {v : Value} {xs : List α} (HO : Aside0 (d.R e Wo base ok v xs)) (hI : IsS115 w0 W g f0 f1 f2) (hk : KeepBut W W1 g none) (ho : d.R e Wo base ok v xs → d.R e W base ok v xs := by intro h_; (with_reducible repeat (first | apply Kd.R_alloc | apply Kd.R_drewN | apply Kd.R_drew)); exact h_) (ht : ∀ q, q ∈ e :: d.E → q ≠ 115 := by decide) : Aside0 (d.R e W1 base ok v xs) := Aside0.mk (Kd.R_mono (Kd.R_keep (IsS115.apart hI (ho HO.out) ht) hk (fun _ h => h.2)) (fun _ h => h.1))
theorem bs115_ {w0 W W2 : World} (hb : Below W.heap.size W W2) (h : Below w0.heap.size w0 W := by repeat (first | (with_reducible first | exact Aside0.out (by assumption) | apply below_alloc | apply pw_below_drewN | apply below_drew1 | refine below_set ?_ (Aside0.out (by assumption)) | refine below_set ?_ (IsS115.ge (Aside0.out (by assumption)))) | exact Aside0.out (by assumption))) : Aside0 (Below w0.heap.size w0 W2) := Aside0.mk (below_step h hb)
theorem IsS115.low {w w4 W : World} {g : Nat} {f0 : List Int} {f1 : Int} {f2 : Int} (h : IsS115 w4 W g f0 f1 f2) (HB : Aside0 (Below w.heap.size w w4)) (HL : Aside0 (Low w w4)) : IsS115 w W g f0 f1 f2 := by
 obtain ⟨A0, c0, hb, hg, hr0⟩ := h
 exact ⟨A0, c0, hb, Nat.le_trans HB.out.size hg, HL.out _ _ _ hr0⟩
def spec_l01Byte.f (s0_0 : List Int) (s0_1 : Int) (s0_2 : Int) : Option (Int × Int × Int) := if s0_1 < (s0_0.length : Int) then (if 0 ≤ s0_1 then (some (Go.bits .and .i64 (wrap64 ((Go.bits .and .i64 (Go.bits .xor .i64 ((wrap64 ((wrap64 (s0_2 * 6364136223846793005)) + 1442695040888963407)) / 8589934592) ((wrap64 ((wrap64 (s0_2 * 6364136223846793005)) + 1442695040888963407)) / 35184372088832)) 255) + (wrap64 (rd s0_0 s0_1)))) 255, wrap64 (s0_1 + 1), wrap64 ((wrap64 (s0_2 * 6364136223846793005)) + 1442695040888963407))) else (none)) else (some (Go.bits .and .i64 (Go.bits .xor .i64 ((wrap64 ((wrap64 (s0_2 * 6364136223846793005)) + 1442695040888963407)) / 8589934592) ((wrap64 ((wrap64 (s0_2 * 6364136223846793005)) + 1442695040888963407)) / 35184372088832)) 255, s0_1, wrap64 ((wrap64 (s0_2 * 6364136223846793005)) + 1442695040888963407)))
set_option maxHeartbeats 8000000 in
set_option maxRecDepth 100000 in
theorem spec_l01Byte.calls (g : Nat) (s0_0 : List Int) (s0_1 : Int) (s0_2 : Int) (r1 : Int) (r2 : Int) (r3 : Int) (w0 w : World) (hI : IsS115 w0 w g s0_0 s0_1 s0_2) (hB : Below w0.heap.size w0 w) (h : spec_l01Byte.f s0_0 s0_1 s0_2 = some (r1, r2, r3)) :
  Calls Try.prog 86 #[.pointer (some ⟨g, 0, none⟩)] w fun e w' => e = .returned (.int .i64 r1) ∧ IsS115 w0 w' g s0_0 r2 r3 ∧ Below w0.heap.size w0 w' ∧ KeepBut w w' g none := by
 have HI0 := Aside0.mk hI
 have HK := Aside0.mk (KeepBut.refl w g none)
 have HL := Aside0.mk hB.size
 clear hI
 have HW0 := Aside0.mk hB.size
 have HB := Aside0.mk hB
 clear hB
 have H : (if s0_1 < (s0_0.length : Int) then (if 0 ≤ s0_1 then (some (Go.bits .and .i64 (wrap64 ((Go.bits .and .i64 (Go.bits .xor .i64 ((wrap64 ((wrap64 (s0_2 * 6364136223846793005)) + 1442695040888963407)) / 8589934592) ((wrap64 ((wrap64 (s0_2 * 6364136223846793005)) + 1442695040888963407)) / 35184372088832)) 255) + (wrap64 (rd s0_0 s0_1)))) 255, wrap64 (s0_1 + 1), wrap64 ((wrap64 (s0_2 * 6364136223846793005)) + 1442695040888963407))) else (none)) else (some (Go.bits .and .i64 (Go.bits .xor .i64 ((wrap64 ((wrap64 (s0_2 * 6364136223846793005)) + 1442695040888963407)) / 8589934592) ((wrap64 ((wrap64 (s0_2 * 6364136223846793005)) + 1442695040888963407)) / 35184372088832)) 255, s0_1, wrap64 ((wrap64 (s0_2 * 6364136223846793005)) + 1442695040888963407)))) = some (r1, r2, r3) := h
 clear h
 by_cases c2 : s0_1 < (s0_0.length : Int)
 rotate_left
 ·rw [if_neg c2] at H
  have c2b0 : decide (s0_1 < (s0_0.length : Int)) = false := decide_eq_false c2
  clear c2
  simp only [Option.some.injEq, Prod.mk.injEq] at H
  obtain ⟨rfl, rfl, rfl⟩ := H
  obtain ⟨ASz5_0, cSz5_0, HGz5, hgz5, HSz5_0⟩ := HI0.out
  have hcz5_0 := cellS115_0 HGz5
  have hcz5_1 := cellS115_1 HGz5
  have hcz5_2 := cellS115_2 HGz5
  have hfz5_1 := blk_frozen HGz5 1
  have hfz5_2 := blk_frozen HGz5 2
  clear HGz5 hgz5
  go_enter Try.func86, Try.ntmps86
  go_wp2
  repeat (go_quiet (fail); try go_wp2)
  go_ret
  exact ⟨ew_, is115_, bw115_, kx_ HK⟩
 rw [if_pos c2] at H
 have c2b0 : decide (s0_1 < (s0_0.length : Int)) = true := decide_eq_true c2
 clear c2
 obtain ⟨c3b0, H⟩ := iq_ H
 simp only [Option.some.injEq, Prod.mk.injEq] at H
 obtain ⟨rfl, rfl, rfl⟩ := H
 obtain ⟨ASz4_0, cSz4_0, HGz4, hgz4, HSz4_0⟩ := HI0.out
 have hcz4_0 := cellS115_0 HGz4
 have hcz4_1 := cellS115_1 HGz4
 have hcz4_2 := cellS115_2 HGz4
 have hfz4_1 := blk_frozen HGz4 1
 have hfz4_2 := blk_frozen HGz4 2
 clear HGz4 hgz4
 have p213 : 0 ≤ (s0_1 : Int) := oa_
 have q213 : s0_1 < (s0_0.length : Int) := oa_
 obtain ⟨ad213, e213, hx213_0⟩ := Kd.at_int HSz4_0 s0_1 p213 q213
 cases e213
 have hn213_0 : ad213.block ≠ g := Nat.ne_of_lt (Nat.lt_of_lt_of_le (by have := World.block_lt_of_cell? _ _ hx213_0; first | rwa [add_block] at this | exact this) (IsS115.ge HI0.out))
 replace hx213_0 := pw_cell_below HB.out hx213_0
 replace hx213_0 := (cell_far (p := ⟨g, 2, none⟩) (by first | (rw [add_block]; exact hn213_0) | (show (Addr.add _ _).block ≠ _; rw [add_block]; exact hn213_0) | exact hn213_0) (.int .i64 (wrap64 ((wrap64 (s0_2 * 6364136223846793005)) + 1442695040888963407)))).trans hx213_0
 (try have hy213_0 := fun (n_ : Nat) => (show (((w.drewN n_).setCell ⟨g, 2, none⟩ (.int .i64 (wrap64 ((wrap64 (s0_2 * 6364136223846793005)) + 1442695040888963407))))).cell? _ = some _ from hx213_0))
 clear hn213_0
 obtain ⟨p213, q213⟩ := et_ p213 q213
 go_enter Try.func86, Try.ntmps86
 go_wp2
 repeat (go_quiet (fail); try go_wp2)
 go_ret
 exact ⟨ew_, is115_, bw115_, kx_ HK⟩
def spec_l01Below.f (s0_0 : List Int) (s0_1 : Int) (s0_2 : Int) (a1 : Int) : Option (Int × Int × Int) := if a1 ≤ 0 then (some (0, s0_1, s0_2)) else (if a1 ≤ 256 then ((spec_l01Byte.f s0_0 s0_1 s0_2).bind fun bt214 => (if a1 = 0 then (none) else (some (Int.tmod bt214.1 a1, bt214.2.1, bt214.2.2)))) else ((spec_l01Byte.f s0_0 s0_1 s0_2).bind fun bt217 => ((spec_l01Byte.f s0_0 bt217.2.1 bt217.2.2).bind fun bt220 => ((spec_l01Byte.f s0_0 bt220.2.1 bt220.2.2).bind fun bt223 => (if a1 = 0 then (none) else (some (Int.tmod (wrap64 ((wrap64 ((wrap64 (bt217.1 * 65536)) + (wrap64 (bt220.1 * 256)))) + bt223.1)) a1, bt223.2.1, bt223.2.2)))))))
set_option maxHeartbeats 8000000 in
set_option maxRecDepth 100000 in
theorem spec_l01Below.calls (g : Nat) (s0_0 : List Int) (s0_1 : Int) (s0_2 : Int) (a1 : Int) (r1 : Int) (r2 : Int) (r3 : Int) (w0 w : World) (hI : IsS115 w0 w g s0_0 s0_1 s0_2) (hB : Below w0.heap.size w0 w) (h : spec_l01Below.f s0_0 s0_1 s0_2 a1 = some (r1, r2, r3)) :
  Calls Try.prog 68 #[.pointer (some ⟨g, 0, none⟩), .int .i64 a1] w fun e w' => e = .returned (.int .i64 r1) ∧ IsS115 w0 w' g s0_0 r2 r3 ∧ Below w0.heap.size w0 w' ∧ KeepBut w w' g none := by
 have HI0 := Aside0.mk hI
 have HK := Aside0.mk (KeepBut.refl w g none)
 have HL := Aside0.mk hB.size
 clear hI
 have HW0 := Aside0.mk hB.size
 have HB := Aside0.mk hB
 clear hB
 have H : (if a1 ≤ 0 then (some (0, s0_1, s0_2)) else (if a1 ≤ 256 then ((spec_l01Byte.f s0_0 s0_1 s0_2).bind fun bt214 => (if a1 = 0 then (none) else (some (Int.tmod bt214.1 a1, bt214.2.1, bt214.2.2)))) else ((spec_l01Byte.f s0_0 s0_1 s0_2).bind fun bt217 => ((spec_l01Byte.f s0_0 bt217.2.1 bt217.2.2).bind fun bt220 => ((spec_l01Byte.f s0_0 bt220.2.1 bt220.2.2).bind fun bt223 => (if a1 = 0 then (none) else (some (Int.tmod (wrap64 ((wrap64 ((wrap64 (bt217.1 * 65536)) + (wrap64 (bt220.1 * 256)))) + bt223.1)) a1, bt223.2.1, bt223.2.2)))))))) = some (r1, r2, r3) := h
 clear h
 by_cases c3 : a1 ≤ 0
 ·rw [if_pos c3] at H
  have c3b0 : decide (a1 ≤ 0) = true := decide_eq_true c3
  clear c3
  simp only [Option.some.injEq, Prod.mk.injEq] at H
  obtain ⟨rfl, rfl, rfl⟩ := H
  go_enter Try.func68, Try.ntmps68
  go_wp2
  go_ret
  exact ⟨ew_, is115_, bw115_, kx_ HK⟩
 rw [if_neg c3] at H
 have c3b0 : decide (a1 ≤ 0) = false := decide_eq_false c3
 clear c3
 by_cases c4 : a1 ≤ 256
 ·rw [if_pos c4] at H
  have c4b0 : decide (a1 ≤ 256) = true := decide_eq_true c4
  clear c4
  obtain ⟨⟨t214, t215, t216⟩, A5, H⟩ := ob_ H
  by_cases c6 : a1 = 0
  ·rw [if_pos c6] at H
   exact absurd H (by simp)
  rw [if_neg c6] at H
  have c6b0 : (a1 == 0) = false := beq_eq_false_iff_ne.mpr c6
  have c6b1 : (a1 != 0) = true := bne_iff_ne.mpr c6
  simp only [Option.some.injEq, Prod.mk.injEq] at H
  obtain ⟨rfl, rfl, rfl⟩ := H
  go_enter Try.func68, Try.ntmps68
  go_wp2_with ((with_reducible refine gate_callee (f := 86) rfl ?_); refine gl_ (some 13) Try.func86 #[.pointer (some ⟨g, 0, none⟩)] ?_; (with_reducible refine (spec_l01Byte.calls g s0_0 s0_1 s0_2 t214 t215 t216 w0 _ ?side1 ?side2 A5.out).mono ?_); (case side1 => exact is115_); (case side2 => exact bw115_); rintro e w7 ⟨rfl, hi, hb, hk⟩; refine ⟨_, rfl, ?_⟩; replace HK := kt_ HK hk; replace HB := Aside0.mk (hb); replace HI0 := Aside0.mk (hi); clear hb hk hi)
  go_ret
  exact ⟨ew_, is115_, bw115_, kx_ HK⟩
 rw [if_neg c4] at H
 have c4b0 : decide (a1 ≤ 256) = false := decide_eq_false c4
 clear c4
 obtain ⟨⟨t217, t218, t219⟩, A8, H⟩ := ob_ H
 obtain ⟨⟨t220, t221, t222⟩, A9, H⟩ := ob_ H
 obtain ⟨⟨t223, t224, t225⟩, A10, H⟩ := ob_ H
 by_cases c11 : a1 = 0
 ·rw [if_pos c11] at H
  exact absurd H (by simp)
 rw [if_neg c11] at H
 have c11b0 : (a1 == 0) = false := beq_eq_false_iff_ne.mpr c11
 have c11b1 : (a1 != 0) = true := bne_iff_ne.mpr c11
 simp only [Option.some.injEq, Prod.mk.injEq] at H
 obtain ⟨rfl, rfl, rfl⟩ := H
 go_enter Try.func68, Try.ntmps68
 go_wp2_with (first | ((with_reducible refine gate_callee (f := 86) rfl ?_); refine gl_ (some 17) Try.func86 #[.pointer (some ⟨g, 0, none⟩)] ?_; (with_reducible refine (spec_l01Byte.calls g s0_0 s0_1 s0_2 t217 t218 t219 w0 _ ?side1 ?side2 A8.out).mono ?_); (case side1 => exact is115_); (case side2 => exact bw115_); rintro e w12 ⟨rfl, hi, hb, hk⟩; refine ⟨_, rfl, ?_⟩; replace HK := kt_ HK hk; replace HB := Aside0.mk (hb); replace HI0 := Aside0.mk (hi); clear hb hk hi) | ((with_reducible refine gate_callee (f := 86) rfl ?_); refine gl_ (some 19) Try.func86 #[.pointer (some ⟨g, 0, none⟩)] ?_; (with_reducible refine (spec_l01Byte.calls g s0_0 t218 t219 t220 t221 t222 w0 _ ?side1 ?side2 A9.out).mono ?_); (case side1 => exact is115_); (case side2 => exact bw115_); rintro e w13 ⟨rfl, hi, hb, hk⟩; refine ⟨_, rfl, ?_⟩; replace HK := kt_ HK hk; replace HB := Aside0.mk (hb); replace HI0 := Aside0.mk (hi); clear hb hk hi) | ((with_reducible refine gate_callee (f := 86) rfl ?_); refine gl_ (some 21) Try.func86 #[.pointer (some ⟨g, 0, none⟩)] ?_; (with_reducible refine (spec_l01Byte.calls g s0_0 t221 t222 t223 t224 t225 w0 _ ?side1 ?side2 A10.out).mono ?_); (case side1 => exact is115_); (case side2 => exact bw115_); rintro e w14 ⟨rfl, hi, hb, hk⟩; refine ⟨_, rfl, ?_⟩; replace HK := kt_ HK hk; replace HB := Aside0.mk (hb); replace HI0 := Aside0.mk (hi); clear hb hk hi))
 go_ret
 exact ⟨ew_, is115_, bw115_, kx_ HK⟩
def spec_l01New.l0 : Nat → List Int → Int → Int → Option (List Int × Int × Int)
 | 0, _, _, _ => none
 | k + 1, x0, x3, x4 => if x4 < (x0.length : Int) then (if x4 < 4000 then (if 0 ≤ x4 then (spec_l01New.l0 k x0 (Go.bits .and .i64 (wrap64 ((wrap64 ((wrap64 (x3 * 149)) + (wrap64 (rd x0 x4)))) + 11)) 1073741823) (wrap64 (x4 + 1))) else (none)) else (some (x0, 0, x3))) else (some (x0, 0, x3))
def spec_l01New.f (k : Nat) (l0 : List Int) : Option (List Int × Int × Int) := spec_l01New.l0 k l0 (wrap64 (681681 + (l0.length : Int))) 0
set_option maxHeartbeats 8000000 in
set_option maxRecDepth 100000 in
theorem spec_l01New.calls (k : Nat) (A0 : Option Addr) (c0 : Nat) (l0 : List Int) (r1 : List Int) (r2 : Int) (r3 : Int) (w0 w : World) (hB : Below w0.heap.size w0 w) (hr0 : Kd.C (Kd.int .u8) w0 A0 l0.length l0) (hc0 : l0.length ≤ c0) (h : spec_l01New.f k l0 = some (r1, r2, r3)) :
  Calls Try.prog 81 #[.slice A0 l0.length c0] w fun e w' => ∃ g_ : Nat, e = .returned (.pointer (some ⟨g_, 0, none⟩)) ∧ IsS115 w0 w' g_ r1 r2 r3 ∧ Below w0.heap.size w0 w' ∧ Below w.heap.size w w' := by
 have hu115 := Try.underlying115
 have HR0 := Aside0.mk hr0
 have HC0 := Aside0.mk hc0
 clear hr0 hc0
 have HBW := Aside0.mk (Below.refl w.heap.size w)
 have HW0 := Aside0.mk hB.size
 have HB := Aside0.mk hB
 clear hB
 have H : (spec_l01New.l0 k l0 (wrap64 (681681 + (l0.length : Int))) 0) = some (r1, r2, r3) := h
 clear h
 have H' := Aside0.mk H
 clear H
 go_enter Try.func81, Try.ntmps81
 go_wp2
 go_loopg [3, 4] k (fun kq v3 v4 w' => ∃ (x3_1 : Int) (x4_1 : Int), v3 = .int .i64 x3_1 ∧ v4 = .int .i64 x4_1 ∧ Aside0 (spec_l01New.l0 kq l0 x3_1 x4_1 = some (r1, r2, r3)) ∧ Aside0 (kq ≤ k) ∧ Aside0 (Below w0.heap.size w0 w') ∧ Aside0 (Below w.heap.size w w'))
 case atStart => exact ⟨(wrap64 (681681 + (l0.length : Int))), (0), er_, er_, H', ⟨Nat.le_refl _⟩, ⟨bw115_⟩, ⟨by repeat (first | (with_reducible first | exact HBW.out | apply below_alloc | apply pw_below_drewN | apply below_drew1) | exact HBW.out)⟩⟩
 clear H'
 obtain ⟨x3_1, x4_1, rfl, rfl, HA, HK1, HB, HBW⟩ := hrel
 cases gk with
 | zero => exact absurd HA.out (by simp [spec_l01New.l0])
 | succ k1 =>
  have H := HA.out
  clear HA
  simp only [spec_l01New.l0] at H
  by_cases c2 : x4_1 < (l0.length : Int)
  rotate_left
  ·rw [if_neg c2] at H
   have c2b0 : decide (x4_1 < (l0.length : Int)) = false := decide_eq_false c2
   clear c2
   simp only [Option.some.injEq, Prod.mk.injEq] at H
   obtain ⟨rfl, rfl, rfl⟩ := H
   go_wp2_with ((with_reducible refine gate_dst (N := 31) rfl ?_); refine be_ 31 #[.slice A0 l0.length c0, .int .i64 0, .int .i64 x3_1] 115 ?_; intro gb228 hg w6 BK228 hb; have GW228 := Aside0.mk ((by rw [hg]; exact (below_size (by repeat (first | (with_reducible first | exact HBW.out | apply below_alloc | apply pw_below_drewN | apply below_drew1) | exact HBW.out))) : w.heap.size ≤ gb228)); have GE228 := Aside0.mk ((Nat.le_trans HW0.out (by rw [hg]; exact (below_size (by repeat (first | (with_reducible first | exact HBW.out | apply below_alloc | apply pw_below_drewN | apply below_drew1) | exact HBW.out))) : w.heap.size ≤ gb228) : w0.heap.size ≤ gb228)); replace HB := at_ HB hb; replace HBW := Aside0.mk (bt_ HBW hb); clear hb hg)
   go_ret
   exact ⟨_, rfl, (show IsS115 w0 _ gb228 l0 0 x3_1 from ⟨_, _, bx_ BK228, GE228.out, HR0.out⟩), bw115_, by repeat (first | (with_reducible first | exact HBW.out | apply below_alloc | apply pw_below_drewN | apply below_drew1 | refine below_set ?_ GW228.out) | exact HBW.out)⟩
  rw [if_pos c2] at H
  have c2b0 : decide (x4_1 < (l0.length : Int)) = true := decide_eq_true c2
  clear c2
  by_cases c3 : x4_1 < 4000
  rotate_left
  ·rw [if_neg c3] at H
   have c3b0 : decide (x4_1 < 4000) = false := decide_eq_false c3
   clear c3
   simp only [Option.some.injEq, Prod.mk.injEq] at H
   obtain ⟨rfl, rfl, rfl⟩ := H
   go_wp2_with ((with_reducible refine gate_dst (N := 31) rfl ?_); refine be_ 31 #[.slice A0 l0.length c0, .int .i64 0, .int .i64 x3_1] 115 ?_; intro gb227 hg w5 BK227 hb; have GW227 := Aside0.mk ((by rw [hg]; exact (below_size (by repeat (first | (with_reducible first | exact HBW.out | apply below_alloc | apply pw_below_drewN | apply below_drew1) | exact HBW.out))) : w.heap.size ≤ gb227)); have GE227 := Aside0.mk ((Nat.le_trans HW0.out (by rw [hg]; exact (below_size (by repeat (first | (with_reducible first | exact HBW.out | apply below_alloc | apply pw_below_drewN | apply below_drew1) | exact HBW.out))) : w.heap.size ≤ gb227) : w0.heap.size ≤ gb227)); replace HB := at_ HB hb; replace HBW := Aside0.mk (bt_ HBW hb); clear hb hg)
   go_ret
   exact ⟨_, rfl, (show IsS115 w0 _ gb227 l0 0 x3_1 from ⟨_, _, bx_ BK227, GE227.out, HR0.out⟩), bw115_, by repeat (first | (with_reducible first | exact HBW.out | apply below_alloc | apply pw_below_drewN | apply below_drew1 | refine below_set ?_ GW227.out) | exact HBW.out)⟩
  rw [if_pos c3] at H
  have c3b0 : decide (x4_1 < 4000) = true := decide_eq_true c3
  clear c3
  obtain ⟨c4b0, H⟩ := iq_ H
  have H' := Aside0.mk H
  clear H
  have p226 : 0 ≤ (x4_1 : Int) := oa_
  have q226 : x4_1 < (l0.length : Int) := oa_
  obtain ⟨ad226, e226, hx226_0⟩ := Kd.at_int HR0.out x4_1 p226 q226
  cases e226
  replace hx226_0 := pw_cell_below HB.out hx226_0
  obtain ⟨p226, q226⟩ := et_ p226 q226
  go_wp2
  go_roundg k1
  case measure => have := HK1.out; omega
  case rel => exact ⟨(Go.bits .and .i64 (wrap64 ((wrap64 ((wrap64 (x3_1 * 149)) + (wrap64 (rd l0 x4_1)))) + 11)) 1073741823), (wrap64 (x4_1 + 1)), er_, er_, H', ⟨by have := HK1.out; omega⟩, ⟨bw115_⟩, ⟨by repeat (first | (with_reducible first | exact HBW.out | apply below_alloc | apply pw_below_drewN | apply below_drew1) | exact HBW.out)⟩⟩
def spec_l01Size.f (l0 : List Int) (a1 : Int) : Option (Int) := if (wrap64 (2 + (wrap64 ((l0.length : Int) / 16)))) > a1 then (some a1) else (some (wrap64 (2 + (wrap64 ((l0.length : Int) / 16)))))
set_option maxHeartbeats 8000000 in
set_option maxRecDepth 100000 in
theorem spec_l01Size.calls (A0 : Option Addr) (c0 : Nat) (l0 : List Int) (a1 : Int) (r : Int) (w : World) (hr0 : Kd.C (Kd.int .u8) w A0 l0.length l0) (hc0 : l0.length ≤ c0) (h : spec_l01Size.f l0 a1 = some r) :
  Calls Try.prog 82 #[.slice A0 l0.length c0, .int .i64 a1] w fun e w' => e = .returned (.int .i64 r) ∧ Drawn0 w w' := by
 have HR0 := Aside0.mk hr0
 have HC0 := Aside0.mk hc0
 clear hr0 hc0
 have H : (if (wrap64 (2 + (wrap64 ((l0.length : Int) / 16)))) > a1 then (some a1) else (some (wrap64 (2 + (wrap64 ((l0.length : Int) / 16)))))) = some r := h
 clear h
 by_cases c3 : (wrap64 (2 + (wrap64 ((l0.length : Int) / 16)))) > a1
 ·rw [if_pos c3] at H
  have c3b0 : decide (a1 < (wrap64 (2 + (wrap64 ((l0.length : Int) / 16))))) = true := decide_eq_true c3
  clear c3
  obtain rfl := Option.some.inj H
  go_enter Try.func82, Try.ntmps82
  go_wp2
  go_ret
  exact ⟨by first | rfl | (simp; done) | (simp [*]; done), by repeat (first | exact Drawn0.refl _ | apply Drawn0.step)⟩
 rw [if_neg c3] at H
 have c3b0 : decide (a1 < (wrap64 (2 + (wrap64 ((l0.length : Int) / 16))))) = false := decide_eq_false c3
 clear c3
 obtain rfl := Option.some.inj H
 go_enter Try.func82, Try.ntmps82
 go_wp2
 go_ret
 exact ⟨by first | rfl | (simp; done) | (simp [*]; done), by repeat (first | exact Drawn0.refl _ | apply Drawn0.step)⟩
def spec_l01PickInt.f (s0_0 : List Int) (s0_1 : Int) (s0_2 : Int) (l1 : List Int) : Option (Int × Int × Int) := (spec_l01Below.f s0_0 s0_1 s0_2 (l1.length : Int)).bind fun bt229 => (if 0 ≤ bt229.1 then (if bt229.1 < (l1.length : Int) then (some (rd l1 bt229.1, bt229.2.1, bt229.2.2)) else (none)) else (none))
set_option maxHeartbeats 8000000 in
set_option maxRecDepth 100000 in
theorem spec_l01PickInt.calls (g : Nat) (s0_0 : List Int) (s0_1 : Int) (s0_2 : Int) (A1 : Option Addr) (c1 : Nat) (l1 : List Int) (r1 : Int) (r2 : Int) (r3 : Int) (w0 w : World) (hI : IsS115 w0 w g s0_0 s0_1 s0_2) (hB : Below w0.heap.size w0 w) (hr1 : Kd.C (Kd.int .i64) w A1 l1.length l1) (hc1 : l1.length ≤ c1) (hf1 : ∀ ad, A1 = some ad → 0 < l1.length → ad.block ≠ g) (h : spec_l01PickInt.f s0_0 s0_1 s0_2 l1 = some (r1, r2, r3)) :
  Calls Try.prog 67 #[.pointer (some ⟨g, 0, none⟩), .slice A1 l1.length c1] w fun e w' => e = .returned (.int .i64 r1) ∧ IsS115 w0 w' g s0_0 r2 r3 ∧ Below w0.heap.size w0 w' ∧ KeepBut w w' g none := by
 have HR1 := Aside0.mk hr1
 have HC1 := Aside0.mk hc1
 clear hr1 hc1
 have HI0 := Aside0.mk hI
 have HK := Aside0.mk (KeepBut.refl w g none)
 have HL := Aside0.mk hB.size
 clear hI
 have HW0 := Aside0.mk hB.size
 have HB := Aside0.mk hB
 clear hB
 have H : ((spec_l01Below.f s0_0 s0_1 s0_2 (l1.length : Int)).bind fun bt229 => (if 0 ≤ bt229.1 then (if bt229.1 < (l1.length : Int) then (some (rd l1 bt229.1, bt229.2.1, bt229.2.2)) else (none)) else (none))) = some (r1, r2, r3) := h
 clear h
 obtain ⟨⟨t229, t230, t231⟩, A3, H⟩ := ob_ H
 obtain ⟨c4b0, H⟩ := iq_ H
 obtain ⟨c5b0, H⟩ := iq_ H
 simp only [Option.some.injEq, Prod.mk.injEq] at H
 obtain ⟨rfl, rfl, rfl⟩ := H
 go_enter Try.func67, Try.ntmps67
 go_wp2_with ((with_reducible refine gate_callee (f := 68) rfl ?_); refine gl_ (some 9) Try.func68 #[.pointer (some ⟨g, 0, none⟩), .int .i64 (l1.length : Int)] ?_; (with_reducible refine (spec_l01Below.calls g s0_0 s0_1 s0_2 (l1.length : Int) t229 t230 t231 w0 _ ?side1 ?side2 A3.out).mono ?_); (case side1 => exact is115_); (case side2 => exact bw115_); rintro e w6 ⟨rfl, hi, hb, hk⟩; refine ⟨_, rfl, ?_⟩; replace HK := kt_ HK hk; replace HB := Aside0.mk (hb); replace HI0 := Aside0.mk (hi); clear hb hk hi; have p232 : 0 ≤ (t229 : Int) := oa_; have q232 : t229 < (l1.length : Int) := oa_; obtain ⟨ad232, e232, hx232_0⟩ := Kd.at_int HR1.out t229 p232 q232; cases e232; replace hx232_0 := keep_cell HK.out hx232_0 (by first | (rw [add_block]; exact hf1 _ rfl (by omega)) | exact hf1 _ rfl (by omega) | exact hf1 ad232 rfl (by omega)); obtain ⟨p232, q232⟩ := et_ p232 q232)
 go_ret
 exact ⟨ew_, is115_, bw115_, kx_ HK⟩
def spec_l01Once.f (s0_0 : List Int) (s0_1 : Int) (s0_2 : Int) (a1 : Int) : Option (Bool × Int × Int) := (spec_l01Below.f s0_0 s0_1 s0_2 a1).bind fun bt233 => (some ((bt233.1 == 0), bt233.2.1, bt233.2.2))
set_option maxHeartbeats 8000000 in
set_option maxRecDepth 100000 in
theorem spec_l01Once.calls (g : Nat) (s0_0 : List Int) (s0_1 : Int) (s0_2 : Int) (a1 : Int) (r1 : Bool) (r2 : Int) (r3 : Int) (w0 w : World) (hI : IsS115 w0 w g s0_0 s0_1 s0_2) (hB : Below w0.heap.size w0 w) (h : spec_l01Once.f s0_0 s0_1 s0_2 a1 = some (r1, r2, r3)) :
  Calls Try.prog 84 #[.pointer (some ⟨g, 0, none⟩), .int .i64 a1] w fun e w' => e = .returned (.bool r1) ∧ IsS115 w0 w' g s0_0 r2 r3 ∧ Below w0.heap.size w0 w' ∧ KeepBut w w' g none := by
 have HI0 := Aside0.mk hI
 have HK := Aside0.mk (KeepBut.refl w g none)
 have HL := Aside0.mk hB.size
 clear hI
 have HW0 := Aside0.mk hB.size
 have HB := Aside0.mk hB
 clear hB
 have H : ((spec_l01Below.f s0_0 s0_1 s0_2 a1).bind fun bt233 => (some ((bt233.1 == 0), bt233.2.1, bt233.2.2))) = some (r1, r2, r3) := h
 clear h
 obtain ⟨⟨t233, t234, t235⟩, A3, H⟩ := ob_ H
 simp only [Option.some.injEq, Prod.mk.injEq] at H
 obtain ⟨rfl, rfl, rfl⟩ := H
 go_enter Try.func84, Try.ntmps84
 go_wp2_with ((with_reducible refine gate_callee (f := 68) rfl ?_); refine gl_ (some 7) Try.func68 #[.pointer (some ⟨g, 0, none⟩), .int .i64 a1] ?_; (with_reducible refine (spec_l01Below.calls g s0_0 s0_1 s0_2 a1 t233 t234 t235 w0 _ ?side1 ?side2 A3.out).mono ?_); (case side1 => exact is115_); (case side2 => exact bw115_); rintro e w4 ⟨rfl, hi, hb, hk⟩; refine ⟨_, rfl, ?_⟩; replace HK := kt_ HK hk; replace HB := Aside0.mk (hb); replace HI0 := Aside0.mk (hi); clear hb hk hi)
 go_ret
 exact ⟨ew_, is115_, bw115_, kx_ HK⟩
end Go.Proofs.Ythmahcohcphljaa.QFnCheapest
