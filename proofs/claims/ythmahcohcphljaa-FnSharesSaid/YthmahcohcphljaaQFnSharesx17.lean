/- Contracts of functions that the law reaches: what each call returns and what it leaves in memory. Made by this session over the print of the kit. -/
import Derived.Test.YthmahcohcphljaaQFnSharesx0
import Derived.Test.YthmahcohcphljaaQFnSharesx4
import Derived.Test.YthmahcohcphljaaQFnSharesx5
import Derived.Test.YthmahcohcphljaaQFnSharesx6
import Derived.Test.YthmahcohcphljaaQFnSharesx7
import Derived.Test.YthmahcohcphljaaQFnSharesx11
import Derived.Test.YthmahcohcphljaaQFnSharesx12
import Derived.Test.YthmahcohcphljaaQFnSharesx16
namespace Go.Proofs.Ythmahcohcphljaa.QFnShares
open Go.RowKit Go.Proofs.YthmahcohcphljaaS.PrintWords Go.Proofs.YthmahcohcphljaaS.PrintLast Go.Proofs.YthmahcohcphljaaS.PrintMore
attribute [local go_sem] max2_int min2_int max_two min_two max_three min_three max_four min_four   -- for this text's walks alone
set_option linter.unusedVariables false
set_option linter.unusedSimpArgs false

/-! ### impl_onWay: function 69 -/
def impl_onWay.f (l0 : List (List Int)) (a1 : Int) (a2 : Int) (a3 : Int) : Option (Bool) := if 0 ≤ a1 then (if a1 < (l0.length : Int) then (if 0 ≤ a2 then (if a2 < ((rd_L3 l0 a1).length : Int) then (if (rd (rd_L3 l0 a1) a2) < 1000000 then (if 0 ≤ a3 then (if a3 < ((rd_L3 l0 a1).length : Int) then (if a3 < (l0.length : Int) then (if a2 < ((rd_L3 l0 a3).length : Int) then (some ((wrap64 ((rd (rd_L3 l0 a1) a3) + (rd (rd_L3 l0 a3) a2))) == (rd (rd_L3 l0 a1) a2))) else (none)) else (none)) else (none)) else (none)) else (some false)) else (none)) else (none)) else (none)) else (none)
set_option maxHeartbeats 8000000 in
set_option maxRecDepth 100000 in
theorem impl_onWay.calls (A0 : Option Addr) (c0 : Nat) (l0 : List (List Int)) (a1 : Int) (a2 : Int) (a3 : Int) (r : Bool) (w : World) (hr0 : Kd.C (Kd.slice 3 (Kd.int .i64)) w A0 l0.length l0) (hc0 : l0.length ≤ c0) (h : impl_onWay.f l0 a1 a2 a3 = some r) :
  Calls Try.prog 69 #[.slice A0 l0.length c0, .int .i64 a1, .int .i64 a2, .int .i64 a3] w fun e w' => e = .returned (.bool r) ∧ Drawn0 w w' := by
 have HR0 := Aside0.mk hr0
 have HC0 := Aside0.mk hc0
 clear hr0 hc0
 have H : (if 0 ≤ a1 then (if a1 < (l0.length : Int) then (if 0 ≤ a2 then (if a2 < ((rd_L3 l0 a1).length : Int) then (if (rd (rd_L3 l0 a1) a2) < 1000000 then (if 0 ≤ a3 then (if a3 < ((rd_L3 l0 a1).length : Int) then (if a3 < (l0.length : Int) then (if a2 < ((rd_L3 l0 a3).length : Int) then (some ((wrap64 ((rd (rd_L3 l0 a1) a3) + (rd (rd_L3 l0 a3) a2))) == (rd (rd_L3 l0 a1) a2))) else (none)) else (none)) else (none)) else (none)) else (some false)) else (none)) else (none)) else (none)) else (none)) = some r := h
 clear h
 obtain ⟨c5b0, H⟩ := iq_ H
 obtain ⟨c6b0, H⟩ := iq_ H
 obtain ⟨c7b0, H⟩ := iq_ H
 obtain ⟨c8b0, H⟩ := iq_ H
 by_cases c9 : (rd (rd_L3 l0 a1) a2) < 1000000
 rotate_left
 ·rw [if_neg c9] at H
  have c9b0 : decide ((rd (rd_L3 l0 a1) a2) < 1000000) = false := decide_eq_false c9
  clear c9
  obtain rfl := Option.some.inj H
  have p496 : 0 ≤ (a1 : Int) := oa_
  have q496 : a1 < (l0.length : Int) := oa_
  obtain ⟨ad496, A496_0, c496_0, e496, hx496_0, hl496_0, hi496_0⟩ := at_L3 HR0.out a1 p496 q496
  cases e496
  have HR496_0 := Aside0.mk hi496_0
  have HC496_0 := Aside0.mk hl496_0
  clear hi496_0 hl496_0
  replace p496 := eq_true p496
  replace q496 := eq_true q496
  have p497 : 0 ≤ (a2 : Int) := oa_
  have q497 : a2 < ((rd_L3 l0 a1).length : Int) := oa_
  obtain ⟨ad497, e497, hx497_0⟩ := Kd.at_int HR496_0.out a2 p497 q497
  cases e497
  replace p497 := eq_true p497
  replace q497 := eq_true q497
  go_enter Try.func69, Try.ntmps69
  go_wp2
  repeat (go_quiet (fail); try go_wp2)
  go_ret
  exact ⟨by first | rfl | (simp; done) | (simp [*]; done), by repeat (first | exact Drawn0.refl _ | apply Drawn0.step)⟩
 rw [if_pos c9] at H
 have c9b0 : decide ((rd (rd_L3 l0 a1) a2) < 1000000) = true := decide_eq_true c9
 clear c9
 obtain ⟨c10b0, H⟩ := iq_ H
 obtain ⟨c11b0, H⟩ := iq_ H
 obtain ⟨c12b0, H⟩ := iq_ H
 obtain ⟨c13b0, H⟩ := iq_ H
 obtain rfl := Option.some.inj H
 have p496 : 0 ≤ (a1 : Int) := oa_
 have q496 : a1 < (l0.length : Int) := oa_
 obtain ⟨ad496, A496_0, c496_0, e496, hx496_0, hl496_0, hi496_0⟩ := at_L3 HR0.out a1 p496 q496
 cases e496
 have HR496_0 := Aside0.mk hi496_0
 have HC496_0 := Aside0.mk hl496_0
 clear hi496_0 hl496_0
 replace p496 := eq_true p496
 replace q496 := eq_true q496
 have p497 : 0 ≤ (a2 : Int) := oa_
 have q497 : a2 < ((rd_L3 l0 a1).length : Int) := oa_
 obtain ⟨ad497, e497, hx497_0⟩ := Kd.at_int HR496_0.out a2 p497 q497
 cases e497
 replace p497 := eq_true p497
 replace q497 := eq_true q497
 have p498 : 0 ≤ (a1 : Int) := oa_
 have q498 : a1 < (l0.length : Int) := oa_
 obtain ⟨ad498, A498_0, c498_0, e498, hx498_0, hl498_0, hi498_0⟩ := at_L3 HR0.out a1 p498 q498
 obtain rfl : ad496 = ad498 := (by injection e498)
 have HR498_0 := Aside0.mk hi498_0
 have HC498_0 := Aside0.mk hl498_0
 clear hi498_0 hl498_0
 replace p498 := eq_true p498
 replace q498 := eq_true q498
 have ea_ := Option.some.inj (hx496_0.symm.trans hx498_0)
 injection ea_ with ea_ en_ ec_
 subst ea_
 subst ec_
 clear en_
 have p499 : 0 ≤ (a3 : Int) := oa_
 have q499 : a3 < ((rd_L3 l0 a1).length : Int) := oa_
 obtain ⟨ad499, e499, hx499_0⟩ := Kd.at_int HR498_0.out a3 p499 q499
 cases e499
 replace p499 := eq_true p499
 replace q499 := eq_true q499
 have p500 : 0 ≤ (a3 : Int) := oa_
 have q500 : a3 < (l0.length : Int) := oa_
 obtain ⟨ad500, A500_0, c500_0, e500, hx500_0, hl500_0, hi500_0⟩ := at_L3 HR0.out a3 p500 q500
 obtain rfl : ad496 = ad500 := (by injection e500)
 have HR500_0 := Aside0.mk hi500_0
 have HC500_0 := Aside0.mk hl500_0
 clear hi500_0 hl500_0
 replace p500 := eq_true p500
 replace q500 := eq_true q500
 have p501 : 0 ≤ (a2 : Int) := oa_
 have q501 : a2 < ((rd_L3 l0 a3).length : Int) := oa_
 obtain ⟨ad501, e501, hx501_0⟩ := Kd.at_int HR500_0.out a2 p501 q501
 cases e501
 replace p501 := eq_true p501
 replace q501 := eq_true q501
 have p502 : 0 ≤ (a1 : Int) := oa_
 have q502 : a1 < (l0.length : Int) := oa_
 obtain ⟨ad502, A502_0, c502_0, e502, hx502_0, hl502_0, hi502_0⟩ := at_L3 HR0.out a1 p502 q502
 obtain rfl : ad496 = ad502 := (by injection e502)
 have HR502_0 := Aside0.mk hi502_0
 have HC502_0 := Aside0.mk hl502_0
 clear hi502_0 hl502_0
 replace p502 := eq_true p502
 replace q502 := eq_true q502
 have ea_ := Option.some.inj (hx496_0.symm.trans hx502_0)
 injection ea_ with ea_ en_ ec_
 subst ea_
 subst ec_
 clear en_
 have p503 : 0 ≤ (a2 : Int) := oa_
 have q503 : a2 < ((rd_L3 l0 a1).length : Int) := oa_
 obtain ⟨ad503, e503, hx503_0⟩ := Kd.at_int HR502_0.out a2 p503 q503
 cases e503
 replace p503 := eq_true p503
 replace q503 := eq_true q503
 go_enter Try.func69, Try.ntmps69
 go_wp2
 repeat (go_quiet (fail); try go_wp2)
 go_ret
 exact ⟨by first | rfl | (simp; done) | (simp [*]; done), by repeat (first | exact Drawn0.refl _ | apply Drawn0.step)⟩

/-! ### impl_OnWay: function 37 -/
def impl_OnWay.f (k : Nat) (a0_0 : Int) (l0_1 : List (S76)) (a1 : Int) (a2 : Int) (a3 : Int) : Option (Bool) := (impl_GraphOk.f k a0_0 l0_1).bind fun t505 => (if t505 = true then ((impl_Graph_isNode.f a0_0 l0_1 a1).bind fun t506 => (if t506 = true then ((impl_Graph_isNode.f a0_0 l0_1 a2).bind fun t507 => (if t507 = true then ((impl_Graph_isNode.f a0_0 l0_1 a3).bind fun t508 => (if t508 = true then ((impl_Graph_all.f k a0_0 l0_1).bind fun t509 => ((impl_onWay.f t509 a1 a2 a3).bind fun t512 => (some t512))) else (some false))) else (some false))) else (some false))) else (some false))
theorem impl_OnWay.mono : ∀ a0 a1 a2 a3 a4 k, LeO (impl_OnWay.f k a0 a1 a2 a3 a4) (impl_OnWay.f (k + 1) a0 a1 a2 a3 a4) := by
 intro a0 a1 a2 a3 a4 k
 unfold impl_OnWay.f
 repeat' first | (with_reducible first | exact impl_GraphOk.mono _ _ _ | exact impl_Graph_all.mono _ _ _ | exact LeO.refl _ | exact LeO.none _ | refine LeO.ite ?_ ?_ | refine LeO.bind ?_ (fun _ => ?_)) | exact impl_GraphOk.mono _ _ _ | exact impl_Graph_all.mono _ _ _ | exact LeO.none _ | refine LeO.ite ?_ ?_ | refine LeO.bind ?_ (fun _ => ?_)
set_option maxHeartbeats 8000000 in
set_option maxRecDepth 100000 in
theorem impl_OnWay.calls (k : Nat) (a0_0 : Int) (A0_1 : Option Addr) (c0_1 : Nat) (l0_1 : List (S76)) (a1 : Int) (a2 : Int) (a3 : Int) (r : Bool) (w : World) (hr0_1 : Kd.C k76 w A0_1 l0_1.length l0_1) (hc0_1 : l0_1.length ≤ c0_1) (h : impl_OnWay.f k a0_0 l0_1 a1 a2 a3 = some r) :
  Calls Try.prog 37 #[.agg #[.int .i64 a0_0, .slice A0_1 l0_1.length c0_1], .int .i64 a1, .int .i64 a2, .int .i64 a3] w fun e w' => e = .returned (.bool r) ∧ Below w.heap.size w w' := by
 have hu30 := Try.underlying30
 have HR0_1 := Aside0.mk hr0_1
 have HC0_1 := Aside0.mk hc0_1
 clear hr0_1 hc0_1
 have HB := Aside0.mk (Below.refl w.heap.size w)
 have H : ((impl_GraphOk.f k a0_0 l0_1).bind fun t505 => (if t505 = true then ((impl_Graph_isNode.f a0_0 l0_1 a1).bind fun t506 => (if t506 = true then ((impl_Graph_isNode.f a0_0 l0_1 a2).bind fun t507 => (if t507 = true then ((impl_Graph_isNode.f a0_0 l0_1 a3).bind fun t508 => (if t508 = true then ((impl_Graph_all.f k a0_0 l0_1).bind fun t509 => ((impl_onWay.f t509 a1 a2 a3).bind fun t512 => (some t512))) else (some false))) else (some false))) else (some false))) else (some false))) = some r := h
 clear h
 replace H := Option.bind_eq_some_iff.mp H
 obtain ⟨t505, A50, H⟩ := H
 have A5 := Aside0.mk A50
 clear A50
 by_cases c6 : t505 = true
 rotate_left
 ·replace c6 := Bool.eq_false_iff.mpr c6
  subst c6
  rw [if_neg (show ¬ (false = true) by decide)] at H
  obtain rfl := Option.some.inj H
  go_enter Try.func37, Try.ntmps37
  go_wp2_with (first | ((with_reducible refine gate_dst (N := 4) rfl ?_); refine box_event ?hg (N := 4) ?hd (cs := #[.int .i64 a0_0, .slice A0_1 l0_1.length c0_1]) (t := 30) ?hr ?_; (case hd => rfl); (case hg => rfl); (case hr => first | (go_simp; done) | (go_simp; rfl)); intro gb504 hg w48 hbox hb; have BK504 := Aside0.mk hbox; have GW504 := ge_ HB hg; have GE504 := ge_ HB hg; replace HB := at_ HB hb; clear hb hbox hg; have hcz49_0 := cz_ BK504 0 (.int .i64 a0_0); have hcz49_1 := cz_ BK504 1 (.slice A0_1 l0_1.length c0_1); have hfz49_0 := fz_ BK504 0; have hfz49_1 := fz_ BK504 1) | ((with_reducible refine gate_callee (f := 47) rfl ?_); refine gl_ (some 10) Try.func47 #[.agg #[.int .i64 a0_0, .slice A0_1 l0_1.length c0_1]] ?_; (with_reducible refine (impl_GraphOk.calls k a0_0 _ _ l0_1 false _ ?side1 ?side2 A5.out).mono ?_); (case side1 => exact cb_ HR0_1 HB); (case side2 => exact HC0_1.out); rintro e w50 ⟨rfl, hb⟩; refine ⟨_, rfl, ?_⟩; replace BK504 := ab_ BK504 hb; replace HB := at_ HB hb; (try clear hb); (try clear hb2); (try clear hk); (try clear hi)))
  go_ret
  exact ⟨by first | rfl | (simp [errW_none, errW_some] <;> rfl) | (simp [*, errW_none, errW_some] <;> rfl), bw115_⟩
 subst c6
 rw [if_pos rfl] at H
 replace H := Option.bind_eq_some_iff.mp H
 obtain ⟨t506, A70, H⟩ := H
 have A7 := Aside0.mk A70
 clear A70
 by_cases c8 : t506 = true
 rotate_left
 ·replace c8 := Bool.eq_false_iff.mpr c8
  subst c8
  rw [if_neg (show ¬ (false = true) by decide)] at H
  obtain rfl := Option.some.inj H
  go_enter Try.func37, Try.ntmps37
  go_wp2_with (first | ((with_reducible refine gate_dst (N := 4) rfl ?_); refine box_event ?hg (N := 4) ?hd (cs := #[.int .i64 a0_0, .slice A0_1 l0_1.length c0_1]) (t := 30) ?hr ?_; (case hd => rfl); (case hg => rfl); (case hr => first | (go_simp; done) | (go_simp; rfl)); intro gb504 hg w43 hbox hb; have BK504 := Aside0.mk hbox; have GW504 := ge_ HB hg; have GE504 := ge_ HB hg; replace HB := at_ HB hb; clear hb hbox hg; have hcz44_0 := cz_ BK504 0 (.int .i64 a0_0); have hcz44_1 := cz_ BK504 1 (.slice A0_1 l0_1.length c0_1); have hfz44_0 := fz_ BK504 0; have hfz44_1 := fz_ BK504 1) | ((with_reducible refine gate_callee (f := 47) rfl ?_); refine gl_ (some 10) Try.func47 #[.agg #[.int .i64 a0_0, .slice A0_1 l0_1.length c0_1]] ?_; (with_reducible refine (impl_GraphOk.calls k a0_0 _ _ l0_1 true _ ?side1 ?side2 A5.out).mono ?_); (case side1 => exact cb_ HR0_1 HB); (case side2 => exact HC0_1.out); rintro e w45 ⟨rfl, hb⟩; refine ⟨_, rfl, ?_⟩; replace BK504 := ab_ BK504 hb; replace HB := at_ HB hb; (try clear hb); (try clear hb2); (try clear hk); (try clear hi); have hcz46_0 := cz_ BK504 0 (.int .i64 a0_0); have hcz46_1 := cz_ BK504 1 (.slice A0_1 l0_1.length c0_1); have hfz46_0 := fz_ BK504 0; have hfz46_1 := fz_ BK504 1) | (go_at_call 48; (with_reducible refine (impl_Graph_isNode.calls a0_0 _ _ l0_1 a1 false _ ?side1 ?side2 A7.out).mono ?_); (case side1 => exact cb_ HR0_1 HB); (case side2 => exact HC0_1.out); rintro e w47 ⟨rfl, hb⟩; replace BK504 := ab_ BK504 hb; replace HB := at_ HB hb; (try clear hb); (try clear hb2); (try clear hk); (try clear hi)))
  go_ret
  exact ⟨by first | rfl | (simp [errW_none, errW_some] <;> rfl) | (simp [*, errW_none, errW_some] <;> rfl), bw115_⟩
 subst c8
 rw [if_pos rfl] at H
 replace H := Option.bind_eq_some_iff.mp H
 obtain ⟨t507, A90, H⟩ := H
 have A9 := Aside0.mk A90
 clear A90
 by_cases c10 : t507 = true
 rotate_left
 ·replace c10 := Bool.eq_false_iff.mpr c10
  subst c10
  rw [if_neg (show ¬ (false = true) by decide)] at H
  obtain rfl := Option.some.inj H
  go_enter Try.func37, Try.ntmps37
  go_wp2_with (first | ((with_reducible refine gate_dst (N := 4) rfl ?_); refine box_event ?hg (N := 4) ?hd (cs := #[.int .i64 a0_0, .slice A0_1 l0_1.length c0_1]) (t := 30) ?hr ?_; (case hd => rfl); (case hg => rfl); (case hr => first | (go_simp; done) | (go_simp; rfl)); intro gb504 hg w36 hbox hb; have BK504 := Aside0.mk hbox; have GW504 := ge_ HB hg; have GE504 := ge_ HB hg; replace HB := at_ HB hb; clear hb hbox hg; have hcz37_0 := cz_ BK504 0 (.int .i64 a0_0); have hcz37_1 := cz_ BK504 1 (.slice A0_1 l0_1.length c0_1); have hfz37_0 := fz_ BK504 0; have hfz37_1 := fz_ BK504 1) | ((with_reducible refine gate_callee (f := 47) rfl ?_); refine gl_ (some 10) Try.func47 #[.agg #[.int .i64 a0_0, .slice A0_1 l0_1.length c0_1]] ?_; (with_reducible refine (impl_GraphOk.calls k a0_0 _ _ l0_1 true _ ?side1 ?side2 A5.out).mono ?_); (case side1 => exact cb_ HR0_1 HB); (case side2 => exact HC0_1.out); rintro e w38 ⟨rfl, hb⟩; refine ⟨_, rfl, ?_⟩; replace BK504 := ab_ BK504 hb; replace HB := at_ HB hb; (try clear hb); (try clear hb2); (try clear hk); (try clear hi); have hcz39_0 := cz_ BK504 0 (.int .i64 a0_0); have hcz39_1 := cz_ BK504 1 (.slice A0_1 l0_1.length c0_1); have hfz39_0 := fz_ BK504 0; have hfz39_1 := fz_ BK504 1) | (go_at_call 48; (with_reducible refine (impl_Graph_isNode.calls a0_0 _ _ l0_1 a1 true _ ?side1 ?side2 A7.out).mono ?_); (case side1 => exact cb_ HR0_1 HB); (case side2 => exact HC0_1.out); rintro e w40 ⟨rfl, hb⟩; replace BK504 := ab_ BK504 hb; replace HB := at_ HB hb; (try clear hb); (try clear hb2); (try clear hk); (try clear hi); have hcz41_0 := cz_ BK504 0 (.int .i64 a0_0); have hcz41_1 := cz_ BK504 1 (.slice A0_1 l0_1.length c0_1); have hfz41_0 := fz_ BK504 0; have hfz41_1 := fz_ BK504 1) | (go_at_call 48; (with_reducible refine (impl_Graph_isNode.calls a0_0 _ _ l0_1 a2 false _ ?side1 ?side2 A9.out).mono ?_); (case side1 => exact cb_ HR0_1 HB); (case side2 => exact HC0_1.out); rintro e w42 ⟨rfl, hb⟩; replace BK504 := ab_ BK504 hb; replace HB := at_ HB hb; (try clear hb); (try clear hb2); (try clear hk); (try clear hi)))
  go_ret
  exact ⟨by first | rfl | (simp [errW_none, errW_some] <;> rfl) | (simp [*, errW_none, errW_some] <;> rfl), bw115_⟩
 subst c10
 rw [if_pos rfl] at H
 replace H := Option.bind_eq_some_iff.mp H
 obtain ⟨t508, A110, H⟩ := H
 have A11 := Aside0.mk A110
 clear A110
 by_cases c12 : t508 = true
 rotate_left
 ·replace c12 := Bool.eq_false_iff.mpr c12
  subst c12
  rw [if_neg (show ¬ (false = true) by decide)] at H
  obtain rfl := Option.some.inj H
  go_enter Try.func37, Try.ntmps37
  go_wp2_with (first | ((with_reducible refine gate_dst (N := 4) rfl ?_); refine box_event ?hg (N := 4) ?hd (cs := #[.int .i64 a0_0, .slice A0_1 l0_1.length c0_1]) (t := 30) ?hr ?_; (case hd => rfl); (case hg => rfl); (case hr => first | (go_simp; done) | (go_simp; rfl)); intro gb504 hg w27 hbox hb; have BK504 := Aside0.mk hbox; have GW504 := ge_ HB hg; have GE504 := ge_ HB hg; replace HB := at_ HB hb; clear hb hbox hg; have hcz28_0 := cz_ BK504 0 (.int .i64 a0_0); have hcz28_1 := cz_ BK504 1 (.slice A0_1 l0_1.length c0_1); have hfz28_0 := fz_ BK504 0; have hfz28_1 := fz_ BK504 1) | ((with_reducible refine gate_callee (f := 47) rfl ?_); refine gl_ (some 10) Try.func47 #[.agg #[.int .i64 a0_0, .slice A0_1 l0_1.length c0_1]] ?_; (with_reducible refine (impl_GraphOk.calls k a0_0 _ _ l0_1 true _ ?side1 ?side2 A5.out).mono ?_); (case side1 => exact cb_ HR0_1 HB); (case side2 => exact HC0_1.out); rintro e w29 ⟨rfl, hb⟩; refine ⟨_, rfl, ?_⟩; replace BK504 := ab_ BK504 hb; replace HB := at_ HB hb; (try clear hb); (try clear hb2); (try clear hk); (try clear hi); have hcz30_0 := cz_ BK504 0 (.int .i64 a0_0); have hcz30_1 := cz_ BK504 1 (.slice A0_1 l0_1.length c0_1); have hfz30_0 := fz_ BK504 0; have hfz30_1 := fz_ BK504 1) | (go_at_call 48; (with_reducible refine (impl_Graph_isNode.calls a0_0 _ _ l0_1 a1 true _ ?side1 ?side2 A7.out).mono ?_); (case side1 => exact cb_ HR0_1 HB); (case side2 => exact HC0_1.out); rintro e w31 ⟨rfl, hb⟩; replace BK504 := ab_ BK504 hb; replace HB := at_ HB hb; (try clear hb); (try clear hb2); (try clear hk); (try clear hi); have hcz32_0 := cz_ BK504 0 (.int .i64 a0_0); have hcz32_1 := cz_ BK504 1 (.slice A0_1 l0_1.length c0_1); have hfz32_0 := fz_ BK504 0; have hfz32_1 := fz_ BK504 1) | (go_at_call 48; (with_reducible refine (impl_Graph_isNode.calls a0_0 _ _ l0_1 a2 true _ ?side1 ?side2 A9.out).mono ?_); (case side1 => exact cb_ HR0_1 HB); (case side2 => exact HC0_1.out); rintro e w33 ⟨rfl, hb⟩; replace BK504 := ab_ BK504 hb; replace HB := at_ HB hb; (try clear hb); (try clear hb2); (try clear hk); (try clear hi); have hcz34_0 := cz_ BK504 0 (.int .i64 a0_0); have hcz34_1 := cz_ BK504 1 (.slice A0_1 l0_1.length c0_1); have hfz34_0 := fz_ BK504 0; have hfz34_1 := fz_ BK504 1) | (go_at_call 48; (with_reducible refine (impl_Graph_isNode.calls a0_0 _ _ l0_1 a3 false _ ?side1 ?side2 A11.out).mono ?_); (case side1 => exact cb_ HR0_1 HB); (case side2 => exact HC0_1.out); rintro e w35 ⟨rfl, hb⟩; replace BK504 := ab_ BK504 hb; replace HB := at_ HB hb; (try clear hb); (try clear hb2); (try clear hk); (try clear hi)))
  go_ret
  exact ⟨by first | rfl | (simp [errW_none, errW_some] <;> rfl) | (simp [*, errW_none, errW_some] <;> rfl), bw115_⟩
 subst c12
 rw [if_pos rfl] at H
 replace H := Option.bind_eq_some_iff.mp H
 obtain ⟨t509, A130, H⟩ := H
 have A13 := Aside0.mk A130
 clear A130
 replace H := Option.bind_eq_some_iff.mp H
 obtain ⟨t512, A140, H⟩ := H
 have A14 := Aside0.mk A140
 clear A140
 obtain rfl := Option.some.inj H
 go_enter Try.func37, Try.ntmps37
 go_wp2_with (first | ((with_reducible refine gate_dst (N := 4) rfl ?_); refine box_event ?hg (N := 4) ?hd (cs := #[.int .i64 a0_0, .slice A0_1 l0_1.length c0_1]) (t := 30) ?hr ?_; (case hd => rfl); (case hg => rfl); (case hr => first | (go_simp; done) | (go_simp; rfl)); intro gb504 hg w15 hbox hb; have BK504 := Aside0.mk hbox; have GW504 := ge_ HB hg; have GE504 := ge_ HB hg; replace HB := at_ HB hb; clear hb hbox hg; have hcz16_0 := cz_ BK504 0 (.int .i64 a0_0); have hcz16_1 := cz_ BK504 1 (.slice A0_1 l0_1.length c0_1); have hfz16_0 := fz_ BK504 0; have hfz16_1 := fz_ BK504 1) | ((with_reducible refine gate_callee (f := 47) rfl ?_); refine gl_ (some 10) Try.func47 #[.agg #[.int .i64 a0_0, .slice A0_1 l0_1.length c0_1]] ?_; (with_reducible refine (impl_GraphOk.calls k a0_0 _ _ l0_1 true _ ?side1 ?side2 A5.out).mono ?_); (case side1 => exact cb_ HR0_1 HB); (case side2 => exact HC0_1.out); rintro e w17 ⟨rfl, hb⟩; refine ⟨_, rfl, ?_⟩; replace BK504 := ab_ BK504 hb; replace HB := at_ HB hb; (try clear hb); (try clear hb2); (try clear hk); (try clear hi); have hcz18_0 := cz_ BK504 0 (.int .i64 a0_0); have hcz18_1 := cz_ BK504 1 (.slice A0_1 l0_1.length c0_1); have hfz18_0 := fz_ BK504 0; have hfz18_1 := fz_ BK504 1) | (go_at_call 48; (with_reducible refine (impl_Graph_isNode.calls a0_0 _ _ l0_1 a1 true _ ?side1 ?side2 A7.out).mono ?_); (case side1 => exact cb_ HR0_1 HB); (case side2 => exact HC0_1.out); rintro e w19 ⟨rfl, hb⟩; replace BK504 := ab_ BK504 hb; replace HB := at_ HB hb; (try clear hb); (try clear hb2); (try clear hk); (try clear hi); have hcz20_0 := cz_ BK504 0 (.int .i64 a0_0); have hcz20_1 := cz_ BK504 1 (.slice A0_1 l0_1.length c0_1); have hfz20_0 := fz_ BK504 0; have hfz20_1 := fz_ BK504 1) | (go_at_call 48; (with_reducible refine (impl_Graph_isNode.calls a0_0 _ _ l0_1 a2 true _ ?side1 ?side2 A9.out).mono ?_); (case side1 => exact cb_ HR0_1 HB); (case side2 => exact HC0_1.out); rintro e w21 ⟨rfl, hb⟩; replace BK504 := ab_ BK504 hb; replace HB := at_ HB hb; (try clear hb); (try clear hb2); (try clear hk); (try clear hi); have hcz22_0 := cz_ BK504 0 (.int .i64 a0_0); have hcz22_1 := cz_ BK504 1 (.slice A0_1 l0_1.length c0_1); have hfz22_0 := fz_ BK504 0; have hfz22_1 := fz_ BK504 1) | (go_at_call 48; (with_reducible refine (impl_Graph_isNode.calls a0_0 _ _ l0_1 a3 true _ ?side1 ?side2 A11.out).mono ?_); (case side1 => exact cb_ HR0_1 HB); (case side2 => exact HC0_1.out); rintro e w23 ⟨rfl, hb⟩; replace BK504 := ab_ BK504 hb; replace HB := at_ HB hb; (try clear hb); (try clear hb2); (try clear hk); (try clear hi); have hcz24_0 := cz_ BK504 0 (.int .i64 a0_0); have hcz24_1 := cz_ BK504 1 (.slice A0_1 l0_1.length c0_1); have hfz24_0 := fz_ BK504 0; have hfz24_1 := fz_ BK504 1) | (go_at_call 55; (with_reducible refine (impl_Graph_all.calls k a0_0 _ _ l0_1 t509 _ ?side1 ?side2 A13.out).mono ?_); (case side1 => exact cb_ HR0_1 HB); (case side2 => exact HC0_1.out); rintro e w25 ⟨v510, rfl, ho0, hb⟩; have HO511 := Aside0.mk (Kd.S_lower ho0 (bz_ HB)); replace BK504 := ab_ BK504 hb; replace HB := at_ HB hb; (try clear hb); (try clear hb2); (try clear hk); (try clear hi); (try clear ho0); obtain ⟨Ao26, co26, eo26⟩ := Kd.S_slice HO511.out; subst eo26) | (go_at_call 69; (with_reducible refine (impl_onWay.calls _ _ t509 a1 a2 a3 t512 _ ?side1 ?side2 A14.out).mono ?_); (case side1 => repeat (first | exact (Kd.S_reads' HO511.out).2.2 | (with_reducible refine Kd.C_alloc ?_ _) | (with_reducible refine Kd.C_drewN ?_ _) | (with_reducible refine Kd.C_drew ?_))); (case side2 => exact (Kd.S_reads' HO511.out).2.1); rintro e w' ⟨rfl, ⟨nd, rfl⟩⟩))
 go_ret
 exact ⟨by first | rfl | (simp [errW_none, errW_some] <;> rfl) | (simp [*, errW_none, errW_some] <;> rfl), bw115_⟩

/-! ### laws_FnShares: function 8 -/
mutual
def laws_FnShares.j0 : Nat → Int → Int → Int → List Int → Bool → Int → List (S76) → Option (Bool)
 | 0, _, _, _, _, _, _, _ => none
 | k + 1, x4, x5, x6, x8, x49, x522000, x522001 => if x49 = true then (some false) else (laws_FnShares.l0 k x4 x5 x6 x8 0 x522000 x522001)
def laws_FnShares.l0 : Nat → Int → Int → Int → List Int → Int → Int → List (S76) → Option (Bool)
 | 0, _, _, _, _, _, _, _ => none
 | k + 1, x4, x5, x6, x8, x9, x522000, x522001 => if x9 < x522000 then (if 0 ≤ x9 then (if x9 < (x8.length : Int) then (if (rd x8 x9) > x6 then (some false) else (if (rd x8 x9) > 0 then ((impl_OnWay.f k x522000 x522001 x4 x5 x9).bind fun t533 => (if t533 = true then (laws_FnShares.l0 k x4 x5 x6 x8 (wrap64 (x9 + 1)) x522000 x522001) else (some false))) else (laws_FnShares.l0 k x4 x5 x6 x8 (wrap64 (x9 + 1)) x522000 x522001))) else (none)) else (none)) else (some true)
end
def laws_FnShares.f (k : Nat) (l0 : List Int) : Option (Bool) := (laws_big.f l0).bind fun t513 => (if t513 = true then (some true) else ((spec_DrawShares.f k l0).bind fun bt514 => ((spec_Shares.f k bt514.1 bt514.2.1 bt514.2.2.1 bt514.2.2.2.1 bt514.2.2.2.2).bind fun t522 => ((impl_Shares.f k bt514.1 bt514.2.1 bt514.2.2.1 bt514.2.2.2.1 bt514.2.2.2.2).bind fun t525 => ((laws_same.f k t525 t522).bind fun t528 => (if t528 = true then (if (t522.length : Int) = 0 then (some true) else (if 0 ≤ bt514.2.2.2.1 then (if bt514.2.2.2.1 < (t525.length : Int) then (if (rd t525 bt514.2.2.2.1) = bt514.2.2.2.2 then (if 0 ≤ bt514.2.2.1 then (if bt514.2.2.1 < (t525.length : Int) then (laws_FnShares.j0 k bt514.2.2.1 bt514.2.2.2.1 bt514.2.2.2.2 t525 ((rd t525 bt514.2.2.1) != bt514.2.2.2.2) bt514.1 bt514.2.1) else (none)) else (none)) else (laws_FnShares.j0 k bt514.2.2.1 bt514.2.2.2.1 bt514.2.2.2.2 t525 true bt514.1 bt514.2.1)) else (none)) else (none))) else (some false)))))))
theorem laws_FnShares.mono_l : ∀ k, (∀ y0 y1 y2 y3 y4 y5 y6, LeO (laws_FnShares.j0 k y0 y1 y2 y3 y4 y5 y6) (laws_FnShares.j0 (k + 1) y0 y1 y2 y3 y4 y5 y6)) ∧ (∀ y0 y1 y2 y3 y4 y5 y6, LeO (laws_FnShares.l0 k y0 y1 y2 y3 y4 y5 y6) (laws_FnShares.l0 (k + 1) y0 y1 y2 y3 y4 y5 y6))
 | 0 => ⟨fun _ _ _ _ _ _ _ r h => by simp [laws_FnShares.j0] at h, fun _ _ _ _ _ _ _ r h => by simp [laws_FnShares.l0] at h⟩
 | k + 1 => by
  obtain ⟨ih0, ih1⟩ := laws_FnShares.mono_l k
  refine ⟨?_, ?_⟩
  ·intro y0 y1 y2 y3 y4 y5 y6
   unfold laws_FnShares.j0
   repeat' first | (with_reducible first | exact ih0 _ _ _ _ _ _ _ | exact ih1 _ _ _ _ _ _ _ | exact impl_OnWay.mono _ _ _ _ _ _ | exact impl_Shares.mono _ _ _ _ _ _ | exact laws_same.mono _ _ _ | exact spec_DrawShares.mono _ _ | exact spec_Shares.mono _ _ _ _ _ _ | exact LeO.refl _ | exact LeO.none _ | refine LeO.ite ?_ ?_ | refine LeO.bind ?_ (fun _ => ?_)) | exact ih0 _ _ _ _ _ _ _ | exact ih1 _ _ _ _ _ _ _ | exact impl_OnWay.mono _ _ _ _ _ _ | exact impl_Shares.mono _ _ _ _ _ _ | exact laws_same.mono _ _ _ | exact spec_DrawShares.mono _ _ | exact spec_Shares.mono _ _ _ _ _ _ | exact LeO.none _ | refine LeO.ite ?_ ?_ | refine LeO.bind ?_ (fun _ => ?_)
  ·intro y0 y1 y2 y3 y4 y5 y6
   unfold laws_FnShares.l0
   repeat' first | (with_reducible first | exact ih0 _ _ _ _ _ _ _ | exact ih1 _ _ _ _ _ _ _ | exact impl_OnWay.mono _ _ _ _ _ _ | exact impl_Shares.mono _ _ _ _ _ _ | exact laws_same.mono _ _ _ | exact spec_DrawShares.mono _ _ | exact spec_Shares.mono _ _ _ _ _ _ | exact LeO.refl _ | exact LeO.none _ | refine LeO.ite ?_ ?_ | refine LeO.bind ?_ (fun _ => ?_)) | exact ih0 _ _ _ _ _ _ _ | exact ih1 _ _ _ _ _ _ _ | exact impl_OnWay.mono _ _ _ _ _ _ | exact impl_Shares.mono _ _ _ _ _ _ | exact laws_same.mono _ _ _ | exact spec_DrawShares.mono _ _ | exact spec_Shares.mono _ _ _ _ _ _ | exact LeO.none _ | refine LeO.ite ?_ ?_ | refine LeO.bind ?_ (fun _ => ?_)
theorem laws_FnShares.mono : ∀ a0 k, LeO (laws_FnShares.f k a0) (laws_FnShares.f (k + 1) a0) := by
 intro a0 k
 obtain ⟨ih0, ih1⟩ := laws_FnShares.mono_l k
 unfold laws_FnShares.f
 repeat' first | (with_reducible first | exact ih0 _ _ _ _ _ _ _ | exact ih1 _ _ _ _ _ _ _ | exact impl_OnWay.mono _ _ _ _ _ _ | exact impl_Shares.mono _ _ _ _ _ _ | exact laws_same.mono _ _ _ | exact spec_DrawShares.mono _ _ | exact spec_Shares.mono _ _ _ _ _ _ | exact LeO.refl _ | exact LeO.none _ | refine LeO.ite ?_ ?_ | refine LeO.bind ?_ (fun _ => ?_)) | exact ih0 _ _ _ _ _ _ _ | exact ih1 _ _ _ _ _ _ _ | exact impl_OnWay.mono _ _ _ _ _ _ | exact impl_Shares.mono _ _ _ _ _ _ | exact laws_same.mono _ _ _ | exact spec_DrawShares.mono _ _ | exact spec_Shares.mono _ _ _ _ _ _ | exact LeO.none _ | refine LeO.ite ?_ ?_ | refine LeO.bind ?_ (fun _ => ?_)
set_option maxHeartbeats 8000000 in
set_option maxRecDepth 100000 in
theorem laws_FnShares.calls (k : Nat) (A0 : Option Addr) (c0 : Nat) (l0 : List Int) (r : Bool) (w : World) (hr0 : Kd.C (Kd.int .u8) w A0 l0.length l0) (hc0 : l0.length ≤ c0) (h : laws_FnShares.f k l0 = some r) :
  Calls Try.prog 8 #[.slice A0 l0.length c0] w fun e w' => e = .returned (.bool r) ∧ Below w.heap.size w w' := by
 have hu30 := Try.underlying30
 have HR0 := Aside0.mk hr0
 have HC0 := Aside0.mk hc0
 clear hr0 hc0
 have HB := Aside0.mk (Below.refl w.heap.size w)
 have H : ((laws_big.f l0).bind fun t513 => (if t513 = true then (some true) else ((spec_DrawShares.f k l0).bind fun bt514 => ((spec_Shares.f k bt514.1 bt514.2.1 bt514.2.2.1 bt514.2.2.2.1 bt514.2.2.2.2).bind fun t522 => ((impl_Shares.f k bt514.1 bt514.2.1 bt514.2.2.1 bt514.2.2.2.1 bt514.2.2.2.2).bind fun t525 => ((laws_same.f k t525 t522).bind fun t528 => (if t528 = true then (if (t522.length : Int) = 0 then (some true) else (if 0 ≤ bt514.2.2.2.1 then (if bt514.2.2.2.1 < (t525.length : Int) then (if (rd t525 bt514.2.2.2.1) = bt514.2.2.2.2 then (if 0 ≤ bt514.2.2.1 then (if bt514.2.2.1 < (t525.length : Int) then (laws_FnShares.j0 k bt514.2.2.1 bt514.2.2.2.1 bt514.2.2.2.2 t525 ((rd t525 bt514.2.2.1) != bt514.2.2.2.2) bt514.1 bt514.2.1) else (none)) else (none)) else (laws_FnShares.j0 k bt514.2.2.1 bt514.2.2.2.1 bt514.2.2.2.2 t525 true bt514.1 bt514.2.1)) else (none)) else (none))) else (some false)))))))) = some r := h
 clear h
 replace H := Option.bind_eq_some_iff.mp H
 obtain ⟨t513, A20, H⟩ := H
 have A2 := Aside0.mk A20
 clear A20
 by_cases c3 : t513 = true
 ·subst c3
  rw [if_pos rfl] at H
  obtain rfl := Option.some.inj H
  go_enter Try.func8, Try.ntmps8
  go_wp2_with ((with_reducible refine gate_callee (f := 23) rfl ?_); refine gl_ (some 11) Try.func23 #[.slice A0 l0.length c0] ?_; (with_reducible refine (laws_big.calls _ _ l0 true _ ?side1 ?side2 A2.out).mono ?_); (case side1 => repeat (first | exact HR0.out | (with_reducible refine Kd.C_alloc ?_ _) | (with_reducible refine Kd.C_drewN ?_ _) | (with_reducible refine Kd.C_drew ?_))); (case side2 => exact HC0.out); rintro e w' ⟨rfl, ⟨nd, rfl⟩⟩; refine ⟨_, rfl, ?_⟩)
  go_ret
  exact ⟨by first | rfl | (simp [errW_none, errW_some] <;> rfl) | (simp [*, errW_none, errW_some] <;> rfl), bw115_⟩
 replace c3 := Bool.eq_false_iff.mpr c3
 subst c3
 rw [if_neg (show ¬ (false = true) by decide)] at H
 replace H := Option.bind_eq_some_iff.mp H
 obtain ⟨⟨t514, t515, t518, t519, t520⟩, A40, H⟩ := H
 have A4 := Aside0.mk A40
 clear A40
 replace H := Option.bind_eq_some_iff.mp H
 obtain ⟨t522, A50, H⟩ := H
 have A5 := Aside0.mk A50
 clear A50
 replace H := Option.bind_eq_some_iff.mp H
 obtain ⟨t525, A60, H⟩ := H
 have A6 := Aside0.mk A60
 clear A60
 replace H := Option.bind_eq_some_iff.mp H
 obtain ⟨t528, A70, H⟩ := H
 have A7 := Aside0.mk A70
 clear A70
 by_cases c8 : t528 = true
 rotate_left
 ·replace c8 := Bool.eq_false_iff.mpr c8
  subst c8
  rw [if_neg (show ¬ (false = true) by decide)] at H
  obtain rfl := Option.some.inj H
  go_enter Try.func8, Try.ntmps8
  go_wp2_with (first | ((with_reducible refine gate_callee (f := 23) rfl ?_); refine gl_ (some 11) Try.func23 #[.slice A0 l0.length c0] ?_; (with_reducible refine (laws_big.calls _ _ l0 false _ ?side1 ?side2 A2.out).mono ?_); (case side1 => repeat (first | exact HR0.out | (with_reducible refine Kd.C_alloc ?_ _) | (with_reducible refine Kd.C_drewN ?_ _) | (with_reducible refine Kd.C_drew ?_))); (case side2 => exact HC0.out); rintro e w' ⟨rfl, ⟨nd, rfl⟩⟩; refine ⟨_, rfl, ?_⟩) | ((with_reducible refine gate_callee (f := 36) rfl ?_); refine gl_ (some 14) Try.func36 #[.slice A0 l0.length c0] ?_; (with_reducible refine (spec_DrawShares.calls k _ _ l0 t514 t515 t518 t519 t520 _ ?side1 ?side2 A4.out).mono ?_); (case side1 => repeat (first | exact HR0.out | (with_reducible refine Kd.C_alloc ?_ _) | (with_reducible refine Kd.C_drewN ?_ _) | (with_reducible refine Kd.C_drew ?_))); (case side2 => exact HC0.out); rintro e w49 ⟨v516, rfl, ho0, hb⟩; refine ⟨_, rfl, ?_⟩; have HO517 := Aside0.mk (Kd.R_lower ho0 (bz_ HB)); replace HB := at_ HB hb; (try clear hb); (try clear hb2); (try clear hk); (try clear hi); (try clear ho0)) | ((with_reducible refine gate_dst (N := 3) rfl ?_); refine box_event ?hg (N := 3) ?hd (cs := #[.int .i64 0, .slice none 0 0]) (t := 30) ?hr ?_; (case hd => rfl); (case hg => rfl); (case hr => first | (go_simp; done) | (go_simp; rfl)); intro gb521 hg w50 hbox hb; have BK521 := Aside0.mk hbox; have GW521 := ge_ HB hg; have GE521 := ge_ HB hg; replace HO517 := rb_ HO517 hb; replace HB := at_ HB hb; clear hb hbox hg; have hcz51_0 := cz_ BK521 0 (.int .i64 0); have hcz51_1 := cz_ BK521 1 (.slice none 0 0); have hfz51_0 := fz_ BK521 0; have hfz51_1 := fz_ BK521 1; obtain ⟨Ao52, co52, eo52⟩ := Kd.R_slice HO517.out; subst eo52) | ((with_reducible refine gate_callee (f := 19) rfl ?_); refine gl_ (some 23) Try.func19 #[.agg #[.int .i64 t514, .slice Ao52 t515.length co52], .int .i64 t518, .int .i64 t519, .int .i64 t520] ?_; (with_reducible refine (spec_Shares.calls k t514 _ _ t515 t518 t519 t520 t522 _ ?side1 ?side2 A5.out).mono ?_); (case side1 => refine (Kd.R_reads' (e := 76) (base := w.heap.size) (ok := fun k_ => True) (n := t515.length) (c := co52) ?_).2.2; exact (hs_ HO517 BK521)); (case side2 => exact (Kd.R_reads' HO517.out).2.1); rintro e w53 ⟨v523, rfl, ho0, hb⟩; refine ⟨_, rfl, ?_⟩; have HO524 := Aside0.mk (Kd.R_lower ho0 (bz_ HB)); replace HO517 := rs_ HO517 BK521 hb; replace BK521 := Aside0.mk (blk_below (g := gb521) (o := .cells #[.int .i64 t514, .slice Ao52 t515.length co52] 30 (0, 0)) (by refine bd_ ?_; refine blk_put (cs := #[.int .i64 t514, .slice none 0 0]) ?_ 1 _ rfl; refine bd_ ?_; refine blk_put (cs := #[.int .i64 0, .slice none 0 0]) ?_ 0 _ rfl; refine bd_ ?_; exact BK521.out) hb); replace HB := at_ HB hb; (try clear hb); (try clear hb2); (try clear hk); (try clear hi); (try clear ho0); have hcz54_0 := cz_ BK521 0 (.int .i64 t514); have hcz54_1 := cz_ BK521 1 (.slice Ao52 t515.length co52); have hfz54_0 := fz_ BK521 0; have hfz54_1 := fz_ BK521 1) | ((with_reducible refine gate_callee (f := 20) rfl ?_); refine gl_ (some 28) Try.func20 #[.agg #[.int .i64 t514, .slice Ao52 t515.length co52], .int .i64 t518, .int .i64 t519, .int .i64 t520] ?_; (with_reducible refine (impl_Shares.calls k t514 _ _ t515 t518 t519 t520 t525 _ ?side1 ?side2 A6.out).mono ?_); (case side1 => exact rc_ HO517); (case side2 => exact (Kd.R_reads' HO517.out).2.1); rintro e w55 ⟨v526, rfl, ho0, hb⟩; refine ⟨_, rfl, ?_⟩; have HO527 := Aside0.mk (Kd.R_lower (Kd.R_new' ho0 (Kd.R_lt (hd_ HO524))) (bz_ HB)); replace HO517 := rb_ HO517 hb; replace HO524 := Aside0.mk (Kd.R_elder' (hd_ HO524) (Kd.R_base ho0) hb); replace BK521 := ab_ BK521 hb; replace HB := at_ HB hb; (try clear hb); (try clear hb2); (try clear hk); (try clear hi); (try clear ho0); obtain ⟨Ao56, co56, eo56⟩ := Kd.R_slice HO527.out; subst eo56; obtain ⟨Ao57, co57, eo57⟩ := Kd.R_slice HO524.out; subst eo57) | ((with_reducible refine gate_callee (f := 28) rfl ?_); refine gl_ (some 31) Try.func28 #[.slice Ao56 t525.length co56, .slice Ao57 t522.length co57] ?_; (with_reducible refine (laws_same.calls k _ _ t525 _ _ t522 false _ ?side1 ?side2 ?side3 ?side4 A7.out).mono ?_); (case side1 => exact rc_ HO527); (case side2 => exact (Kd.R_reads' HO527.out).2.1); (case side3 => exact rc_ HO524); (case side4 => exact (Kd.R_reads' HO524.out).2.1); rintro e w' ⟨rfl, ⟨nd, rfl⟩⟩; refine ⟨_, rfl, ?_⟩))
  go_ret
  exact ⟨by first | rfl | (simp [errW_none, errW_some] <;> rfl) | (simp [*, errW_none, errW_some] <;> rfl), bw115_⟩
 subst c8
 rw [if_pos rfl] at H
 by_cases c9 : (t522.length : Int) = 0
 ·rw [if_pos c9] at H
  have c9b0 : ((t522.length : Int) == 0) = true := beq_iff_eq.mpr c9
  have c9b1 : ((t522.length : Int) != 0) = false := bne_eq_false_iff_eq.mpr c9
  clear c9
  obtain rfl := Option.some.inj H
  go_enter Try.func8, Try.ntmps8
  go_wp2_with (first | ((with_reducible refine gate_callee (f := 23) rfl ?_); refine gl_ (some 11) Try.func23 #[.slice A0 l0.length c0] ?_; (with_reducible refine (laws_big.calls _ _ l0 false _ ?side1 ?side2 A2.out).mono ?_); (case side1 => repeat (first | exact HR0.out | (with_reducible refine Kd.C_alloc ?_ _) | (with_reducible refine Kd.C_drewN ?_ _) | (with_reducible refine Kd.C_drew ?_))); (case side2 => exact HC0.out); rintro e w' ⟨rfl, ⟨nd, rfl⟩⟩; refine ⟨_, rfl, ?_⟩) | ((with_reducible refine gate_callee (f := 36) rfl ?_); refine gl_ (some 14) Try.func36 #[.slice A0 l0.length c0] ?_; (with_reducible refine (spec_DrawShares.calls k _ _ l0 t514 t515 t518 t519 t520 _ ?side1 ?side2 A4.out).mono ?_); (case side1 => repeat (first | exact HR0.out | (with_reducible refine Kd.C_alloc ?_ _) | (with_reducible refine Kd.C_drewN ?_ _) | (with_reducible refine Kd.C_drew ?_))); (case side2 => exact HC0.out); rintro e w10 ⟨v516, rfl, ho0, hb⟩; refine ⟨_, rfl, ?_⟩; have HO517 := Aside0.mk (Kd.R_lower ho0 (bz_ HB)); replace HB := at_ HB hb; (try clear hb); (try clear hb2); (try clear hk); (try clear hi); (try clear ho0)) | ((with_reducible refine gate_dst (N := 3) rfl ?_); refine box_event ?hg (N := 3) ?hd (cs := #[.int .i64 0, .slice none 0 0]) (t := 30) ?hr ?_; (case hd => rfl); (case hg => rfl); (case hr => first | (go_simp; done) | (go_simp; rfl)); intro gb521 hg w11 hbox hb; have BK521 := Aside0.mk hbox; have GW521 := ge_ HB hg; have GE521 := ge_ HB hg; replace HO517 := rb_ HO517 hb; replace HB := at_ HB hb; clear hb hbox hg; have hcz12_0 := cz_ BK521 0 (.int .i64 0); have hcz12_1 := cz_ BK521 1 (.slice none 0 0); have hfz12_0 := fz_ BK521 0; have hfz12_1 := fz_ BK521 1; obtain ⟨Ao13, co13, eo13⟩ := Kd.R_slice HO517.out; subst eo13) | ((with_reducible refine gate_callee (f := 19) rfl ?_); refine gl_ (some 23) Try.func19 #[.agg #[.int .i64 t514, .slice Ao13 t515.length co13], .int .i64 t518, .int .i64 t519, .int .i64 t520] ?_; (with_reducible refine (spec_Shares.calls k t514 _ _ t515 t518 t519 t520 t522 _ ?side1 ?side2 A5.out).mono ?_); (case side1 => refine (Kd.R_reads' (e := 76) (base := w.heap.size) (ok := fun k_ => True) (n := t515.length) (c := co13) ?_).2.2; exact (hs_ HO517 BK521)); (case side2 => exact (Kd.R_reads' HO517.out).2.1); rintro e w14 ⟨v523, rfl, ho0, hb⟩; refine ⟨_, rfl, ?_⟩; have HO524 := Aside0.mk (Kd.R_lower ho0 (bz_ HB)); replace HO517 := rs_ HO517 BK521 hb; replace BK521 := Aside0.mk (blk_below (g := gb521) (o := .cells #[.int .i64 t514, .slice Ao13 t515.length co13] 30 (0, 0)) (by refine bd_ ?_; refine blk_put (cs := #[.int .i64 t514, .slice none 0 0]) ?_ 1 _ rfl; refine bd_ ?_; refine blk_put (cs := #[.int .i64 0, .slice none 0 0]) ?_ 0 _ rfl; refine bd_ ?_; exact BK521.out) hb); replace HB := at_ HB hb; (try clear hb); (try clear hb2); (try clear hk); (try clear hi); (try clear ho0); have hcz15_0 := cz_ BK521 0 (.int .i64 t514); have hcz15_1 := cz_ BK521 1 (.slice Ao13 t515.length co13); have hfz15_0 := fz_ BK521 0; have hfz15_1 := fz_ BK521 1) | ((with_reducible refine gate_callee (f := 20) rfl ?_); refine gl_ (some 28) Try.func20 #[.agg #[.int .i64 t514, .slice Ao13 t515.length co13], .int .i64 t518, .int .i64 t519, .int .i64 t520] ?_; (with_reducible refine (impl_Shares.calls k t514 _ _ t515 t518 t519 t520 t525 _ ?side1 ?side2 A6.out).mono ?_); (case side1 => exact rc_ HO517); (case side2 => exact (Kd.R_reads' HO517.out).2.1); rintro e w16 ⟨v526, rfl, ho0, hb⟩; refine ⟨_, rfl, ?_⟩; have HO527 := Aside0.mk (Kd.R_lower (Kd.R_new' ho0 (Kd.R_lt (hd_ HO524))) (bz_ HB)); replace HO517 := rb_ HO517 hb; replace HO524 := Aside0.mk (Kd.R_elder' (hd_ HO524) (Kd.R_base ho0) hb); replace BK521 := ab_ BK521 hb; replace HB := at_ HB hb; (try clear hb); (try clear hb2); (try clear hk); (try clear hi); (try clear ho0); obtain ⟨Ao17, co17, eo17⟩ := Kd.R_slice HO527.out; subst eo17; obtain ⟨Ao18, co18, eo18⟩ := Kd.R_slice HO524.out; subst eo18) | ((with_reducible refine gate_callee (f := 28) rfl ?_); refine gl_ (some 31) Try.func28 #[.slice Ao17 t525.length co17, .slice Ao18 t522.length co18] ?_; (with_reducible refine (laws_same.calls k _ _ t525 _ _ t522 true _ ?side1 ?side2 ?side3 ?side4 A7.out).mono ?_); (case side1 => exact rc_ HO527); (case side2 => exact (Kd.R_reads' HO527.out).2.1); (case side3 => exact rc_ HO524); (case side4 => exact (Kd.R_reads' HO524.out).2.1); rintro e w' ⟨rfl, ⟨nd, rfl⟩⟩; refine ⟨_, rfl, ?_⟩))
  go_ret
  exact ⟨by first | rfl | (simp [errW_none, errW_some] <;> rfl) | (simp [*, errW_none, errW_some] <;> rfl), bw115_⟩
 rw [if_neg c9] at H
 have c9b0 : ((t522.length : Int) == 0) = false := beq_eq_false_iff_ne.mpr c9
 have c9b1 : ((t522.length : Int) != 0) = true := bne_iff_ne.mpr c9
 have c9b2 : ¬ (t522 = []) := fun h_ => c9 (by rw [h_]; rfl)
 have HC19 := Aside0.mk H
 clear H
 go_enter Try.func8, Try.ntmps8
 go_upto_region 10 with (first | ((with_reducible refine gate_callee (f := 23) rfl ?_); refine gl_ (some 11) Try.func23 #[.slice A0 l0.length c0] ?_; (with_reducible refine (laws_big.calls _ _ l0 false _ ?side1 ?side2 A2.out).mono ?_); (case side1 => repeat (first | exact HR0.out | (with_reducible refine Kd.C_alloc ?_ _) | (with_reducible refine Kd.C_drewN ?_ _) | (with_reducible refine Kd.C_drew ?_))); (case side2 => exact HC0.out); rintro e w' ⟨rfl, ⟨nd, rfl⟩⟩; refine ⟨_, rfl, ?_⟩) | ((with_reducible refine gate_callee (f := 36) rfl ?_); refine gl_ (some 14) Try.func36 #[.slice A0 l0.length c0] ?_; (with_reducible refine (spec_DrawShares.calls k _ _ l0 t514 t515 t518 t519 t520 _ ?side1 ?side2 A4.out).mono ?_); (case side1 => repeat (first | exact HR0.out | (with_reducible refine Kd.C_alloc ?_ _) | (with_reducible refine Kd.C_drewN ?_ _) | (with_reducible refine Kd.C_drew ?_))); (case side2 => exact HC0.out); rintro e w20 ⟨v516, rfl, ho0, hb⟩; refine ⟨_, rfl, ?_⟩; have HO517 := Aside0.mk (Kd.R_lower ho0 (bz_ HB)); replace HB := at_ HB hb; (try clear hb); (try clear hb2); (try clear hk); (try clear hi); (try clear ho0)) | ((with_reducible refine gate_dst (N := 3) rfl ?_); refine box_event ?hg (N := 3) ?hd (cs := #[.int .i64 0, .slice none 0 0]) (t := 30) ?hr ?_; (case hd => rfl); (case hg => rfl); (case hr => first | (go_simp; done) | (go_simp; rfl)); intro gb521 hg w21 hbox hb; have BK521 := Aside0.mk hbox; have GW521 := ge_ HB hg; have GE521 := ge_ HB hg; replace HO517 := rb_ HO517 hb; replace HB := at_ HB hb; clear hb hbox hg; have hcz22_0 := cz_ BK521 0 (.int .i64 0); have hcz22_1 := cz_ BK521 1 (.slice none 0 0); have hfz22_0 := fz_ BK521 0; have hfz22_1 := fz_ BK521 1; obtain ⟨Ao23, co23, eo23⟩ := Kd.R_slice HO517.out; subst eo23) | ((with_reducible refine gate_callee (f := 19) rfl ?_); refine gl_ (some 23) Try.func19 #[.agg #[.int .i64 t514, .slice Ao23 t515.length co23], .int .i64 t518, .int .i64 t519, .int .i64 t520] ?_; (with_reducible refine (spec_Shares.calls k t514 _ _ t515 t518 t519 t520 t522 _ ?side1 ?side2 A5.out).mono ?_); (case side1 => refine (Kd.R_reads' (e := 76) (base := w.heap.size) (ok := fun k_ => True) (n := t515.length) (c := co23) ?_).2.2; exact (hs_ HO517 BK521)); (case side2 => exact (Kd.R_reads' HO517.out).2.1); rintro e w24 ⟨v523, rfl, ho0, hb⟩; refine ⟨_, rfl, ?_⟩; have HO524 := Aside0.mk (Kd.R_lower ho0 (bz_ HB)); replace HO517 := rs_ HO517 BK521 hb; replace BK521 := Aside0.mk (blk_below (g := gb521) (o := .cells #[.int .i64 t514, .slice Ao23 t515.length co23] 30 (0, 0)) (by refine bd_ ?_; refine blk_put (cs := #[.int .i64 t514, .slice none 0 0]) ?_ 1 _ rfl; refine bd_ ?_; refine blk_put (cs := #[.int .i64 0, .slice none 0 0]) ?_ 0 _ rfl; refine bd_ ?_; exact BK521.out) hb); replace HB := at_ HB hb; (try clear hb); (try clear hb2); (try clear hk); (try clear hi); (try clear ho0); have hcz25_0 := cz_ BK521 0 (.int .i64 t514); have hcz25_1 := cz_ BK521 1 (.slice Ao23 t515.length co23); have hfz25_0 := fz_ BK521 0; have hfz25_1 := fz_ BK521 1) | ((with_reducible refine gate_callee (f := 20) rfl ?_); refine gl_ (some 28) Try.func20 #[.agg #[.int .i64 t514, .slice Ao23 t515.length co23], .int .i64 t518, .int .i64 t519, .int .i64 t520] ?_; (with_reducible refine (impl_Shares.calls k t514 _ _ t515 t518 t519 t520 t525 _ ?side1 ?side2 A6.out).mono ?_); (case side1 => exact rc_ HO517); (case side2 => exact (Kd.R_reads' HO517.out).2.1); rintro e w26 ⟨v526, rfl, ho0, hb⟩; refine ⟨_, rfl, ?_⟩; have HO527 := Aside0.mk (Kd.R_lower (Kd.R_new' ho0 (Kd.R_lt (hd_ HO524))) (bz_ HB)); replace HO517 := rb_ HO517 hb; replace HO524 := Aside0.mk (Kd.R_elder' (hd_ HO524) (Kd.R_base ho0) hb); replace BK521 := ab_ BK521 hb; replace HB := at_ HB hb; (try clear hb); (try clear hb2); (try clear hk); (try clear hi); (try clear ho0); obtain ⟨Ao27, co27, eo27⟩ := Kd.R_slice HO527.out; subst eo27; obtain ⟨Ao28, co28, eo28⟩ := Kd.R_slice HO524.out; subst eo28) | ((with_reducible refine gate_callee (f := 28) rfl ?_); refine gl_ (some 31) Try.func28 #[.slice Ao27 t525.length co27, .slice Ao28 t522.length co28] ?_; (with_reducible refine (laws_same.calls k _ _ t525 _ _ t522 true _ ?side1 ?side2 ?side3 ?side4 A7.out).mono ?_); (case side1 => exact rc_ HO527); (case side2 => exact (Kd.R_reads' HO527.out).2.1); (case side3 => exact rc_ HO524); (case side4 => exact (Kd.R_reads' HO524.out).2.1); rintro e w' ⟨rfl, ⟨nd, rfl⟩⟩; refine ⟨_, rfl, ?_⟩))
 (try simp only [Act.put, List.setIfInBounds_toArray, List.set_cons_zero, List.set_cons_succ])
 go_cut [49] (fun v49 wc => ∃ (kq : Nat) (x49_18 : Bool), v49 = .bool x49_18 ∧ Aside0 (laws_FnShares.j0 kq t518 t519 t520 t525 x49_18 t514 t515 = some r) ∧ Aside0 (kq ≤ k) ∧ Aside0 (Kd.R (Kd.int .i64) 3 wc w.heap.size (fun _ => True) (.slice Ao27 t525.length co27) t525) ∧ Aside0 (Kd.R k76 76 wc w.heap.size (fun _ => True) (.slice Ao23 t515.length co23) t515) ∧ Aside0 (wc.heap[gb521]? = some (.cells #[.int .i64 t514, (.slice Ao23 t515.length co23)] 30 (0, 0))) ∧ Aside0 (Below w.heap.size w wc))
 case first =>
  have H := HC19.out
  clear HC19
  obtain ⟨c29b0, H⟩ := iq_ H
  (first | rw [c29b0] | (simp only [i64_w, i32_w]; rw [c29b0]) | skip)
  obtain ⟨c30b0, H⟩ := iq_ H
  by_cases c31 : (rd t525 t519) = t520
  rotate_left
  ·rw [if_neg c31] at H
   have c31b0 : ((rd t525 t519) == t520) = false := beq_eq_false_iff_ne.mpr c31
   have c31b1 : ((rd t525 t519) != t520) = true := bne_iff_ne.mpr c31
   have H' := Aside0.mk H
   clear H
   have p529 : 0 ≤ (t519 : Int) := oa_
   have q529 : t519 < (t525.length : Int) := oa_
   obtain ⟨ad529, e529, hx529_0⟩ := Kd.at_int (Kd.R_reads' HO527.out).2.2 t519 p529 q529
   cases e529
   replace p529 := eq_true p529
   replace q529 := eq_true q529
   go_wp2
   go_meet
   case rel => exact ⟨_, (true), er_, H', ⟨by first | omega | exact Nat.le_refl _⟩, ⟨by (with_reducible repeat (first | apply Kd.R_alloc | apply Kd.R_drewN | apply Kd.R_drew)); exact Kd.R_mono HO527.out (fun _ hk => trivial)⟩, ⟨hd_ HO517⟩, ⟨bx_ BK521⟩, ⟨bw115_⟩⟩
  rw [if_pos c31] at H
  have c31b0 : ((rd t525 t519) == t520) = true := beq_iff_eq.mpr c31
  have c31b1 : ((rd t525 t519) != t520) = false := bne_eq_false_iff_eq.mpr c31
  clear c31
  obtain ⟨c32b0, H⟩ := iq_ H
  obtain ⟨c33b0, H⟩ := iq_ H
  have H' := Aside0.mk H
  clear H
  have p529 : 0 ≤ (t519 : Int) := oa_
  have q529 : t519 < (t525.length : Int) := oa_
  obtain ⟨ad529, e529, hx529_0⟩ := Kd.at_int (Kd.R_reads' HO527.out).2.2 t519 p529 q529
  cases e529
  replace p529 := eq_true p529
  replace q529 := eq_true q529
  have p530 : 0 ≤ (t518 : Int) := oa_
  have q530 : t518 < (t525.length : Int) := oa_
  obtain ⟨ad530, e530, hx530_0⟩ := Kd.at_int (Kd.R_reads' HO527.out).2.2 t518 p530 q530
  obtain rfl : ad529 = ad530 := (by injection e530)
  replace p530 := eq_true p530
  replace q530 := eq_true q530
  go_wp2
  go_meet
  case rel => exact ⟨_, (((rd t525 t518) != t520)), er_, H', ⟨by first | omega | exact Nat.le_refl _⟩, ⟨by (with_reducible repeat (first | apply Kd.R_alloc | apply Kd.R_drewN | apply Kd.R_drew)); exact Kd.R_mono HO527.out (fun _ hk => trivial)⟩, ⟨hd_ HO517⟩, ⟨bx_ BK521⟩, ⟨bw115_⟩⟩
 case rest =>
  clear HC19
  try clear c1
  try clear c2
  try clear p2
  try clear c3
  try clear p5
  try clear q5
  try clear hx5
  try clear c8
  try clear c9
  try clear c9b0
  try clear c9b1
  try clear c9b2
  try clear c19
  try clear c20
  try clear c23
  try clear c28
  try clear c29
  try clear c29b0
  try clear c30
  try clear c30b0
  try clear c31
  try clear c31b0
  try clear c31b1
  try clear c32
  try clear c32b0
  try clear c33
  try clear c33b0
  try clear hcz12_0
  try clear hcz12_1
  try clear hcz15_0
  try clear hcz15_1
  try clear hcz22_0
  try clear hcz22_1
  try clear hcz25_0
  try clear hcz25_1
  try clear hfz12_0
  try clear hfz12_1
  try clear hfz15_0
  try clear hfz15_1
  try clear hfz22_0
  try clear hfz22_1
  try clear hfz25_0
  try clear hfz25_1
  try clear hx529_0
  try clear hx530_0
  try clear p529
  try clear p530
  try clear q529
  try clear q530
  obtain ⟨kq, x49_18, rfl, HA, HJ18, HO_8, HO_522001, BK521, HB⟩ := hcut
  cases kq with
  | zero => exact absurd HA.out (by simp [laws_FnShares.j0])
  | succ kj18 =>
   have H := HA.out
   clear HA
   simp only [laws_FnShares.j0] at H
   by_cases c34 : x49_18 = true
   ·subst c34
    rw [if_pos rfl] at H
    obtain rfl := Option.some.inj H
    go_wp2
    go_ret
    exact ⟨by first | rfl | (simp [errW_none, errW_some] <;> rfl) | (simp [*, errW_none, errW_some] <;> rfl), bw115_⟩
   replace c34 := Bool.eq_false_iff.mpr c34
   subst c34
   rw [if_neg (show ¬ (false = true) by decide)] at H
   have H' := Aside0.mk H
   clear H
   go_wp2
   go_loopg [9] kj18 (fun kq v9 w' => ∃ (x9_2 : Int), v9 = .int .i64 x9_2 ∧ Aside0 (laws_FnShares.l0 kq t518 t519 t520 t525 x9_2 t514 t515 = some r) ∧ Aside0 (kq ≤ kj18) ∧ Aside0 (Kd.R (Kd.int .i64) 3 w' w.heap.size (fun _ => True) (.slice Ao27 t525.length co27) t525) ∧ Aside0 (Kd.R k76 76 w' w.heap.size (fun _ => True) (.slice Ao23 t515.length co23) t515) ∧ Aside0 (w'.heap[gb521]? = some (.cells #[.int .i64 t514, (.slice Ao23 t515.length co23)] 30 (0, 0))) ∧ Aside0 (Below w.heap.size w w'))
   case atStart => exact ⟨(0), er_, H', ⟨Nat.le_refl _⟩, ⟨hd_ HO_8⟩, ⟨hd_ HO_522001⟩, ⟨bx_ BK521⟩, ⟨bw115_⟩⟩
   case round =>
    clear H'
    try clear c1
    try clear c2
    try clear p2
    try clear c3
    try clear p5
    try clear q5
    try clear hx5
    try clear c8
    try clear c9
    try clear c9b0
    try clear c9b1
    try clear c9b2
    try clear c19
    try clear c20
    try clear c23
    try clear c28
    try clear c29
    try clear c29b0
    try clear c30
    try clear c30b0
    try clear c31
    try clear c31b0
    try clear c31b1
    try clear c32
    try clear c32b0
    try clear c33
    try clear c33b0
    try clear c34
    try clear hcz12_0
    try clear hcz12_1
    try clear hcz15_0
    try clear hcz15_1
    try clear hcz22_0
    try clear hcz22_1
    try clear hcz25_0
    try clear hcz25_1
    try clear hfz12_0
    try clear hfz12_1
    try clear hfz15_0
    try clear hfz15_1
    try clear hfz22_0
    try clear hfz22_1
    try clear hfz25_0
    try clear hfz25_1
    try clear hx529_0
    try clear hx530_0
    try clear p2
    try clear p5
    try clear p529
    try clear p530
    try clear q5
    try clear q529
    try clear q530
    obtain ⟨x9_2, rfl, HA, HK2, HO_8, HO_522001, BK521, HB⟩ := hrel
    cases gk with
    | zero => exact absurd HA.out (by simp [laws_FnShares.l0])
    | succ k2 =>
     have H := HA.out
     clear HA
     simp only [laws_FnShares.l0] at H
     by_cases c35 : x9_2 < t514
     rotate_left
     ·rw [if_neg c35] at H
      have c35b0 : decide (x9_2 < t514) = false := decide_eq_false c35
      clear c35
      obtain rfl := Option.some.inj H
      have hcz48_0 := cz_ BK521 0 (.int .i64 t514)
      have hcz48_1 := cz_ BK521 1 (.slice Ao23 t515.length co23)
      have hfz48_0 := fz_ BK521 0
      have hfz48_1 := fz_ BK521 1
      go_wp2
      go_ret
      exact ⟨by first | rfl | (simp [errW_none, errW_some] <;> rfl) | (simp [*, errW_none, errW_some] <;> rfl), bw115_⟩
     rw [if_pos c35] at H
     have c35b0 : decide (x9_2 < t514) = true := decide_eq_true c35
     clear c35
     obtain ⟨c36b0, H⟩ := iq_ H
     obtain ⟨c37b0, H⟩ := iq_ H
     have Hh_ := Aside0.mk H
     clear H
     have hcz39_0 := cz_ BK521 0 (.int .i64 t514)
     have hcz39_1 := cz_ BK521 1 (.slice Ao23 t515.length co23)
     have hfz39_0 := fz_ BK521 0
     have hfz39_1 := fz_ BK521 1
     have p531 : 0 ≤ (x9_2 : Int) := oa_
     have q531 : x9_2 < (t525.length : Int) := oa_
     obtain ⟨ad531, e531, hx531_0⟩ := Kd.at_int (Kd.R_reads' HO_8.out).2.2 x9_2 p531 q531
     cases e531
     replace p531 := eq_true p531
     replace q531 := eq_true q531
     have H := Hh_.out
     clear Hh_
     by_cases c38 : (rd t525 x9_2) > t520
     ·rw [if_pos c38] at H
      have c38b0 : decide (t520 < (rd t525 x9_2)) = true := decide_eq_true c38
      clear c38
      obtain rfl := Option.some.inj H
      go_wp2
      go_ret
      exact ⟨by first | rfl | (simp [errW_none, errW_some] <;> rfl) | (simp [*, errW_none, errW_some] <;> rfl), bw115_⟩
     rw [if_neg c38] at H
     have c38b0 : decide (t520 < (rd t525 x9_2)) = false := decide_eq_false c38
     clear c38
     have Hh_ := Aside0.mk H
     clear H
     have p532 : 0 ≤ (x9_2 : Int) := oa_
     have q532 : x9_2 < (t525.length : Int) := oa_
     obtain ⟨ad532, e532, hx532_0⟩ := Kd.at_int (Kd.R_reads' HO_8.out).2.2 x9_2 p532 q532
     obtain rfl : ad531 = ad532 := (by injection e532)
     replace p532 := eq_true p532
     replace q532 := eq_true q532
     have H := Hh_.out
     clear Hh_
     by_cases c40 : (rd t525 x9_2) > 0
     rotate_left
     ·rw [if_neg c40] at H
      have c40b0 : decide (0 < (rd t525 x9_2)) = false := decide_eq_false c40
      clear c40
      have H' := Aside0.mk H
      clear H
      go_wp2
      go_roundg k2
      case measure => have := HJ18.out; have := HK2.out; omega
      case rel => exact ⟨(wrap64 (x9_2 + 1)), er_, H', ⟨by have := HJ18.out; have := HK2.out; omega⟩, ⟨hd_ HO_8⟩, ⟨hd_ HO_522001⟩, ⟨bx_ BK521⟩, ⟨bw115_⟩⟩
     rw [if_pos c40] at H
     have c40b0 : decide (0 < (rd t525 x9_2)) = true := decide_eq_true c40
     clear c40
     replace H := Option.bind_eq_some_iff.mp H
     obtain ⟨t533, A410, H⟩ := H
     have A41 := Aside0.mk A410
     clear A410
     by_cases c42 : t533 = true
     rotate_left
     ·replace c42 := Bool.eq_false_iff.mpr c42
      subst c42
      rw [if_neg (show ¬ (false = true) by decide)] at H
      obtain rfl := Option.some.inj H
      go_wp2_with (go_at_call 37; (with_reducible refine (impl_OnWay.calls k2 t514 _ _ t515 t518 t519 x9_2 false _ ?side1 ?side2 A41.out).mono ?_); (case side1 => exact rc_ HO_522001); (case side2 => exact (Kd.R_reads' HO_522001.out).2.1); rintro e w46 ⟨rfl, hb⟩; replace HO_8 := rb_ HO_8 hb; replace HO_522001 := rb_ HO_522001 hb; replace BK521 := ab_ BK521 hb; replace HB := at_ HB hb; (try clear hb); (try clear hb2); (try clear hk); (try clear hi))
      go_ret
      exact ⟨by first | rfl | (simp [errW_none, errW_some] <;> rfl) | (simp [*, errW_none, errW_some] <;> rfl), bw115_⟩
     subst c42
     rw [if_pos rfl] at H
     have H' := Aside0.mk H
     clear H
     go_wp2_with (go_at_call 37; (with_reducible refine (impl_OnWay.calls k2 t514 _ _ t515 t518 t519 x9_2 true _ ?side1 ?side2 A41.out).mono ?_); (case side1 => exact rc_ HO_522001); (case side2 => exact (Kd.R_reads' HO_522001.out).2.1); rintro e w44 ⟨rfl, hb⟩; replace HO_8 := rb_ HO_8 hb; replace HO_522001 := rb_ HO_522001 hb; replace BK521 := ab_ BK521 hb; replace HB := at_ HB hb; (try clear hb); (try clear hb2); (try clear hk); (try clear hi))
     go_roundg k2
     case measure => have := HJ18.out; have := HK2.out; omega
     case rel => exact ⟨(wrap64 (x9_2 + 1)), er_, H', ⟨by have := HJ18.out; have := HK2.out; omega⟩, ⟨hd_ HO_8⟩, ⟨hd_ HO_522001⟩, ⟨bx_ BK521⟩, ⟨bw115_⟩⟩

/-- THE ONE PURE STATEMENT of laws_FnShares: yours. -/
def laws_FnShares.Pure : Prop := ∀ (l0 : List Int), l0.length ≤ maxLen → l0.length * 1 ≤ 140737488351232 → (∀ x ∈ l0, (Lit.int .u8 x).wf = true) → ∃ k, laws_FnShares.f k l0 = some true
theorem laws_FnShares.walk (P : laws_FnShares.Pure) (a0 : Option Addr) (len0 cap0 : Nat) (z0 : List Int) (w : World) (w0 : (a0 = none ∧ len0 = 0 ∧ cap0 = 0 ∧ z0 = []) ∨ ∃ x, a0 = some x ∧ len0 ≤ cap0 ∧ cap0 ≤ maxLen ∧ z0.length = cap0 ∧ (∀ i, i < z0.length → w.cell? (x.add i) = some (.int .u8 (z0.getD i 0))) ∧ ∀ n ∈ z0, (Lit.int .u8 n).wf = true) (y0 : len0 * 1 ≤ 140737488351232) :
  Calls Try.prog 8 #[.slice a0 len0 cap0] w fun e w' => e = .returned (.bool true) ∧ Below w.heap.size w w' := by
 obtain ⟨l0, rfl, hr0, hm0, hw0, hc0⟩ := ReadsInt.ofRowC w0
 obtain ⟨k, h⟩ := P l0 hm0 y0 hw0
 refine (laws_FnShares.calls k _ _ l0 true w (Kd.C_of_reads (d := (0 : Int)) (h1 := fun _ => rfl) hr0) hc0 h).mono ?_
 rintro e w' ⟨rfl, hd⟩
 exact ⟨rfl, hd⟩

end Go.Proofs.Ythmahcohcphljaa.QFnShares
