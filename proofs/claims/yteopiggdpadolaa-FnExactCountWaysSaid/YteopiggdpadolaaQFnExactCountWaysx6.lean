/- Contracts of functions that the law reaches: what each call returns and what it leaves in memory. Made by this session over the print of the kit. -/
import Derived.Test.YteopiggdpadolaaQFnExactCountWaysx0
import Derived.Test.YteopiggdpadolaaQFnExactCountWaysx1
import Derived.Test.YteopiggdpadolaaQFnExactCountWaysx2
import Derived.Test.YteopiggdpadolaaQFnExactCountWaysx5
namespace Go.Proofs.Yteopiggdpadolaa.QFnExactCountWays
open Go.RowKit Go.Proofs.YteopiggdpadolaaX.PrintWords Go.Proofs.YteopiggdpadolaaX.PrintLast Go.Proofs.YteopiggdpadolaaX.PrintMore
attribute [local go_sem] max2_int min2_int max_two min_two max_three min_three max_four min_four   -- for this text's walks alone
set_option linter.unusedVariables false
set_option linter.unusedSimpArgs false

/-! ### spec_CountWays: function 41 -/
def spec_CountWays.f (k : Nat) (a0_0 : Int) (l0_1 : List (S67)) (a1 : Int) (a2 : Int) : Option (Int) := (spec_GraphOk.f k a0_0 l0_1).bind fun t204 => (if t204 = true then ((spec_l03Node.f a0_0 l0_1 a1).bind fun t205 => (if t205 = true then ((spec_l03Node.f a0_0 l0_1 a2).bind fun t206 => (if t206 = true then ((spec_l03Steps.f k a0_0 l0_1 a2).bind fun bt207 => (if 0 ≤ a1 then (if a1 < (bt207.2.length : Int) then (some (rd bt207.2 a1)) else (none)) else (none))) else (some (-1)))) else (some (-1)))) else (some (-1)))
theorem spec_CountWays.mono : ∀ a0 a1 a2 a3 k, LeO (spec_CountWays.f k a0 a1 a2 a3) (spec_CountWays.f (k + 1) a0 a1 a2 a3) := by
 intro a0 a1 a2 a3 k
 unfold spec_CountWays.f
 repeat' first
   | (with_reducible exact spec_GraphOk.mono _ _ _)
   | (with_reducible exact spec_l03Steps.mono _ _ _ _)
   | (with_reducible exact LeO.refl _)
   | (with_reducible exact LeO.none _)
   | (with_reducible refine LeO.ite ?_ ?_)
   | (with_reducible refine LeO.bind ?_ (fun _ => ?_))
   | exact spec_GraphOk.mono _ _ _
   | exact spec_l03Steps.mono _ _ _ _
   | exact LeO.none _
   | refine LeO.ite ?_ ?_
   | refine LeO.bind ?_ (fun _ => ?_)
set_option maxHeartbeats 8000000 in
set_option maxRecDepth 100000 in
theorem spec_CountWays.calls (k : Nat) (a0_0 : Int) (A0_1 : Option Addr) (c0_1 : Nat) (l0_1 : List (S67)) (a1 : Int) (a2 : Int) (r : Int) (w : World) (hr0_1 : Kd.C k67 w A0_1 l0_1.length l0_1) (hc0_1 : l0_1.length ≤ c0_1) (h : spec_CountWays.f k a0_0 l0_1 a1 a2 = some r) :
  Calls Try.prog 41 #[.agg #[.int .i64 a0_0, .slice A0_1 l0_1.length c0_1], .int .i64 a1, .int .i64 a2] w fun e w' => e = .returned (.int .i64 r) ∧ Below w.heap.size w w' := by
 have hu30 := Try.underlying30
 have HR0_1 := Aside0.mk hr0_1
 have HC0_1 := Aside0.mk hc0_1
 clear hr0_1 hc0_1
 have HB := Aside0.mk (Below.refl w.heap.size w)
 have H : ((spec_GraphOk.f k a0_0 l0_1).bind fun t204 => (if t204 = true then ((spec_l03Node.f a0_0 l0_1 a1).bind fun t205 => (if t205 = true then ((spec_l03Node.f a0_0 l0_1 a2).bind fun t206 => (if t206 = true then ((spec_l03Steps.f k a0_0 l0_1 a2).bind fun bt207 => (if 0 ≤ a1 then (if a1 < (bt207.2.length : Int) then (some (rd bt207.2 a1)) else (none)) else (none))) else (some (-1)))) else (some (-1)))) else (some (-1)))) = some r := h
 clear h
 replace H := Option.bind_eq_some_iff.mp H
 obtain ⟨t204, A40, H⟩ := H
 have A4 := Aside0.mk A40
 clear A40
 by_cases c5 : t204 = true
 ·subst c5
  rw [if_pos rfl] at H
  replace H := Option.bind_eq_some_iff.mp H
  obtain ⟨t205, A60, H⟩ := H
  have A6 := Aside0.mk A60
  clear A60
  by_cases c7 : t205 = true
  ·subst c7
   rw [if_pos rfl] at H
   replace H := Option.bind_eq_some_iff.mp H
   obtain ⟨t206, A80, H⟩ := H
   have A8 := Aside0.mk A80
   clear A80
   by_cases c9 : t206 = true
   ·subst c9
    rw [if_pos rfl] at H
    replace H := Option.bind_eq_some_iff.mp H
    obtain ⟨⟨t207, t210⟩, A100, H⟩ := H
    have A10 := Aside0.mk A100
    clear A100
    by_cases c11 : 0 ≤ a1
    ·rw [if_pos c11] at H
     have c11b0 : decide (0 ≤ a1) = true := decide_eq_true c11
     clear c11
     by_cases c12 : a1 < (t210.length : Int)
     ·rw [if_pos c12] at H
      have c12b0 : decide (a1 < (t210.length : Int)) = true := decide_eq_true c12
      clear c12
      obtain rfl := Option.some.inj H
      go_enter Try.func41, Try.ntmps41
      go_wp2_with (first | ((with_reducible refine gate_dst (N := 3) rfl ?_); refine box_event ?hg (N := 3) ?hd (cs := #[.int .i64 a0_0, .slice A0_1 l0_1.length c0_1]) (t := 30) ?hr ?_; (case hd => rfl); (case hg => rfl); (case hr => first | (go_simp; done) | (go_simp; rfl)); intro gb203 hg w13 hbox hb; have BK203 := Aside0.mk hbox; have GW203 := ge_ HB hg; have GE203 := ge_ HB hg; replace HB := Aside0.mk (bt_ HB hb); clear hb hbox hg; have hcz14_0 := cz_ BK203 0 (.int .i64 a0_0); have hcz14_1 := cz_ BK203 1 (.slice A0_1 l0_1.length c0_1); have hfz14_0 := blk_frozen BK203.out 0; have hfz14_1 := blk_frozen BK203.out 1) | ((with_reducible refine gate_callee (f := 52) rfl ?_); refine gl_ (some 10) Try.func52 #[.agg #[.int .i64 a0_0, .slice A0_1 l0_1.length c0_1]] ?_; (with_reducible refine (spec_GraphOk.calls k a0_0 _ _ l0_1 true _ ?side1 ?side2 A4.out).mono ?_); (case side1 => exact cb_ HR0_1 HB); (case side2 => exact HC0_1.out); rintro e w15 ⟨rfl, hb⟩; refine ⟨_, rfl, ?_⟩; replace BK203 := Aside0.mk (bb_ BK203 hb); replace HB := Aside0.mk (bt_ HB hb); (try clear hb); (try clear hb2); (try clear hk); (try clear hi); have hcz16_0 := cz_ BK203 0 (.int .i64 a0_0); have hcz16_1 := cz_ BK203 1 (.slice A0_1 l0_1.length c0_1); have hfz16_0 := blk_frozen BK203.out 0; have hfz16_1 := blk_frozen BK203.out 1) | (go_at_call 53; (with_reducible refine (spec_l03Node.calls a0_0 _ _ l0_1 a1 true _ ?side1 ?side2 A6.out).mono ?_); (case side1 => exact cb_ HR0_1 HB); (case side2 => exact HC0_1.out); rintro e w17 ⟨rfl, hb⟩; replace BK203 := Aside0.mk (bb_ BK203 hb); replace HB := Aside0.mk (bt_ HB hb); (try clear hb); (try clear hb2); (try clear hk); (try clear hi); have hcz18_0 := cz_ BK203 0 (.int .i64 a0_0); have hcz18_1 := cz_ BK203 1 (.slice A0_1 l0_1.length c0_1); have hfz18_0 := blk_frozen BK203.out 0; have hfz18_1 := blk_frozen BK203.out 1) | (go_at_call 53; (with_reducible refine (spec_l03Node.calls a0_0 _ _ l0_1 a2 true _ ?side1 ?side2 A8.out).mono ?_); (case side1 => exact cb_ HR0_1 HB); (case side2 => exact HC0_1.out); rintro e w19 ⟨rfl, hb⟩; replace BK203 := Aside0.mk (bb_ BK203 hb); replace HB := Aside0.mk (bt_ HB hb); (try clear hb); (try clear hb2); (try clear hk); (try clear hi); have hcz20_0 := cz_ BK203 0 (.int .i64 a0_0); have hcz20_1 := cz_ BK203 1 (.slice A0_1 l0_1.length c0_1); have hfz20_0 := blk_frozen BK203.out 0; have hfz20_1 := blk_frozen BK203.out 1) | ((with_reducible refine gate_callee (f := 73) rfl ?_); refine gl_ (some 27) Try.func73 #[.agg #[.int .i64 a0_0, .slice A0_1 l0_1.length c0_1], .int .i64 a2] ?_; (with_reducible refine (spec_l03Steps.calls k a0_0 _ _ l0_1 a2 t207 t210 _ ?side1 ?side2 A10.out).mono ?_); (case side1 => exact cb_ HR0_1 HB); (case side2 => exact HC0_1.out); rintro e w21 ⟨v208, v211, rfl, ho0, ho1, hb⟩; refine ⟨_, rfl, ?_⟩; have HO209 := Aside0.mk (Kd.R_lower ho0 (bz_ HB)); have HO212 := Aside0.mk (Kd.R_lower ho1 (bz_ HB)); replace BK203 := Aside0.mk (bb_ BK203 hb); replace HB := Aside0.mk (bt_ HB hb); (try clear hb); (try clear hb2); (try clear hk); (try clear hi); (try clear ho0); (try clear ho1); obtain ⟨Ao22, co22, eo22⟩ := Kd.R_slice HO212.out; subst eo22; have p213 : 0 ≤ (a1 : Int) := of_decide_eq_true (by first | (with_reducible assumption) | assumption); have q213 : a1 < (t210.length : Int) := of_decide_eq_true (by first | (with_reducible assumption) | assumption); obtain ⟨ad213, e213, hx213_0⟩ := Kd.at_int (Kd.R_reads' HO212.out).2.2 a1 p213 q213; cases e213; replace p213 := eq_true p213; replace q213 := eq_true q213))
      go_ret
      exact ⟨by first | rfl | (simp [errW_none, errW_some] <;> rfl) | (simp [*, errW_none, errW_some] <;> rfl), by repeat (first | (with_reducible first | exact HB.out | apply below_alloc | apply pw_below_drewN | apply below_drew1 | refine below_set ?_ GE203.out) | exact HB.out)⟩
     ·rw [if_neg c12] at H
      exact absurd H (by simp)
    ·rw [if_neg c11] at H
     exact absurd H (by simp)
   ·replace c9 := Bool.eq_false_iff.mpr c9
    subst c9
    rw [if_neg (show ¬ (false = true) by decide)] at H
    obtain rfl := Option.some.inj H
    go_enter Try.func41, Try.ntmps41
    go_wp2_with (first | ((with_reducible refine gate_dst (N := 3) rfl ?_); refine box_event ?hg (N := 3) ?hd (cs := #[.int .i64 a0_0, .slice A0_1 l0_1.length c0_1]) (t := 30) ?hr ?_; (case hd => rfl); (case hg => rfl); (case hr => first | (go_simp; done) | (go_simp; rfl)); intro gb203 hg w23 hbox hb; have BK203 := Aside0.mk hbox; have GW203 := ge_ HB hg; have GE203 := ge_ HB hg; replace HB := Aside0.mk (bt_ HB hb); clear hb hbox hg; have hcz24_0 := cz_ BK203 0 (.int .i64 a0_0); have hcz24_1 := cz_ BK203 1 (.slice A0_1 l0_1.length c0_1); have hfz24_0 := blk_frozen BK203.out 0; have hfz24_1 := blk_frozen BK203.out 1) | ((with_reducible refine gate_callee (f := 52) rfl ?_); refine gl_ (some 10) Try.func52 #[.agg #[.int .i64 a0_0, .slice A0_1 l0_1.length c0_1]] ?_; (with_reducible refine (spec_GraphOk.calls k a0_0 _ _ l0_1 true _ ?side1 ?side2 A4.out).mono ?_); (case side1 => exact cb_ HR0_1 HB); (case side2 => exact HC0_1.out); rintro e w25 ⟨rfl, hb⟩; refine ⟨_, rfl, ?_⟩; replace BK203 := Aside0.mk (bb_ BK203 hb); replace HB := Aside0.mk (bt_ HB hb); (try clear hb); (try clear hb2); (try clear hk); (try clear hi); have hcz26_0 := cz_ BK203 0 (.int .i64 a0_0); have hcz26_1 := cz_ BK203 1 (.slice A0_1 l0_1.length c0_1); have hfz26_0 := blk_frozen BK203.out 0; have hfz26_1 := blk_frozen BK203.out 1) | (go_at_call 53; (with_reducible refine (spec_l03Node.calls a0_0 _ _ l0_1 a1 true _ ?side1 ?side2 A6.out).mono ?_); (case side1 => exact cb_ HR0_1 HB); (case side2 => exact HC0_1.out); rintro e w27 ⟨rfl, hb⟩; replace BK203 := Aside0.mk (bb_ BK203 hb); replace HB := Aside0.mk (bt_ HB hb); (try clear hb); (try clear hb2); (try clear hk); (try clear hi); have hcz28_0 := cz_ BK203 0 (.int .i64 a0_0); have hcz28_1 := cz_ BK203 1 (.slice A0_1 l0_1.length c0_1); have hfz28_0 := blk_frozen BK203.out 0; have hfz28_1 := blk_frozen BK203.out 1) | (go_at_call 53; (with_reducible refine (spec_l03Node.calls a0_0 _ _ l0_1 a2 false _ ?side1 ?side2 A8.out).mono ?_); (case side1 => exact cb_ HR0_1 HB); (case side2 => exact HC0_1.out); rintro e w29 ⟨rfl, hb⟩; replace BK203 := Aside0.mk (bb_ BK203 hb); replace HB := Aside0.mk (bt_ HB hb); (try clear hb); (try clear hb2); (try clear hk); (try clear hi)))
    go_ret
    exact ⟨by first | rfl | (simp [errW_none, errW_some] <;> rfl) | (simp [*, errW_none, errW_some] <;> rfl), by repeat (first | (with_reducible first | exact HB.out | apply below_alloc | apply pw_below_drewN | apply below_drew1 | refine below_set ?_ GE203.out) | exact HB.out)⟩
  ·replace c7 := Bool.eq_false_iff.mpr c7
   subst c7
   rw [if_neg (show ¬ (false = true) by decide)] at H
   obtain rfl := Option.some.inj H
   go_enter Try.func41, Try.ntmps41
   go_wp2_with (first | ((with_reducible refine gate_dst (N := 3) rfl ?_); refine box_event ?hg (N := 3) ?hd (cs := #[.int .i64 a0_0, .slice A0_1 l0_1.length c0_1]) (t := 30) ?hr ?_; (case hd => rfl); (case hg => rfl); (case hr => first | (go_simp; done) | (go_simp; rfl)); intro gb203 hg w30 hbox hb; have BK203 := Aside0.mk hbox; have GW203 := ge_ HB hg; have GE203 := ge_ HB hg; replace HB := Aside0.mk (bt_ HB hb); clear hb hbox hg; have hcz31_0 := cz_ BK203 0 (.int .i64 a0_0); have hcz31_1 := cz_ BK203 1 (.slice A0_1 l0_1.length c0_1); have hfz31_0 := blk_frozen BK203.out 0; have hfz31_1 := blk_frozen BK203.out 1) | ((with_reducible refine gate_callee (f := 52) rfl ?_); refine gl_ (some 10) Try.func52 #[.agg #[.int .i64 a0_0, .slice A0_1 l0_1.length c0_1]] ?_; (with_reducible refine (spec_GraphOk.calls k a0_0 _ _ l0_1 true _ ?side1 ?side2 A4.out).mono ?_); (case side1 => exact cb_ HR0_1 HB); (case side2 => exact HC0_1.out); rintro e w32 ⟨rfl, hb⟩; refine ⟨_, rfl, ?_⟩; replace BK203 := Aside0.mk (bb_ BK203 hb); replace HB := Aside0.mk (bt_ HB hb); (try clear hb); (try clear hb2); (try clear hk); (try clear hi); have hcz33_0 := cz_ BK203 0 (.int .i64 a0_0); have hcz33_1 := cz_ BK203 1 (.slice A0_1 l0_1.length c0_1); have hfz33_0 := blk_frozen BK203.out 0; have hfz33_1 := blk_frozen BK203.out 1) | (go_at_call 53; (with_reducible refine (spec_l03Node.calls a0_0 _ _ l0_1 a1 false _ ?side1 ?side2 A6.out).mono ?_); (case side1 => exact cb_ HR0_1 HB); (case side2 => exact HC0_1.out); rintro e w34 ⟨rfl, hb⟩; replace BK203 := Aside0.mk (bb_ BK203 hb); replace HB := Aside0.mk (bt_ HB hb); (try clear hb); (try clear hb2); (try clear hk); (try clear hi)))
   go_ret
   exact ⟨by first | rfl | (simp [errW_none, errW_some] <;> rfl) | (simp [*, errW_none, errW_some] <;> rfl), by repeat (first | (with_reducible first | exact HB.out | apply below_alloc | apply pw_below_drewN | apply below_drew1 | refine below_set ?_ GE203.out) | exact HB.out)⟩
 ·replace c5 := Bool.eq_false_iff.mpr c5
  subst c5
  rw [if_neg (show ¬ (false = true) by decide)] at H
  obtain rfl := Option.some.inj H
  go_enter Try.func41, Try.ntmps41
  go_wp2_with (first | ((with_reducible refine gate_dst (N := 3) rfl ?_); refine box_event ?hg (N := 3) ?hd (cs := #[.int .i64 a0_0, .slice A0_1 l0_1.length c0_1]) (t := 30) ?hr ?_; (case hd => rfl); (case hg => rfl); (case hr => first | (go_simp; done) | (go_simp; rfl)); intro gb203 hg w35 hbox hb; have BK203 := Aside0.mk hbox; have GW203 := ge_ HB hg; have GE203 := ge_ HB hg; replace HB := Aside0.mk (bt_ HB hb); clear hb hbox hg; have hcz36_0 := cz_ BK203 0 (.int .i64 a0_0); have hcz36_1 := cz_ BK203 1 (.slice A0_1 l0_1.length c0_1); have hfz36_0 := blk_frozen BK203.out 0; have hfz36_1 := blk_frozen BK203.out 1) | ((with_reducible refine gate_callee (f := 52) rfl ?_); refine gl_ (some 10) Try.func52 #[.agg #[.int .i64 a0_0, .slice A0_1 l0_1.length c0_1]] ?_; (with_reducible refine (spec_GraphOk.calls k a0_0 _ _ l0_1 false _ ?side1 ?side2 A4.out).mono ?_); (case side1 => exact cb_ HR0_1 HB); (case side2 => exact HC0_1.out); rintro e w37 ⟨rfl, hb⟩; refine ⟨_, rfl, ?_⟩; replace BK203 := Aside0.mk (bb_ BK203 hb); replace HB := Aside0.mk (bt_ HB hb); (try clear hb); (try clear hb2); (try clear hk); (try clear hi)))
  go_ret
  exact ⟨by first | rfl | (simp [errW_none, errW_some] <;> rfl) | (simp [*, errW_none, errW_some] <;> rfl), by repeat (first | (with_reducible first | exact HB.out | apply below_alloc | apply pw_below_drewN | apply below_drew1 | refine below_set ?_ GE203.out) | exact HB.out)⟩

/-! ### impl_within: function 57 -/
def impl_within.f (a0 : Int) (a1 : Int) (a2 : Int) : Option (Bool) := if a0 ≥ a1 then (some (decide (a0 ≤ a2))) else (some false)
set_option maxHeartbeats 8000000 in
set_option maxRecDepth 100000 in
theorem impl_within.calls (a0 : Int) (a1 : Int) (a2 : Int) (r : Bool) (w : World) (h : impl_within.f a0 a1 a2 = some r) :
  Calls Try.prog 57 #[.int .i64 a0, .int .i64 a1, .int .i64 a2] w fun e w' => e = .returned (.bool r) ∧ Drawn0 w w' := by
 have H : (if a0 ≥ a1 then (some (decide (a0 ≤ a2))) else (some false)) = some r := h
 clear h
 by_cases c4 : a0 ≥ a1
 ·rw [if_pos c4] at H
  have c4b0 : decide (a1 ≤ a0) = true := decide_eq_true c4
  clear c4
  obtain rfl := Option.some.inj H
  go_enter Try.func57, Try.ntmps57
  go_wp2
  go_ret
  exact ⟨by first | rfl | (simp; done) | (simp [*]; done), by repeat (first | exact Drawn0.refl _ | apply Drawn0.step)⟩
 ·rw [if_neg c4] at H
  have c4b0 : decide (a1 ≤ a0) = false := decide_eq_false c4
  clear c4
  obtain rfl := Option.some.inj H
  go_enter Try.func57, Try.ntmps57
  go_wp2
  go_ret
  exact ⟨by first | rfl | (simp; done) | (simp [*]; done), by repeat (first | exact Drawn0.refl _ | apply Drawn0.step)⟩

/-! ### impl_Graph_isNode: function 58 -/
def impl_Graph_isNode.f (a0_0 : Int) (l0_1 : List (S67)) (a1 : Int) : Option (Bool) := (impl_within.f a1 0 (wrap64 (a0_0 - 1))).bind fun t215 => (some t215)
set_option maxHeartbeats 8000000 in
set_option maxRecDepth 100000 in
theorem impl_Graph_isNode.calls (a0_0 : Int) (A0_1 : Option Addr) (c0_1 : Nat) (l0_1 : List (S67)) (a1 : Int) (r : Bool) (w : World) (hr0_1 : Kd.C k67 w A0_1 l0_1.length l0_1) (hc0_1 : l0_1.length ≤ c0_1) (h : impl_Graph_isNode.f a0_0 l0_1 a1 = some r) :
  Calls Try.prog 58 #[.agg #[.int .i64 a0_0, .slice A0_1 l0_1.length c0_1], .int .i64 a1] w fun e w' => e = .returned (.bool r) ∧ Below w.heap.size w w' := by
 have hu30 := Try.underlying30
 have HR0_1 := Aside0.mk hr0_1
 have HC0_1 := Aside0.mk hc0_1
 clear hr0_1 hc0_1
 have HB := Aside0.mk (Below.refl w.heap.size w)
 have H : ((impl_within.f a1 0 (wrap64 (a0_0 - 1))).bind fun t215 => (some t215)) = some r := h
 clear h
 replace H := Option.bind_eq_some_iff.mp H
 obtain ⟨t215, A30, H⟩ := H
 have A3 := Aside0.mk A30
 clear A30
 obtain rfl := Option.some.inj H
 go_enter Try.func58, Try.ntmps58
 go_wp2_with (first | ((with_reducible refine gate_dst (N := 2) rfl ?_); refine box_event ?hg (N := 2) ?hd (cs := #[.int .i64 a0_0, .slice A0_1 l0_1.length c0_1]) (t := 30) ?hr ?_; (case hd => rfl); (case hg => rfl); (case hr => first | (go_simp; done) | (go_simp; rfl)); intro gb214 hg w4 hbox hb; have BK214 := Aside0.mk hbox; have GW214 := ge_ HB hg; have GE214 := ge_ HB hg; replace HB := Aside0.mk (bt_ HB hb); clear hb hbox hg; have hcz5_0 := cz_ BK214 0 (.int .i64 a0_0); have hcz5_1 := cz_ BK214 1 (.slice A0_1 l0_1.length c0_1); have hfz5_0 := blk_frozen BK214.out 0; have hfz5_1 := blk_frozen BK214.out 1) | ((with_reducible refine gate_callee (f := 57) rfl ?_); refine gl_ (some 9) Try.func57 #[.int .i64 a1, .int .i64 0, .int .i64 (wrap64 (a0_0 - 1))] ?_; (with_reducible refine (impl_within.calls a1 0 (wrap64 (a0_0 - 1)) t215 _ A3.out).mono ?_); rintro e w' ⟨rfl, ⟨nd, rfl⟩⟩; refine ⟨_, rfl, ?_⟩))
 go_ret
 exact ⟨by first | rfl | (simp [errW_none, errW_some] <;> rfl) | (simp [*, errW_none, errW_some] <;> rfl), by repeat (first | (with_reducible first | exact HB.out | apply below_alloc | apply pw_below_drewN | apply below_drew1 | refine below_set ?_ GE214.out) | exact HB.out)⟩

/-! ### impl_compareEdges: function 82 -/
def impl_compareEdges.f (a0_0 : Int) (a0_1 : Int) (a0_2 : Int) (a1_0 : Int) (a1_1 : Int) (a1_2 : Int) : Option (Int) := if a0_0 = a1_0 then (some (wrap64 (a0_1 - a1_1))) else (some (wrap64 (a0_0 - a1_0)))
set_option maxHeartbeats 8000000 in
set_option maxRecDepth 100000 in
theorem impl_compareEdges.calls (a0_0 : Int) (a0_1 : Int) (a0_2 : Int) (a1_0 : Int) (a1_1 : Int) (a1_2 : Int) (r : Int) (w : World) (h : impl_compareEdges.f a0_0 a0_1 a0_2 a1_0 a1_1 a1_2 = some r) :
  Calls Try.prog 82 #[.agg #[.int .i64 a0_0, .int .i64 a0_1, .int .i64 a0_2], .agg #[.int .i64 a1_0, .int .i64 a1_1, .int .i64 a1_2]] w fun e w' => e = .returned (.int .i64 r) ∧ Below w.heap.size w w' := by
 have hu67 := Try.underlying67
 have HB := Aside0.mk (Below.refl w.heap.size w)
 have H : (if a0_0 = a1_0 then (some (wrap64 (a0_1 - a1_1))) else (some (wrap64 (a0_0 - a1_0)))) = some r := h
 clear h
 by_cases c3 : a0_0 = a1_0
 ·rw [if_pos c3] at H
  have c3b0 : (a0_0 == a1_0) = true := beq_iff_eq.mpr c3
  have c3b1 : (a0_0 != a1_0) = false := bne_eq_false_iff_eq.mpr c3
  clear c3
  obtain rfl := Option.some.inj H
  go_enter Try.func82, Try.ntmps82
  go_wp2_with (first | ((with_reducible refine gate_dst (N := 2) rfl ?_); refine box_event ?hg (N := 2) ?hd (cs := #[.int .i64 a0_0, .int .i64 a0_1, .int .i64 a0_2]) (t := 67) ?hr ?_; (case hd => rfl); (case hg => rfl); (case hr => first | (go_simp; done) | (go_simp; rfl)); intro gb216 hg w4 hbox hb; have BK216 := Aside0.mk hbox; have GW216 := ge_ HB hg; have GE216 := ge_ HB hg; replace HB := Aside0.mk (bt_ HB hb); clear hb hbox hg) | ((with_reducible refine gate_dst (N := 3) rfl ?_); refine box_event ?hg (N := 3) ?hd (cs := #[.int .i64 a1_0, .int .i64 a1_1, .int .i64 a1_2]) (t := 67) ?hr ?_; (case hd => rfl); (case hg => rfl); (case hr => first | (go_simp; done) | (go_simp; rfl)); intro gb217 hg w5 hbox hb; have BK217 := Aside0.mk hbox; have GW217 := ge_ HB hg; have GE217 := ge_ HB hg; have NB216_217 := nl_ BK216 hg; have NB217_216 := ng_ BK216 hg; replace HB := Aside0.mk (bt_ HB hb); replace BK216 := Aside0.mk (bb_ BK216 hb); clear hb hbox hg; have hnb6 := NB216_217.out; have hnc6 := NB217_216.out; have hcz7_0 := cz_ BK216 0 (.int .i64 a0_0); have hcz7_1 := cz_ BK216 1 (.int .i64 a0_1); have hcz7_2 := cz_ BK216 2 (.int .i64 a0_2); have hfz7_0 := blk_frozen BK216.out 0; have hfz7_1 := blk_frozen BK216.out 1; have hfz7_2 := blk_frozen BK216.out 2; have hcz8_0 := cz_ BK217 0 (.int .i64 a1_0); have hcz8_1 := cz_ BK217 1 (.int .i64 a1_1); have hcz8_2 := cz_ BK217 2 (.int .i64 a1_2); have hfz8_0 := blk_frozen BK217.out 0; have hfz8_1 := blk_frozen BK217.out 1; have hfz8_2 := blk_frozen BK217.out 2))
  go_ret
  exact ⟨by first | rfl | (simp [errW_none, errW_some] <;> rfl) | (simp [*, errW_none, errW_some] <;> rfl), by repeat (first | (with_reducible first | exact HB.out | apply below_alloc | apply pw_below_drewN | apply below_drew1 | refine below_set ?_ GE216.out | refine below_set ?_ GE217.out) | exact HB.out)⟩
 ·rw [if_neg c3] at H
  have c3b0 : (a0_0 == a1_0) = false := beq_eq_false_iff_ne.mpr c3
  have c3b1 : (a0_0 != a1_0) = true := bne_iff_ne.mpr c3
  obtain rfl := Option.some.inj H
  go_enter Try.func82, Try.ntmps82
  go_wp2_with (first | ((with_reducible refine gate_dst (N := 2) rfl ?_); refine box_event ?hg (N := 2) ?hd (cs := #[.int .i64 a0_0, .int .i64 a0_1, .int .i64 a0_2]) (t := 67) ?hr ?_; (case hd => rfl); (case hg => rfl); (case hr => first | (go_simp; done) | (go_simp; rfl)); intro gb216 hg w9 hbox hb; have BK216 := Aside0.mk hbox; have GW216 := ge_ HB hg; have GE216 := ge_ HB hg; replace HB := Aside0.mk (bt_ HB hb); clear hb hbox hg) | ((with_reducible refine gate_dst (N := 3) rfl ?_); refine box_event ?hg (N := 3) ?hd (cs := #[.int .i64 a1_0, .int .i64 a1_1, .int .i64 a1_2]) (t := 67) ?hr ?_; (case hd => rfl); (case hg => rfl); (case hr => first | (go_simp; done) | (go_simp; rfl)); intro gb217 hg w10 hbox hb; have BK217 := Aside0.mk hbox; have GW217 := ge_ HB hg; have GE217 := ge_ HB hg; have NB216_217 := nl_ BK216 hg; have NB217_216 := ng_ BK216 hg; replace HB := Aside0.mk (bt_ HB hb); replace BK216 := Aside0.mk (bb_ BK216 hb); clear hb hbox hg; have hnb11 := NB216_217.out; have hnc11 := NB217_216.out; have hcz12_0 := cz_ BK216 0 (.int .i64 a0_0); have hcz12_1 := cz_ BK216 1 (.int .i64 a0_1); have hcz12_2 := cz_ BK216 2 (.int .i64 a0_2); have hfz12_0 := blk_frozen BK216.out 0; have hfz12_1 := blk_frozen BK216.out 1; have hfz12_2 := blk_frozen BK216.out 2; have hcz13_0 := cz_ BK217 0 (.int .i64 a1_0); have hcz13_1 := cz_ BK217 1 (.int .i64 a1_1); have hcz13_2 := cz_ BK217 2 (.int .i64 a1_2); have hfz13_0 := blk_frozen BK217.out 0; have hfz13_1 := blk_frozen BK217.out 1; have hfz13_2 := blk_frozen BK217.out 2))
  go_ret
  exact ⟨by first | rfl | (simp [errW_none, errW_some] <;> rfl) | (simp [*, errW_none, errW_some] <;> rfl), by repeat (first | (with_reducible first | exact HB.out | apply below_alloc | apply pw_below_drewN | apply below_drew1 | refine below_set ?_ GE216.out | refine below_set ?_ GE217.out) | exact HB.out)⟩

end Go.Proofs.Yteopiggdpadolaa.QFnExactCountWays
