/- Contracts of functions that the law reaches: what each call returns and what it leaves in memory. Made by this session over the print of the kit. -/
import Derived.Test.YthmahcohcphljaaQFnCheapestx0
namespace Go.Proofs.Ythmahcohcphljaa.QFnCheapest
open Go.RowKit Go.Proofs.YthmahcohcphljaaC.PrintWords Go.Proofs.YthmahcohcphljaaC.PrintLast Go.Proofs.YthmahcohcphljaaC.PrintMore
attribute [local go_sem] max2_int min2_int max_two min_two max_three min_three max_four min_four
set_option linter.unusedVariables false
set_option linter.unusedSimpArgs false
def laws_big.f (l0 : List Int) : Option (Bool) := some (decide ((l0.length : Int) > 1048576))
set_option maxHeartbeats 8000000 in
set_option maxRecDepth 100000 in
theorem laws_big.calls (A0 : Option Addr) (c0 : Nat) (l0 : List Int) (r : Bool) (w : World) (hr0 : Kd.C (Kd.int .u8) w A0 l0.length l0) (hc0 : l0.length ≤ c0) (h : laws_big.f l0 = some r) :
  Calls Try.prog 23 #[.slice A0 l0.length c0] w fun e w' => e = .returned (.bool r) ∧ Drawn0 w w' := by
 have HR0 := Aside0.mk hr0
 have HC0 := Aside0.mk hc0
 clear hr0 hc0
 have H : (some (decide ((l0.length : Int) > 1048576))) = some r := h
 clear h
 obtain rfl := Option.some.inj H
 go_enter Try.func23, Try.ntmps23
 go_wp2
 go_ret
 exact ⟨by first | rfl | (simp; done) | (simp [*]; done), by repeat (first | exact Drawn0.refl _ | apply Drawn0.step)⟩
def laws_same.l0 : Nat → List Int → List Int → Int → Option (Bool)
 | 0, _, _, _ => none
 | k + 1, x0, x1, x5 => if x5 < (x0.length : Int) then (if 0 ≤ x5 then (if x5 < (x1.length : Int) then (if (rd x0 x5) = (rd x1 x5) then (laws_same.l0 k x0 x1 (wrap64 (x5 + 1))) else (some false)) else (none)) else (none)) else (some true)
def laws_same.f (k : Nat) (l0 : List Int) (l1 : List Int) : Option (Bool) := if (l0.length : Int) = (l1.length : Int) then (laws_same.l0 k l0 l1 0) else (some false)
set_option maxHeartbeats 8000000 in
set_option maxRecDepth 100000 in
theorem laws_same.calls (k : Nat) (A0 : Option Addr) (c0 : Nat) (l0 : List Int) (A1 : Option Addr) (c1 : Nat) (l1 : List Int) (r : Bool) (w : World) (hr0 : Kd.C (Kd.int .i64) w A0 l0.length l0) (hc0 : l0.length ≤ c0) (hr1 : Kd.C (Kd.int .i64) w A1 l1.length l1) (hc1 : l1.length ≤ c1) (h : laws_same.f k l0 l1 = some r) :
  Calls Try.prog 28 #[.slice A0 l0.length c0, .slice A1 l1.length c1] w fun e w' => e = .returned (.bool r) ∧ Drawn0 w w' := by
 have HR0 := Aside0.mk hr0
 have HC0 := Aside0.mk hc0
 clear hr0 hc0
 have HR1 := Aside0.mk hr1
 have HC1 := Aside0.mk hc1
 clear hr1 hc1
 have H : (if (l0.length : Int) = (l1.length : Int) then (laws_same.l0 k l0 l1 0) else (some false)) = some r := h
 clear h
 by_cases c3 : (l0.length : Int) = (l1.length : Int)
 rotate_left
 ·rw [if_neg c3] at H
  have c3b0 : ((l0.length : Int) == (l1.length : Int)) = false := beq_eq_false_iff_ne.mpr c3
  have c3b1 : ((l0.length : Int) != (l1.length : Int)) = true := bne_iff_ne.mpr c3
  have c3b2 : (l0.length == l1.length) = false := by first | simpa using c3 | (simp at c3 ⊢; omega)
  obtain rfl := Option.some.inj H
  go_enter Try.func28, Try.ntmps28
  go_wp2
  repeat (go_quiet (fail); try go_wp2)
  go_ret
  exact ⟨by first | rfl | (simp; done) | (simp [*]; done), by repeat (first | exact Drawn0.refl _ | apply Drawn0.step)⟩
 rw [if_pos c3] at H
 have c3b0 : ((l0.length : Int) == (l1.length : Int)) = true := beq_iff_eq.mpr c3
 have c3b1 : ((l0.length : Int) != (l1.length : Int)) = false := bne_eq_false_iff_eq.mpr c3
 have c3b2 : (l0.length == l1.length) = true := by first | simpa using c3 | (simp at c3 ⊢; omega)
 clear c3
 have H' := Aside0.mk H
 clear H
 go_enter Try.func28, Try.ntmps28
 go_wp2
 repeat (go_quiet (fail); try go_wp2)
 go_loopg [5] k (fun kq v5 w' => ∃ (x5_1 : Int), v5 = .int .i64 x5_1 ∧ Aside0 (laws_same.l0 kq l0 l1 x5_1 = some r) ∧ Aside0 (kq ≤ k) ∧ Drawn0 w w')
 case atStart => exact ⟨(0), er_, H', ⟨Nat.le_refl _⟩, by repeat (first | exact Drawn0.refl _ | apply Drawn0.step)⟩
 clear H' c3b0 c3b1 c3b2
 obtain ⟨x5_1, rfl, HA, HK1, ⟨m1, rfl⟩⟩ := hrel
 cases gk with
 | zero => exact absurd HA.out (by simp [laws_same.l0])
 | succ k1 =>
  have H := HA.out
  clear HA
  simp only [laws_same.l0] at H
  by_cases c4 : x5_1 < (l0.length : Int)
  rotate_left
  ·rw [if_neg c4] at H
   have c4b0 : decide (x5_1 < (l0.length : Int)) = false := decide_eq_false c4
   clear c4
   obtain rfl := Option.some.inj H
   go_wp2
   repeat (go_quiet (fail); try go_wp2)
   go_ret
   exact ⟨by first | rfl | (simp; done) | (simp [*]; done), by repeat (first | exact Drawn0.refl _ | apply Drawn0.step)⟩
  rw [if_pos c4] at H
  have c4b0 : decide (x5_1 < (l0.length : Int)) = true := decide_eq_true c4
  clear c4
  obtain ⟨c5b0, H⟩ := iq_ H
  obtain ⟨c6b0, H⟩ := iq_ H
  by_cases c7 : (rd l0 x5_1) = (rd l1 x5_1)
  rotate_left
  ·rw [if_neg c7] at H
   have c7b0 : ((rd l0 x5_1) == (rd l1 x5_1)) = false := beq_eq_false_iff_ne.mpr c7
   have c7b1 : ((rd l0 x5_1) != (rd l1 x5_1)) = true := bne_iff_ne.mpr c7
   obtain rfl := Option.some.inj H
   have p101 : 0 ≤ (x5_1 : Int) := oa_
   have q101 : x5_1 < (l0.length : Int) := oa_
   obtain ⟨ad101, e101, hx101_0⟩ := Kd.at_int HR0.out x5_1 p101 q101
   cases e101
   obtain ⟨p101, q101⟩ := et_ p101 q101
   have p102 : 0 ≤ (x5_1 : Int) := oa_
   have q102 : x5_1 < (l1.length : Int) := oa_
   obtain ⟨ad102, e102, hx102_0⟩ := Kd.at_int HR1.out x5_1 p102 q102
   cases e102
   obtain ⟨p102, q102⟩ := et_ p102 q102
   go_wp2
   repeat (go_quiet (fail); try go_wp2)
   go_ret
   exact ⟨by first | rfl | (simp; done) | (simp [*]; done), by repeat (first | exact Drawn0.refl _ | apply Drawn0.step)⟩
  rw [if_pos c7] at H
  have c7b0 : ((rd l0 x5_1) == (rd l1 x5_1)) = true := beq_iff_eq.mpr c7
  have c7b1 : ((rd l0 x5_1) != (rd l1 x5_1)) = false := bne_eq_false_iff_eq.mpr c7
  clear c7
  have H' := Aside0.mk H
  clear H
  have p101 : 0 ≤ (x5_1 : Int) := oa_
  have q101 : x5_1 < (l0.length : Int) := oa_
  obtain ⟨ad101, e101, hx101_0⟩ := Kd.at_int HR0.out x5_1 p101 q101
  cases e101
  obtain ⟨p101, q101⟩ := et_ p101 q101
  have p102 : 0 ≤ (x5_1 : Int) := oa_
  have q102 : x5_1 < (l1.length : Int) := oa_
  obtain ⟨ad102, e102, hx102_0⟩ := Kd.at_int HR1.out x5_1 p102 q102
  cases e102
  obtain ⟨p102, q102⟩ := et_ p102 q102
  go_wp2
  repeat (go_quiet (fail); try go_wp2)
  go_roundg k1
  case measure => have := HK1.out; omega
  case rel => exact ⟨(wrap64 (x5_1 + 1)), er_, H', ⟨by have := HK1.out; omega⟩, by repeat (first | exact Drawn0.refl _ | apply Drawn0.step)⟩
def spec_l01In.f (a0 : Int) (a1 : Int) (a2 : Int) : Option (Bool) := if a1 ≤ a0 then (some (decide (a0 ≤ a2))) else (some false)
set_option maxHeartbeats 8000000 in
set_option maxRecDepth 100000 in
theorem spec_l01In.calls (a0 : Int) (a1 : Int) (a2 : Int) (r : Bool) (w : World) (h : spec_l01In.f a0 a1 a2 = some r) :
  Calls Try.prog 52 #[.int .i64 a0, .int .i64 a1, .int .i64 a2] w fun e w' => e = .returned (.bool r) ∧ Drawn0 w w' := by
 have H : (if a1 ≤ a0 then (some (decide (a0 ≤ a2))) else (some false)) = some r := h
 clear h
 by_cases c4 : a1 ≤ a0
 ·rw [if_pos c4] at H
  have c4b0 : decide (a1 ≤ a0) = true := decide_eq_true c4
  clear c4
  obtain rfl := Option.some.inj H
  go_enter Try.func52, Try.ntmps52
  go_wp2
  go_ret
  exact ⟨by first | rfl | (simp; done) | (simp [*]; done), by repeat (first | exact Drawn0.refl _ | apply Drawn0.step)⟩
 rw [if_neg c4] at H
 have c4b0 : decide (a1 ≤ a0) = false := decide_eq_false c4
 clear c4
 obtain rfl := Option.some.inj H
 go_enter Try.func52, Try.ntmps52
 go_wp2
 go_ret
 exact ⟨by first | rfl | (simp; done) | (simp [*]; done), by repeat (first | exact Drawn0.refl _ | apply Drawn0.step)⟩
def spec_l03Node.f (a0_0 : Int) (l0_1 : List (S76)) (a1 : Int) : Option (Bool) := (spec_l01In.f a1 0 (wrap64 (a0_0 - 1))).bind fun t104 => (some t104)
set_option maxHeartbeats 8000000 in
set_option maxRecDepth 100000 in
theorem spec_l03Node.calls (a0_0 : Int) (A0_1 : Option Addr) (c0_1 : Nat) (l0_1 : List (S76)) (a1 : Int) (r : Bool) (w : World) (hr0_1 : Kd.C k76 w A0_1 l0_1.length l0_1) (hc0_1 : l0_1.length ≤ c0_1) (h : spec_l03Node.f a0_0 l0_1 a1 = some r) :
  Calls Try.prog 45 #[.agg #[.int .i64 a0_0, .slice A0_1 l0_1.length c0_1], .int .i64 a1] w fun e w' => e = .returned (.bool r) ∧ Below w.heap.size w w' := by
 have hu30 := Try.underlying30
 have HR0_1 := Aside0.mk hr0_1
 have HC0_1 := Aside0.mk hc0_1
 clear hr0_1 hc0_1
 have HB := Aside0.mk (Below.refl w.heap.size w)
 have H : ((spec_l01In.f a1 0 (wrap64 (a0_0 - 1))).bind fun t104 => (some t104)) = some r := h
 clear h
 obtain ⟨t104, A3, H⟩ := ob_ H
 obtain rfl := Option.some.inj H
 go_enter Try.func45, Try.ntmps45
 go_wp2_with (first | ((with_reducible refine gate_dst (N := 2) rfl ?_); refine be_ 2 #[.int .i64 a0_0, .slice A0_1 l0_1.length c0_1] 30 ?_; intro gb103 hg w4 BK103 hb; have GW103 := ge_ HB hg; have GE103 := ge_ HB hg; replace HB := at_ HB hb; clear hb hg; have hcz5_0 := cz_ BK103 0 (.int .i64 a0_0); have hcz5_1 := cz_ BK103 1 (.slice A0_1 l0_1.length c0_1); have hfz5_0 := fz_ BK103 0; have hfz5_1 := fz_ BK103 1) | ((with_reducible refine gate_callee (f := 52) rfl ?_); refine gl_ (some 9) Try.func52 #[.int .i64 a1, .int .i64 0, .int .i64 (wrap64 (a0_0 - 1))] ?_; (with_reducible refine (spec_l01In.calls a1 0 (wrap64 (a0_0 - 1)) t104 _ A3.out).mono ?_); rintro e w' ⟨rfl, ⟨nd, rfl⟩⟩; refine ⟨_, rfl, ?_⟩))
 go_ret
 exact ⟨ew_, bw_⟩
mutual
def spec_GraphOk.j0 : Nat → Bool → Int → List (S76) → Option (Bool)
 | 0, _, _, _ => none
 | k + 1, x15, x106000, x106001 => if x15 = true then (some false) else (spec_GraphOk.l0 k 0 x106000 x106001)
def spec_GraphOk.l0 : Nat → Int → Int → List (S76) → Option (Bool)
 | 0, _, _, _ => none
 | k + 1, x3, x106000, x106001 => if x3 < (x106001.length : Int) then (if 0 ≤ x3 then ((spec_l03Node.f x106000 x106001 ((rd_T76 x106001 x3).f0)).bind fun t109 => (if t109 = true then ((spec_l03Node.f x106000 x106001 ((rd_T76 x106001 x3).f1)).bind fun t110 => (if t110 = true then (if ((rd_T76 x106001 x3).f0) = ((rd_T76 x106001 x3).f1) then (spec_GraphOk.j2 k x3 true x106000 x106001 ((rd_T76 x106001 x3).f0) ((rd_T76 x106001 x3).f1) ((rd_T76 x106001 x3).f2)) else ((spec_l01In.f ((rd_T76 x106001 x3).f2) 1 1000).bind fun t111 => (spec_GraphOk.j2 k x3 (!t111) x106000 x106001 ((rd_T76 x106001 x3).f0) ((rd_T76 x106001 x3).f1) ((rd_T76 x106001 x3).f2)))) else (spec_GraphOk.j2 k x3 true x106000 x106001 ((rd_T76 x106001 x3).f0) ((rd_T76 x106001 x3).f1) ((rd_T76 x106001 x3).f2)))) else (spec_GraphOk.j2 k x3 true x106000 x106001 ((rd_T76 x106001 x3).f0) ((rd_T76 x106001 x3).f1) ((rd_T76 x106001 x3).f2)))) else (none)) else (some true)
def spec_GraphOk.j2 : Nat → Int → Bool → Int → List (S76) → Int → Int → Int → Option (Bool)
 | 0, _, _, _, _, _, _, _ => none
 | k + 1, x3, x52, x106000, x106001, x109000, x109001, x109002 => if x52 = true then (some false) else (if x3 > 0 then (if 0 ≤ (wrap64 (x3 - 1)) then (if (wrap64 (x3 - 1)) < (x106001.length : Int) then (if ((rd_T76 x106001 (wrap64 (x3 - 1))).f0) > x109000 then (some false) else (if ((rd_T76 x106001 (wrap64 (x3 - 1))).f0) = x109000 then (if ((rd_T76 x106001 (wrap64 (x3 - 1))).f1) ≥ x109001 then (some false) else (spec_GraphOk.l0 k (wrap64 (x3 + 1)) x106000 x106001)) else (spec_GraphOk.l0 k (wrap64 (x3 + 1)) x106000 x106001))) else (none)) else (none)) else (spec_GraphOk.l0 k (wrap64 (x3 + 1)) x106000 x106001))
end
def spec_GraphOk.f (k : Nat) (a0_0 : Int) (l0_1 : List (S76)) : Option (Bool) := (spec_l01In.f a0_0 1 10).bind fun t106 => (if t106 = true then (spec_GraphOk.j0 k (decide ((l0_1.length : Int) > 60)) a0_0 l0_1) else (spec_GraphOk.j0 k true a0_0 l0_1))
set_option maxHeartbeats 8000000 in
set_option maxRecDepth 100000 in
theorem spec_GraphOk.calls (k : Nat) (a0_0 : Int) (A0_1 : Option Addr) (c0_1 : Nat) (l0_1 : List (S76)) (r : Bool) (w : World) (hr0_1 : Kd.C k76 w A0_1 l0_1.length l0_1) (hc0_1 : l0_1.length ≤ c0_1) (h : spec_GraphOk.f k a0_0 l0_1 = some r) :
  Calls Try.prog 25 #[.agg #[.int .i64 a0_0, .slice A0_1 l0_1.length c0_1]] w fun e w' => e = .returned (.bool r) ∧ Below w.heap.size w w' := by
 have hu30 := Try.underlying30
 have hu76 := Try.underlying76
 have HR0_1 := Aside0.mk hr0_1
 have HC0_1 := Aside0.mk hc0_1
 clear hr0_1 hc0_1
 have HB := Aside0.mk (Below.refl w.heap.size w)
 have H : ((spec_l01In.f a0_0 1 10).bind fun t106 => (if t106 = true then (spec_GraphOk.j0 k (decide ((l0_1.length : Int) > 60)) a0_0 l0_1) else (spec_GraphOk.j0 k true a0_0 l0_1))) = some r := h
 clear h
 have HC2 := Aside0.mk H
 clear H
 go_enter Try.func25, Try.ntmps25
 go_upto_region 1 with ((with_reducible refine gate_dst (N := 1) rfl ?_); refine be_ 1 #[.int .i64 a0_0, .slice A0_1 l0_1.length c0_1] 30 ?_; intro gb105 hg w3 BK105 hb; have GW105 := ge_ HB hg; have GE105 := ge_ HB hg; replace HB := at_ HB hb; clear hb hg)
 (try simp only [Act.put, List.setIfInBounds_toArray, List.set_cons_zero, List.set_cons_succ])
 go_cut [15] (fun v15 wc => ∃ (kq : Nat) (x15_1 : Bool), v15 = .bool x15_1 ∧ Aside0 (spec_GraphOk.j0 kq x15_1 a0_0 l0_1 = some r) ∧ Aside0 (kq ≤ k) ∧ Aside0 (wc.heap[gb105]? = some (.cells #[.int .i64 a0_0, (.slice A0_1 l0_1.length c0_1)] 30 (0, 0))) ∧ Aside0 (Below w.heap.size w wc))
 case first =>
  have H := HC2.out
  clear HC2
  obtain ⟨t106, A4, H⟩ := ob_ H
  by_cases c5 : t106 = true
  ·subst c5
   rw [if_pos rfl] at H
   have H' := Aside0.mk H
   clear H
   have hcz6_0 := cz_ BK105 0 (.int .i64 a0_0)
   have hcz6_1 := cz_ BK105 1 (.slice A0_1 l0_1.length c0_1)
   have hfz6_0 := fz_ BK105 0
   have hfz6_1 := fz_ BK105 1
   go_wp2_with ((with_reducible refine gate_callee (f := 52) rfl ?_); refine gl_ (some 8) Try.func52 #[.int .i64 a0_0, .int .i64 1, .int .i64 10] ?_; (with_reducible refine (spec_l01In.calls a0_0 1 10 true _ A4.out).mono ?_); rintro e w' ⟨rfl, ⟨nd, rfl⟩⟩; refine ⟨_, rfl, ?_⟩)
   go_meet
   case rel => exact ⟨_, (decide ((l0_1.length : Int) > 60)), er_, H', ⟨by first | omega | exact Nat.le_refl _⟩, ⟨bx_ BK105⟩, ⟨bw_⟩⟩
  replace c5 := Bool.eq_false_iff.mpr c5
  subst c5
  rw [if_neg (show ¬ (false = true) by decide)] at H
  have H' := Aside0.mk H
  clear H
  have hcz7_0 := cz_ BK105 0 (.int .i64 a0_0)
  have hcz7_1 := cz_ BK105 1 (.slice A0_1 l0_1.length c0_1)
  have hfz7_0 := fz_ BK105 0
  have hfz7_1 := fz_ BK105 1
  go_wp2_with ((with_reducible refine gate_callee (f := 52) rfl ?_); refine gl_ (some 8) Try.func52 #[.int .i64 a0_0, .int .i64 1, .int .i64 10] ?_; (with_reducible refine (spec_l01In.calls a0_0 1 10 false _ A4.out).mono ?_); rintro e w' ⟨rfl, ⟨nd, rfl⟩⟩; refine ⟨_, rfl, ?_⟩)
  go_meet
  case rel => exact ⟨_, (true), er_, H', ⟨by first | omega | exact Nat.le_refl _⟩, ⟨bx_ BK105⟩, ⟨bw_⟩⟩
 clear HC2
 obtain ⟨kq, x15_1, rfl, HA, HJ1, BK105, HB⟩ := hcut
 cases kq with
 | zero => exact absurd HA.out (by simp [spec_GraphOk.j0])
 | succ kj1 =>
  have H := HA.out
  clear HA
  simp only [spec_GraphOk.j0] at H
  by_cases c8 : x15_1 = true
  ·subst c8
   rw [if_pos rfl] at H
   obtain rfl := Option.some.inj H
   go_wp2
   go_ret
   exact ⟨ew_, bw_⟩
  replace c8 := Bool.eq_false_iff.mpr c8
  subst c8
  rw [if_neg (show ¬ (false = true) by decide)] at H
  have H' := Aside0.mk H
  clear H
  go_wp2
  go_loopg [3] kj1 (fun kq v3 w' => ∃ (x3_2 : Int), v3 = .int .i64 x3_2 ∧ Aside0 (spec_GraphOk.l0 kq x3_2 a0_0 l0_1 = some r) ∧ Aside0 (kq ≤ kj1) ∧ Aside0 (w'.heap[gb105]? = some (.cells #[.int .i64 a0_0, (.slice A0_1 l0_1.length c0_1)] 30 (0, 0))) ∧ Aside0 (Below w.heap.size w w'))
  case atStart => exact ⟨(0), er_, H', ⟨Nat.le_refl _⟩, ⟨bx_ BK105⟩, ⟨bw_⟩⟩
  clear H'
  obtain ⟨x3_2, rfl, HA, HK2, BK105, HB⟩ := hrel
  cases gk with
  | zero => exact absurd HA.out (by simp [spec_GraphOk.l0])
  | succ k2 =>
   have H := HA.out
   clear HA
   simp only [spec_GraphOk.l0] at H
   by_cases c9 : x3_2 < (l0_1.length : Int)
   rotate_left
   ·rw [if_neg c9] at H
    have c9b0 : decide (x3_2 < (l0_1.length : Int)) = false := decide_eq_false c9
    clear c9
    obtain rfl := Option.some.inj H
    have hcz85_0 := cz_ BK105 0 (.int .i64 a0_0)
    have hcz85_1 := cz_ BK105 1 (.slice A0_1 l0_1.length c0_1)
    have hfz85_0 := fz_ BK105 0
    have hfz85_1 := fz_ BK105 1
    go_wp2
    go_ret
    exact ⟨ew_, bw_⟩
   rw [if_pos c9] at H
   have c9b0 : decide (x3_2 < (l0_1.length : Int)) = true := decide_eq_true c9
   clear c9
   obtain ⟨c10b0, H⟩ := iq_ H
   have HC11 := Aside0.mk H
   clear H
   have hcz12_0 := cz_ BK105 0 (.int .i64 a0_0)
   have hcz12_1 := cz_ BK105 1 (.slice A0_1 l0_1.length c0_1)
   have hfz12_0 := fz_ BK105 0
   have hfz12_1 := fz_ BK105 1
   have p107 : 0 ≤ (x3_2 : Int) := oa_
   have q107 : x3_2 < (l0_1.length : Int) := oa_
   obtain ⟨ad107, e107, hx107_0, hx107_1, hx107_2⟩ := at_T76 HR0_1.out x3_2 p107 q107
   cases e107
   replace hx107_0 := hc5_ HB hx107_0
   replace hx107_1 := hc5_ HB hx107_1
   replace hx107_2 := hc5_ HB hx107_2
   obtain ⟨p107, q107⟩ := et_ p107 q107
   go_upto_region 7 with ((with_reducible refine gate_dst (N := 4) rfl ?_); refine be_ 4 #[.int .i64 0, .int .i64 0, .int .i64 0] 76 ?_; intro gb108 hg w13 BK108 hb; have GW108 := ge_ HB hg; have GE108 := ge_ HB hg; have NB105_108 := nl_ BK105 hg; have NB108_105 := ng_ BK105 hg; replace HB := at_ HB hb; replace BK105 := ab_ BK105 hb; clear hb hg; have hnb14 := NB108_105.out; have hnc14 := NB105_108.out; have hcz15_0 := cz_ BK108 0 (.int .i64 0); have hcz15_1 := cz_ BK108 1 (.int .i64 0); have hcz15_2 := cz_ BK108 2 (.int .i64 0); have hfz15_0 := fz_ BK108 0; have hfz15_1 := fz_ BK108 1; have hfz15_2 := fz_ BK108 2)
   (try simp only [Act.put, List.setIfInBounds_toArray, List.set_cons_zero, List.set_cons_succ])
   go_cut [52] (fun v52 wc => ∃ (kq : Nat) (x52_10 : Bool), v52 = .bool x52_10 ∧ Aside0 (spec_GraphOk.j2 kq x3_2 x52_10 a0_0 l0_1 ((rd_T76 l0_1 x3_2).f0) ((rd_T76 l0_1 x3_2).f1) ((rd_T76 l0_1 x3_2).f2) = some r) ∧ Aside0 (kq ≤ k2) ∧ Aside0 (wc.heap[gb105]? = some (.cells #[.int .i64 a0_0, (.slice (some ad107) l0_1.length c0_1)] 30 (0, 0))) ∧ Aside0 (wc.heap[gb108]? = some (.cells #[.int .i64 ((rd_T76 l0_1 x3_2).f0), .int .i64 ((rd_T76 l0_1 x3_2).f1), .int .i64 ((rd_T76 l0_1 x3_2).f2)] 76 (0, 0))) ∧ Aside0 (Below w.heap.size w wc))
   case first =>
    have H := HC11.out
    clear HC11
    obtain ⟨t109, A16, H⟩ := ob_ H
    by_cases c17 : t109 = true
    rotate_left
    ·replace c17 := Bool.eq_false_iff.mpr c17
     subst c17
     rw [if_neg (show ¬ (false = true) by decide)] at H
     have H' := Aside0.mk H
     clear H
     have hnb45 := NB105_108.out
     have hnc45 := NB108_105.out
     have hcz46_0 := cz_ BK105 0 (.int .i64 a0_0)
     have hcz46_1 := cz_ BK105 1 (.slice (some ad107) l0_1.length c0_1)
     have hfz46_0 := fz_ BK105 0
     have hfz46_1 := fz_ BK105 1
     have hcz47_0 := cz_ BK108 0 (.int .i64 0)
     have hcz47_1 := cz_ BK108 1 (.int .i64 0)
     have hcz47_2 := cz_ BK108 2 (.int .i64 0)
     have hfz47_0 := fz_ BK108 0
     have hfz47_1 := fz_ BK108 1
     have hfz47_2 := fz_ BK108 2
     go_wp2_with ((with_reducible refine gate_callee (f := 45) rfl ?_); refine gl_ (some 31) Try.func45 #[.agg #[.int .i64 a0_0, .slice (some ad107) l0_1.length c0_1], .int .i64 ((rd_T76 l0_1 x3_2).f0)] ?_; (with_reducible refine (spec_l03Node.calls a0_0 _ _ l0_1 ((rd_T76 l0_1 x3_2).f0) false _ ?side1 ?side2 A16.out).mono ?_); (case side1 => exact Kd.C_below HR0_1.out (bw_)); (case side2 => exact HC0_1.out); rintro e w48 ⟨rfl, hb⟩; refine ⟨_, rfl, ?_⟩; replace BK105 := bf_ BK105 NB105_108 hb; replace BK108 := Aside0.mk (blk_below (g := gb108) (o := .cells #[.int .i64 ((rd_T76 l0_1 x3_2).f0), .int .i64 ((rd_T76 l0_1 x3_2).f1), .int .i64 ((rd_T76 l0_1 x3_2).f2)] 76 (0, 0)) (by refine bd_ ?_; refine blk_put (cs := #[.int .i64 ((rd_T76 l0_1 x3_2).f0), .int .i64 ((rd_T76 l0_1 x3_2).f1), .int .i64 0]) ?_ 2 _ rfl; refine bd_ ?_; refine blk_put (cs := #[.int .i64 ((rd_T76 l0_1 x3_2).f0), .int .i64 0, .int .i64 0]) ?_ 1 _ rfl; refine bd_ ?_; refine blk_put (cs := #[.int .i64 0, .int .i64 0, .int .i64 0]) ?_ 0 _ rfl; refine bd_ ?_; exact BK108.out) hb); replace HB := at_ HB hb; clear hb)
     go_meet
     case rel => exact ⟨_, (true), er_, H', ⟨by have := HJ1.out; have := HK2.out; first | omega | exact Nat.le_refl _⟩, ⟨bx_ BK105⟩, ⟨bx_ BK108⟩, ⟨bw_⟩⟩
    subst c17
    rw [if_pos rfl] at H
    obtain ⟨t110, A18, H⟩ := ob_ H
    by_cases c19 : t110 = true
    rotate_left
    ·replace c19 := Bool.eq_false_iff.mpr c19
     subst c19
     rw [if_neg (show ¬ (false = true) by decide)] at H
     have H' := Aside0.mk H
     clear H
     have hnb38 := NB105_108.out
     have hnc38 := NB108_105.out
     have hcz39_0 := cz_ BK105 0 (.int .i64 a0_0)
     have hcz39_1 := cz_ BK105 1 (.slice (some ad107) l0_1.length c0_1)
     have hfz39_0 := fz_ BK105 0
     have hfz39_1 := fz_ BK105 1
     have hcz40_0 := cz_ BK108 0 (.int .i64 0)
     have hcz40_1 := cz_ BK108 1 (.int .i64 0)
     have hcz40_2 := cz_ BK108 2 (.int .i64 0)
     have hfz40_0 := fz_ BK108 0
     have hfz40_1 := fz_ BK108 1
     have hfz40_2 := fz_ BK108 2
     go_wp2_with (first | ((with_reducible refine gate_callee (f := 45) rfl ?_); refine gl_ (some 31) Try.func45 #[.agg #[.int .i64 a0_0, .slice (some ad107) l0_1.length c0_1], .int .i64 ((rd_T76 l0_1 x3_2).f0)] ?_; (with_reducible refine (spec_l03Node.calls a0_0 _ _ l0_1 ((rd_T76 l0_1 x3_2).f0) true _ ?side1 ?side2 A16.out).mono ?_); (case side1 => exact Kd.C_below HR0_1.out (bw_)); (case side2 => exact HC0_1.out); rintro e w41 ⟨rfl, hb⟩; refine ⟨_, rfl, ?_⟩; replace BK105 := bf_ BK105 NB105_108 hb; replace BK108 := Aside0.mk (blk_below (g := gb108) (o := .cells #[.int .i64 ((rd_T76 l0_1 x3_2).f0), .int .i64 ((rd_T76 l0_1 x3_2).f1), .int .i64 ((rd_T76 l0_1 x3_2).f2)] 76 (0, 0)) (by refine bd_ ?_; refine blk_put (cs := #[.int .i64 ((rd_T76 l0_1 x3_2).f0), .int .i64 ((rd_T76 l0_1 x3_2).f1), .int .i64 0]) ?_ 2 _ rfl; refine bd_ ?_; refine blk_put (cs := #[.int .i64 ((rd_T76 l0_1 x3_2).f0), .int .i64 0, .int .i64 0]) ?_ 1 _ rfl; refine bd_ ?_; refine blk_put (cs := #[.int .i64 0, .int .i64 0, .int .i64 0]) ?_ 0 _ rfl; refine bd_ ?_; exact BK108.out) hb); replace HB := at_ HB hb; clear hb; have hcz42_0 := cz_ BK105 0 (.int .i64 a0_0); have hcz42_1 := cz_ BK105 1 (.slice (some ad107) l0_1.length c0_1); have hfz42_0 := fz_ BK105 0; have hfz42_1 := fz_ BK105 1; have hcz43_0 := cz_ BK108 0 (.int .i64 ((rd_T76 l0_1 x3_2).f0)); have hcz43_1 := cz_ BK108 1 (.int .i64 ((rd_T76 l0_1 x3_2).f1)); have hcz43_2 := cz_ BK108 2 (.int .i64 ((rd_T76 l0_1 x3_2).f2)); have hfz43_0 := fz_ BK108 0; have hfz43_1 := fz_ BK108 1; have hfz43_2 := fz_ BK108 2) | (go_at_call 45; (with_reducible refine (spec_l03Node.calls a0_0 _ _ l0_1 ((rd_T76 l0_1 x3_2).f1) false _ ?side1 ?side2 A18.out).mono ?_); (case side1 => exact cb_ HR0_1 HB); (case side2 => exact HC0_1.out); rintro e w44 ⟨rfl, hb⟩; replace BK105 := ab_ BK105 hb; replace BK108 := ab_ BK108 hb; replace HB := at_ HB hb; clear hb))
     go_meet
     case rel => exact ⟨_, (true), er_, H', ⟨by have := HJ1.out; have := HK2.out; first | omega | exact Nat.le_refl _⟩, ⟨bx_ BK105⟩, ⟨bx_ BK108⟩, ⟨bw_⟩⟩
    subst c19
    rw [if_pos rfl] at H
    by_cases c20 : ((rd_T76 l0_1 x3_2).f0) = ((rd_T76 l0_1 x3_2).f1)
    ·rw [if_pos c20] at H
     have c20b0 : (((rd_T76 l0_1 x3_2).f0) == ((rd_T76 l0_1 x3_2).f1)) = true := beq_iff_eq.mpr c20
     have c20b1 : (((rd_T76 l0_1 x3_2).f0) != ((rd_T76 l0_1 x3_2).f1)) = false := bne_eq_false_iff_eq.mpr c20
     clear c20
     (first | rw [c20b0] | (simp only [i64_w, i32_w]; rw [c20b0]) | skip)
     have H' := Aside0.mk H
     clear H
     have hnb21 := NB105_108.out
     have hnc21 := NB108_105.out
     have hcz22_0 := cz_ BK105 0 (.int .i64 a0_0)
     have hcz22_1 := cz_ BK105 1 (.slice (some ad107) l0_1.length c0_1)
     have hfz22_0 := fz_ BK105 0
     have hfz22_1 := fz_ BK105 1
     have hcz23_0 := cz_ BK108 0 (.int .i64 0)
     have hcz23_1 := cz_ BK108 1 (.int .i64 0)
     have hcz23_2 := cz_ BK108 2 (.int .i64 0)
     have hfz23_0 := fz_ BK108 0
     have hfz23_1 := fz_ BK108 1
     have hfz23_2 := fz_ BK108 2
     go_wp2_with (first | ((with_reducible refine gate_callee (f := 45) rfl ?_); refine gl_ (some 31) Try.func45 #[.agg #[.int .i64 a0_0, .slice (some ad107) l0_1.length c0_1], .int .i64 ((rd_T76 l0_1 x3_2).f0)] ?_; (with_reducible refine (spec_l03Node.calls a0_0 _ _ l0_1 ((rd_T76 l0_1 x3_2).f0) true _ ?side1 ?side2 A16.out).mono ?_); (case side1 => exact Kd.C_below HR0_1.out (bw_)); (case side2 => exact HC0_1.out); rintro e w24 ⟨rfl, hb⟩; refine ⟨_, rfl, ?_⟩; replace BK105 := bf_ BK105 NB105_108 hb; replace BK108 := Aside0.mk (blk_below (g := gb108) (o := .cells #[.int .i64 ((rd_T76 l0_1 x3_2).f0), .int .i64 ((rd_T76 l0_1 x3_2).f1), .int .i64 ((rd_T76 l0_1 x3_2).f2)] 76 (0, 0)) (by refine bd_ ?_; refine blk_put (cs := #[.int .i64 ((rd_T76 l0_1 x3_2).f0), .int .i64 ((rd_T76 l0_1 x3_2).f1), .int .i64 0]) ?_ 2 _ rfl; refine bd_ ?_; refine blk_put (cs := #[.int .i64 ((rd_T76 l0_1 x3_2).f0), .int .i64 0, .int .i64 0]) ?_ 1 _ rfl; refine bd_ ?_; refine blk_put (cs := #[.int .i64 0, .int .i64 0, .int .i64 0]) ?_ 0 _ rfl; refine bd_ ?_; exact BK108.out) hb); replace HB := at_ HB hb; clear hb; have hcz25_0 := cz_ BK105 0 (.int .i64 a0_0); have hcz25_1 := cz_ BK105 1 (.slice (some ad107) l0_1.length c0_1); have hfz25_0 := fz_ BK105 0; have hfz25_1 := fz_ BK105 1; have hcz26_0 := cz_ BK108 0 (.int .i64 ((rd_T76 l0_1 x3_2).f0)); have hcz26_1 := cz_ BK108 1 (.int .i64 ((rd_T76 l0_1 x3_2).f1)); have hcz26_2 := cz_ BK108 2 (.int .i64 ((rd_T76 l0_1 x3_2).f2)); have hfz26_0 := fz_ BK108 0; have hfz26_1 := fz_ BK108 1; have hfz26_2 := fz_ BK108 2) | (go_at_call 45; (with_reducible refine (spec_l03Node.calls a0_0 _ _ l0_1 ((rd_T76 l0_1 x3_2).f1) true _ ?side1 ?side2 A18.out).mono ?_); (case side1 => exact cb_ HR0_1 HB); (case side2 => exact HC0_1.out); rintro e w27 ⟨rfl, hb⟩; replace BK105 := ab_ BK105 hb; replace BK108 := ab_ BK108 hb; replace HB := at_ HB hb; clear hb; have hcz28_0 := cz_ BK108 0 (.int .i64 ((rd_T76 l0_1 x3_2).f0)); have hcz28_1 := cz_ BK108 1 (.int .i64 ((rd_T76 l0_1 x3_2).f1)); have hcz28_2 := cz_ BK108 2 (.int .i64 ((rd_T76 l0_1 x3_2).f2)); have hfz28_0 := fz_ BK108 0; have hfz28_1 := fz_ BK108 1; have hfz28_2 := fz_ BK108 2))
     go_meet
     case rel => exact ⟨_, (true), er_, H', ⟨by have := HJ1.out; have := HK2.out; first | omega | exact Nat.le_refl _⟩, ⟨bx_ BK105⟩, ⟨bx_ BK108⟩, ⟨bw_⟩⟩
    rw [if_neg c20] at H
    have c20b0 : (((rd_T76 l0_1 x3_2).f0) == ((rd_T76 l0_1 x3_2).f1)) = false := beq_eq_false_iff_ne.mpr c20
    have c20b1 : (((rd_T76 l0_1 x3_2).f0) != ((rd_T76 l0_1 x3_2).f1)) = true := bne_iff_ne.mpr c20
    (first | rw [c20b0] | (simp only [i64_w, i32_w]; rw [c20b0]) | skip)
    obtain ⟨t111, A29, H⟩ := ob_ H
    have H' := Aside0.mk H
    clear H
    have hnb30 := NB105_108.out
    have hnc30 := NB108_105.out
    have hcz31_0 := cz_ BK105 0 (.int .i64 a0_0)
    have hcz31_1 := cz_ BK105 1 (.slice (some ad107) l0_1.length c0_1)
    have hfz31_0 := fz_ BK105 0
    have hfz31_1 := fz_ BK105 1
    have hcz32_0 := cz_ BK108 0 (.int .i64 0)
    have hcz32_1 := cz_ BK108 1 (.int .i64 0)
    have hcz32_2 := cz_ BK108 2 (.int .i64 0)
    have hfz32_0 := fz_ BK108 0
    have hfz32_1 := fz_ BK108 1
    have hfz32_2 := fz_ BK108 2
    go_wp2_with (first | ((with_reducible refine gate_callee (f := 45) rfl ?_); refine gl_ (some 31) Try.func45 #[.agg #[.int .i64 a0_0, .slice (some ad107) l0_1.length c0_1], .int .i64 ((rd_T76 l0_1 x3_2).f0)] ?_; (with_reducible refine (spec_l03Node.calls a0_0 _ _ l0_1 ((rd_T76 l0_1 x3_2).f0) true _ ?side1 ?side2 A16.out).mono ?_); (case side1 => exact Kd.C_below HR0_1.out (bw_)); (case side2 => exact HC0_1.out); rintro e w33 ⟨rfl, hb⟩; refine ⟨_, rfl, ?_⟩; replace BK105 := bf_ BK105 NB105_108 hb; replace BK108 := Aside0.mk (blk_below (g := gb108) (o := .cells #[.int .i64 ((rd_T76 l0_1 x3_2).f0), .int .i64 ((rd_T76 l0_1 x3_2).f1), .int .i64 ((rd_T76 l0_1 x3_2).f2)] 76 (0, 0)) (by refine bd_ ?_; refine blk_put (cs := #[.int .i64 ((rd_T76 l0_1 x3_2).f0), .int .i64 ((rd_T76 l0_1 x3_2).f1), .int .i64 0]) ?_ 2 _ rfl; refine bd_ ?_; refine blk_put (cs := #[.int .i64 ((rd_T76 l0_1 x3_2).f0), .int .i64 0, .int .i64 0]) ?_ 1 _ rfl; refine bd_ ?_; refine blk_put (cs := #[.int .i64 0, .int .i64 0, .int .i64 0]) ?_ 0 _ rfl; refine bd_ ?_; exact BK108.out) hb); replace HB := at_ HB hb; clear hb; have hcz34_0 := cz_ BK105 0 (.int .i64 a0_0); have hcz34_1 := cz_ BK105 1 (.slice (some ad107) l0_1.length c0_1); have hfz34_0 := fz_ BK105 0; have hfz34_1 := fz_ BK105 1; have hcz35_0 := cz_ BK108 0 (.int .i64 ((rd_T76 l0_1 x3_2).f0)); have hcz35_1 := cz_ BK108 1 (.int .i64 ((rd_T76 l0_1 x3_2).f1)); have hcz35_2 := cz_ BK108 2 (.int .i64 ((rd_T76 l0_1 x3_2).f2)); have hfz35_0 := fz_ BK108 0; have hfz35_1 := fz_ BK108 1; have hfz35_2 := fz_ BK108 2) | (go_at_call 45; (with_reducible refine (spec_l03Node.calls a0_0 _ _ l0_1 ((rd_T76 l0_1 x3_2).f1) true _ ?side1 ?side2 A18.out).mono ?_); (case side1 => exact cb_ HR0_1 HB); (case side2 => exact HC0_1.out); rintro e w36 ⟨rfl, hb⟩; replace BK105 := ab_ BK105 hb; replace BK108 := ab_ BK108 hb; replace HB := at_ HB hb; clear hb; have hcz37_0 := cz_ BK108 0 (.int .i64 ((rd_T76 l0_1 x3_2).f0)); have hcz37_1 := cz_ BK108 1 (.int .i64 ((rd_T76 l0_1 x3_2).f1)); have hcz37_2 := cz_ BK108 2 (.int .i64 ((rd_T76 l0_1 x3_2).f2)); have hfz37_0 := fz_ BK108 0; have hfz37_1 := fz_ BK108 1; have hfz37_2 := fz_ BK108 2) | (go_at_call 52; (with_reducible refine (spec_l01In.calls ((rd_T76 l0_1 x3_2).f2) 1 1000 t111 _ A29.out).mono ?_); rintro e w' ⟨rfl, ⟨nd, rfl⟩⟩))
    go_meet
    case rel => exact ⟨_, (!t111), er_, H', ⟨by have := HJ1.out; have := HK2.out; first | omega | exact Nat.le_refl _⟩, ⟨bx_ BK105⟩, ⟨bx_ BK108⟩, ⟨bw_⟩⟩
   clear HC11 c9b0 c10b0 hcz12_0 hcz12_1 hcz15_0 hcz15_1 hcz15_2 hfz12_0 hfz12_1 hfz15_0 hfz15_1 hfz15_2 hx107_0 hx107_1 hx107_2 p107 q107
   obtain ⟨kq, x52_10, rfl, HA, HJ10, BK105, BK108, HB⟩ := hcut
   cases kq with
   | zero => exact absurd HA.out (by simp [spec_GraphOk.j2])
   | succ kj10 =>
    have H := HA.out
    clear HA
    simp only [spec_GraphOk.j2] at H
    by_cases c49 : x52_10 = true
    ·subst c49
     rw [if_pos rfl] at H
     obtain rfl := Option.some.inj H
     go_wp2
     go_ret
     exact ⟨ew_, bw_⟩
    replace c49 := Bool.eq_false_iff.mpr c49
    subst c49
    rw [if_neg (show ¬ (false = true) by decide)] at H
    by_cases c50 : x3_2 > 0
    rotate_left
    ·rw [if_neg c50] at H
     have c50b0 : decide (0 < x3_2) = false := decide_eq_false c50
     clear c50
     have H' := Aside0.mk H
     clear H
     go_wp2
     go_roundg kj10
     case measure => have := HJ1.out; have := HK2.out; have := HJ10.out; omega
     case rel => exact ⟨(wrap64 (x3_2 + 1)), er_, H', ⟨by have := HJ1.out; have := HK2.out; have := HJ10.out; omega⟩, ⟨bx_ BK105⟩, ⟨bw_⟩⟩
    rw [if_pos c50] at H
    have c50b0 : decide (0 < x3_2) = true := decide_eq_true c50
    clear c50
    obtain ⟨ji51, hji51⟩ : ∃ j_ : Int, (wrap64 (x3_2 - 1)) = j_ := ⟨_, rfl⟩
    first | rw [hji51] at H | simp only [hji51] at H
    have hji51w : (IntKind.i64.wrap (x3_2 - 1)) = ji51 := (i64_w _).trans hji51
    obtain ⟨c52b0, H⟩ := iq_ H
    obtain ⟨c53b0, H⟩ := iq_ H
    have Hh_ := Aside0.mk H
    clear H
    have hnb55 := NB105_108.out
    have hnc55 := NB108_105.out
    have hcz56_0 := cz_ BK105 0 (.int .i64 a0_0)
    have hcz56_1 := cz_ BK105 1 (.slice (some ad107) l0_1.length c0_1)
    have hfz56_0 := fz_ BK105 0
    have hfz56_1 := fz_ BK105 1
    have p112 : 0 ≤ ((ji51) : Int) := oa_
    have q112 : (ji51) < (l0_1.length : Int) := oa_
    obtain ⟨ad112, e112, hx112_0, hx112_1, hx112_2⟩ := at_T76 HR0_1.out (ji51) p112 q112
    obtain rfl : ad107 = ad112 := (by injection e112)
    replace hx112_0 := hc5_ HB hx112_0
    replace hx112_1 := hc5_ HB hx112_1
    replace hx112_2 := hc5_ HB hx112_2
    obtain ⟨p112, q112⟩ := et_ p112 q112
    have H := Hh_.out
    clear Hh_
    by_cases c54 : ((rd_T76 l0_1 (ji51)).f0) > ((rd_T76 l0_1 x3_2).f0)
    ·rw [if_pos c54] at H
     have c54b0 : decide (((rd_T76 l0_1 x3_2).f0) < ((rd_T76 l0_1 (ji51)).f0)) = true := decide_eq_true c54
     clear c54
     obtain rfl := Option.some.inj H
     go_wp2_with ((with_reducible refine gate_dst (N := 5) rfl ?_); refine be_ 5 #[.int .i64 0, .int .i64 0, .int .i64 0] 76 ?_; intro gb113 hg w57 BK113 hb; have GW113 := ge_ HB hg; have GE113 := ge_ HB hg; have NB105_113 := nl_ BK105 hg; have NB113_105 := ng_ BK105 hg; have NB108_113 := nl_ BK108 hg; have NB113_108 := ng_ BK108 hg; replace HB := at_ HB hb; replace BK105 := ab_ BK105 hb; replace BK108 := ab_ BK108 hb; clear hb hg; have hnb58 := NB113_105.out; have hnc58 := NB105_113.out; have hnb59 := NB113_108.out; have hnc59 := NB108_113.out; have hcz60_0 := cz_ BK113 0 (.int .i64 0); have hcz60_1 := cz_ BK113 1 (.int .i64 0); have hcz60_2 := cz_ BK113 2 (.int .i64 0); have hfz60_0 := fz_ BK113 0; have hfz60_1 := fz_ BK113 1; have hfz60_2 := fz_ BK113 2; have hcz61_0 := cz_ BK108 0 (.int .i64 ((rd_T76 l0_1 x3_2).f0)); have hcz61_1 := cz_ BK108 1 (.int .i64 ((rd_T76 l0_1 x3_2).f1)); have hcz61_2 := cz_ BK108 2 (.int .i64 ((rd_T76 l0_1 x3_2).f2)); have hfz61_0 := fz_ BK108 0; have hfz61_1 := fz_ BK108 1; have hfz61_2 := fz_ BK108 2)
     go_ret
     exact ⟨by first | rfl | (simp [errW_none, errW_some] <;> rfl) | (simp only [← hji51]; first | rfl | (simp [errW_none, errW_some] <;> rfl)) | (simp [*, errW_none, errW_some] <;> rfl), bw_⟩
    rw [if_neg c54] at H
    have c54b0 : decide (((rd_T76 l0_1 x3_2).f0) < ((rd_T76 l0_1 (ji51)).f0)) = false := decide_eq_false c54
    clear c54
    by_cases c62 : ((rd_T76 l0_1 (ji51)).f0) = ((rd_T76 l0_1 x3_2).f0)
    rotate_left
    ·rw [if_neg c62] at H
     have c62b0 : (((rd_T76 l0_1 (ji51)).f0) == ((rd_T76 l0_1 x3_2).f0)) = false := beq_eq_false_iff_ne.mpr c62
     have c62b1 : (((rd_T76 l0_1 (ji51)).f0) != ((rd_T76 l0_1 x3_2).f0)) = true := bne_iff_ne.mpr c62
     have H' := Aside0.mk H
     clear H
     go_wp2_with ((with_reducible refine gate_dst (N := 5) rfl ?_); refine be_ 5 #[.int .i64 0, .int .i64 0, .int .i64 0] 76 ?_; intro gb113 hg w80 BK113 hb; have GW113 := ge_ HB hg; have GE113 := ge_ HB hg; have NB105_113 := nl_ BK105 hg; have NB113_105 := ng_ BK105 hg; have NB108_113 := nl_ BK108 hg; have NB113_108 := ng_ BK108 hg; replace HB := at_ HB hb; replace BK105 := ab_ BK105 hb; replace BK108 := ab_ BK108 hb; clear hb hg; have hnb81 := NB113_105.out; have hnc81 := NB105_113.out; have hnb82 := NB113_108.out; have hnc82 := NB108_113.out; have hcz83_0 := cz_ BK113 0 (.int .i64 0); have hcz83_1 := cz_ BK113 1 (.int .i64 0); have hcz83_2 := cz_ BK113 2 (.int .i64 0); have hfz83_0 := fz_ BK113 0; have hfz83_1 := fz_ BK113 1; have hfz83_2 := fz_ BK113 2; have hcz84_0 := cz_ BK108 0 (.int .i64 ((rd_T76 l0_1 x3_2).f0)); have hcz84_1 := cz_ BK108 1 (.int .i64 ((rd_T76 l0_1 x3_2).f1)); have hcz84_2 := cz_ BK108 2 (.int .i64 ((rd_T76 l0_1 x3_2).f2)); have hfz84_0 := fz_ BK108 0; have hfz84_1 := fz_ BK108 1; have hfz84_2 := fz_ BK108 2)
     go_roundg kj10
     case measure => have := HJ1.out; have := HK2.out; have := HJ10.out; omega
     case rel => exact ⟨(wrap64 (x3_2 + 1)), er_, H', ⟨by have := HJ1.out; have := HK2.out; have := HJ10.out; omega⟩, ⟨bc_ BK105⟩, ⟨bw_⟩⟩
    rw [if_pos c62] at H
    have c62b0 : (((rd_T76 l0_1 (ji51)).f0) == ((rd_T76 l0_1 x3_2).f0)) = true := beq_iff_eq.mpr c62
    have c62b1 : (((rd_T76 l0_1 (ji51)).f0) != ((rd_T76 l0_1 x3_2).f0)) = false := bne_eq_false_iff_eq.mpr c62
    clear c62
    by_cases c63 : ((rd_T76 l0_1 (ji51)).f1) ≥ ((rd_T76 l0_1 x3_2).f1)
    ·rw [if_pos c63] at H
     have c63b0 : decide (((rd_T76 l0_1 x3_2).f1) ≤ ((rd_T76 l0_1 (ji51)).f1)) = true := decide_eq_true c63
     clear c63
     obtain rfl := Option.some.inj H
     go_wp2_with ((with_reducible refine gate_dst (N := 5) rfl ?_); refine be_ 5 #[.int .i64 0, .int .i64 0, .int .i64 0] 76 ?_; intro gb113 hg w66 BK113 hb; have GW113 := ge_ HB hg; have GE113 := ge_ HB hg; have NB105_113 := nl_ BK105 hg; have NB113_105 := ng_ BK105 hg; have NB108_113 := nl_ BK108 hg; have NB113_108 := ng_ BK108 hg; replace HB := at_ HB hb; replace BK105 := ab_ BK105 hb; replace BK108 := ab_ BK108 hb; clear hb hg; have hnb67 := NB113_105.out; have hnc67 := NB105_113.out; have hnb68 := NB113_108.out; have hnc68 := NB108_113.out; have hcz69_0 := cz_ BK113 0 (.int .i64 0); have hcz69_1 := cz_ BK113 1 (.int .i64 0); have hcz69_2 := cz_ BK113 2 (.int .i64 0); have hfz69_0 := fz_ BK113 0; have hfz69_1 := fz_ BK113 1; have hfz69_2 := fz_ BK113 2; have hcz70_0 := cz_ BK108 0 (.int .i64 ((rd_T76 l0_1 x3_2).f0)); have hcz70_1 := cz_ BK108 1 (.int .i64 ((rd_T76 l0_1 x3_2).f1)); have hcz70_2 := cz_ BK108 2 (.int .i64 ((rd_T76 l0_1 x3_2).f2)); have hfz70_0 := fz_ BK108 0; have hfz70_1 := fz_ BK108 1; have hfz70_2 := fz_ BK108 2)
     go_ret
     exact ⟨by first | rfl | (simp [errW_none, errW_some] <;> rfl) | (simp only [← hji51]; first | rfl | (simp [errW_none, errW_some] <;> rfl)) | (simp [*, errW_none, errW_some] <;> rfl), bw_⟩
    rw [if_neg c63] at H
    have c63b0 : decide (((rd_T76 l0_1 x3_2).f1) ≤ ((rd_T76 l0_1 (ji51)).f1)) = false := decide_eq_false c63
    clear c63
    have H' := Aside0.mk H
    clear H
    go_wp2_with ((with_reducible refine gate_dst (N := 5) rfl ?_); refine be_ 5 #[.int .i64 0, .int .i64 0, .int .i64 0] 76 ?_; intro gb113 hg w73 BK113 hb; have GW113 := ge_ HB hg; have GE113 := ge_ HB hg; have NB105_113 := nl_ BK105 hg; have NB113_105 := ng_ BK105 hg; have NB108_113 := nl_ BK108 hg; have NB113_108 := ng_ BK108 hg; replace HB := at_ HB hb; replace BK105 := ab_ BK105 hb; replace BK108 := ab_ BK108 hb; clear hb hg; have hnb74 := NB113_105.out; have hnc74 := NB105_113.out; have hnb75 := NB113_108.out; have hnc75 := NB108_113.out; have hcz76_0 := cz_ BK113 0 (.int .i64 0); have hcz76_1 := cz_ BK113 1 (.int .i64 0); have hcz76_2 := cz_ BK113 2 (.int .i64 0); have hfz76_0 := fz_ BK113 0; have hfz76_1 := fz_ BK113 1; have hfz76_2 := fz_ BK113 2; have hcz77_0 := cz_ BK108 0 (.int .i64 ((rd_T76 l0_1 x3_2).f0)); have hcz77_1 := cz_ BK108 1 (.int .i64 ((rd_T76 l0_1 x3_2).f1)); have hcz77_2 := cz_ BK108 2 (.int .i64 ((rd_T76 l0_1 x3_2).f2)); have hfz77_0 := fz_ BK108 0; have hfz77_1 := fz_ BK108 1; have hfz77_2 := fz_ BK108 2)
    go_roundg kj10
    case measure => have := HJ1.out; have := HK2.out; have := HJ10.out; omega
    case rel => exact ⟨(wrap64 (x3_2 + 1)), er_, H', ⟨by have := HJ1.out; have := HK2.out; have := HJ10.out; omega⟩, ⟨bc_ BK105⟩, ⟨bw_⟩⟩
end Go.Proofs.Ythmahcohcphljaa.QFnCheapest
