/- Contracts of functions that the law reaches: what each call returns and what it leaves in memory. Made by this session over the print of the kit. -/
import Derived.Test.YthmahcohcphljaaQFnCheapestx0
import Derived.Test.YthmahcohcphljaaQFnCheapestx1
import Derived.Test.YthmahcohcphljaaQFnCheapestx7
namespace Go.Proofs.Ythmahcohcphljaa.QFnCheapest
open Go.RowKit Go.Proofs.YthmahcohcphljaaC.PrintWords Go.Proofs.YthmahcohcphljaaC.PrintLast Go.Proofs.YthmahcohcphljaaC.PrintMore
attribute [local go_sem] max2_int min2_int max_two min_two max_three min_three max_four min_four
set_option linter.unusedVariables false
set_option linter.unusedSimpArgs false
mutual
def spec_l03Cost.j0 : Nat → Int → Int → Bool → Int → List (S76) → Option (Int)
 | 0, _, _, _, _, _ => none
 | k + 1, x1, x2, x17, x412000, x412001 => if x17 = true then (some 1000000) else (if x1 = x2 then (some 0) else (spec_l03Cost.l0 k x1 x2 0 x412000 x412001))
def spec_l03Cost.l0 : Nat → Int → Int → Int → Int → List (S76) → Option (Int)
 | 0, _, _, _, _, _ => none
 | k + 1, x1, x2, x7, x412000, x412001 => if x7 < (x412001.length : Int) then (if 0 ≤ x7 then (if ((rd_T76 x412001 x7).f0) = x1 then (if ((rd_T76 x412001 x7).f1) = x2 then (some ((rd_T76 x412001 x7).f2)) else (spec_l03Cost.l0 k x1 x2 (wrap64 (x7 + 1)) x412000 x412001)) else (spec_l03Cost.l0 k x1 x2 (wrap64 (x7 + 1)) x412000 x412001)) else (none)) else (some 1000000)
end
def spec_l03Cost.f (k : Nat) (a0_0 : Int) (l0_1 : List (S76)) (a1 : Int) (a2 : Int) : Option (Int) := (spec_l03Node.f a0_0 l0_1 a1).bind fun t412 => (if t412 = true then ((spec_l03Node.f a0_0 l0_1 a2).bind fun t413 => (spec_l03Cost.j0 k a1 a2 (!t413) a0_0 l0_1)) else (spec_l03Cost.j0 k a1 a2 true a0_0 l0_1))
set_option maxHeartbeats 8000000 in
set_option maxRecDepth 100000 in
theorem spec_l03Cost.calls (k : Nat) (a0_0 : Int) (A0_1 : Option Addr) (c0_1 : Nat) (l0_1 : List (S76)) (a1 : Int) (a2 : Int) (r : Int) (w : World) (hr0_1 : Kd.C k76 w A0_1 l0_1.length l0_1) (hc0_1 : l0_1.length ≤ c0_1) (h : spec_l03Cost.f k a0_0 l0_1 a1 a2 = some r) :
  Calls Try.prog 72 #[.agg #[.int .i64 a0_0, .slice A0_1 l0_1.length c0_1], .int .i64 a1, .int .i64 a2] w fun e w' => e = .returned (.int .i64 r) ∧ Below w.heap.size w w' := by
 have hu30 := Try.underlying30
 have HR0_1 := Aside0.mk hr0_1
 have HC0_1 := Aside0.mk hc0_1
 clear hr0_1 hc0_1
 have HB := Aside0.mk (Below.refl w.heap.size w)
 have H : ((spec_l03Node.f a0_0 l0_1 a1).bind fun t412 => (if t412 = true then ((spec_l03Node.f a0_0 l0_1 a2).bind fun t413 => (spec_l03Cost.j0 k a1 a2 (!t413) a0_0 l0_1)) else (spec_l03Cost.j0 k a1 a2 true a0_0 l0_1))) = some r := h
 clear h
 have HC4 := Aside0.mk H
 clear H
 go_enter Try.func72, Try.ntmps72
 go_upto_region 1 with ((with_reducible refine gate_dst (N := 3) rfl ?_); refine be_ 3 #[.int .i64 a0_0, .slice A0_1 l0_1.length c0_1] 30 ?_; intro gb411 hg w5 BK411 hb; have GW411 := ge_ HB hg; have GE411 := ge_ HB hg; replace HB := at_ HB hb; clear hb hg)
 (try simp only [Act.put, List.setIfInBounds_toArray, List.set_cons_zero, List.set_cons_succ])
 go_cut [17] (fun v17 wc => ∃ (kq : Nat) (x17_3 : Bool), v17 = .bool x17_3 ∧ Aside0 (spec_l03Cost.j0 kq a1 a2 x17_3 a0_0 l0_1 = some r) ∧ Aside0 (kq ≤ k) ∧ Aside0 (wc.heap[gb411]? = some (.cells #[.int .i64 a0_0, (.slice A0_1 l0_1.length c0_1)] 30 (0, 0))) ∧ Aside0 (Below w.heap.size w wc))
 case first =>
  have H := HC4.out
  clear HC4
  obtain ⟨t412, A6, H⟩ := ob_ H
  by_cases c7 : t412 = true
  rotate_left
  ·replace c7 := Bool.eq_false_iff.mpr c7
   subst c7
   rw [if_neg (show ¬ (false = true) by decide)] at H
   have H' := Aside0.mk H
   clear H
   have hcz13_0 := cz_ BK411 0 (.int .i64 a0_0)
   have hcz13_1 := cz_ BK411 1 (.slice A0_1 l0_1.length c0_1)
   have hfz13_0 := fz_ BK411 0
   have hfz13_1 := fz_ BK411 1
   go_wp2_with ((with_reducible refine gate_callee (f := 45) rfl ?_); refine gl_ (some 10) Try.func45 #[.agg #[.int .i64 a0_0, .slice A0_1 l0_1.length c0_1], .int .i64 a1] ?_; (with_reducible refine (spec_l03Node.calls a0_0 _ _ l0_1 a1 false _ ?side1 ?side2 A6.out).mono ?_); (case side1 => exact cb_ HR0_1 HB); (case side2 => exact HC0_1.out); rintro e w14 ⟨rfl, hb⟩; refine ⟨_, rfl, ?_⟩; replace BK411 := ab_ BK411 hb; replace HB := at_ HB hb; clear hb)
   go_meet
   case rel => exact ⟨_, (true), er_, H', ⟨by first | omega | exact Nat.le_refl _⟩, ⟨bx_ BK411⟩, ⟨bw115_⟩⟩
  subst c7
  rw [if_pos rfl] at H
  obtain ⟨t413, A8, H⟩ := ob_ H
  have H' := Aside0.mk H
  clear H
  have hcz9_0 := cz_ BK411 0 (.int .i64 a0_0)
  have hcz9_1 := cz_ BK411 1 (.slice A0_1 l0_1.length c0_1)
  have hfz9_0 := fz_ BK411 0
  have hfz9_1 := fz_ BK411 1
  go_wp2_with (first | ((with_reducible refine gate_callee (f := 45) rfl ?_); refine gl_ (some 10) Try.func45 #[.agg #[.int .i64 a0_0, .slice A0_1 l0_1.length c0_1], .int .i64 a1] ?_; (with_reducible refine (spec_l03Node.calls a0_0 _ _ l0_1 a1 true _ ?side1 ?side2 A6.out).mono ?_); (case side1 => exact cb_ HR0_1 HB); (case side2 => exact HC0_1.out); rintro e w10 ⟨rfl, hb⟩; refine ⟨_, rfl, ?_⟩; replace BK411 := ab_ BK411 hb; replace HB := at_ HB hb; clear hb; have hcz11_0 := cz_ BK411 0 (.int .i64 a0_0); have hcz11_1 := cz_ BK411 1 (.slice A0_1 l0_1.length c0_1); have hfz11_0 := fz_ BK411 0; have hfz11_1 := fz_ BK411 1) | (go_at_call 45; (with_reducible refine (spec_l03Node.calls a0_0 _ _ l0_1 a2 t413 _ ?side1 ?side2 A8.out).mono ?_); (case side1 => exact cb_ HR0_1 HB); (case side2 => exact HC0_1.out); rintro e w12 ⟨rfl, hb⟩; replace BK411 := ab_ BK411 hb; replace HB := at_ HB hb; clear hb))
  go_meet
  case rel => exact ⟨_, (!t413), er_, H', ⟨by first | omega | exact Nat.le_refl _⟩, ⟨bx_ BK411⟩, ⟨bw115_⟩⟩
 clear HC4
 obtain ⟨kq, x17_3, rfl, HA, HJ3, BK411, HB⟩ := hcut
 cases kq with
 | zero => exact absurd HA.out (by simp [spec_l03Cost.j0])
 | succ kj3 =>
  have H := HA.out
  clear HA
  simp only [spec_l03Cost.j0] at H
  by_cases c15 : x17_3 = true
  ·subst c15
   rw [if_pos rfl] at H
   obtain rfl := Option.some.inj H
   go_wp2
   go_ret
   exact ⟨ew_, bw115_⟩
  replace c15 := Bool.eq_false_iff.mpr c15
  subst c15
  rw [if_neg (show ¬ (false = true) by decide)] at H
  by_cases c16 : a1 = a2
  ·rw [if_pos c16] at H
   have c16b0 : (a1 == a2) = true := beq_iff_eq.mpr c16
   have c16b1 : (a1 != a2) = false := bne_eq_false_iff_eq.mpr c16
   clear c16
   obtain rfl := Option.some.inj H
   go_wp2
   go_ret
   exact ⟨ew_, bw115_⟩
  rw [if_neg c16] at H
  have c16b0 : (a1 == a2) = false := beq_eq_false_iff_ne.mpr c16
  have c16b1 : (a1 != a2) = true := bne_iff_ne.mpr c16
  have H' := Aside0.mk H
  clear H
  go_wp2
  go_loopg [7] kj3 (fun kq v7 w' => ∃ (x7_2 : Int), v7 = .int .i64 x7_2 ∧ Aside0 (spec_l03Cost.l0 kq a1 a2 x7_2 a0_0 l0_1 = some r) ∧ Aside0 (kq ≤ kj3) ∧ Aside0 (w'.heap[gb411]? = some (.cells #[.int .i64 a0_0, (.slice A0_1 l0_1.length c0_1)] 30 (0, 0))) ∧ Aside0 (Below w.heap.size w w'))
  case atStart => exact ⟨(0), er_, H', ⟨Nat.le_refl _⟩, ⟨bx_ BK411⟩, ⟨bw115_⟩⟩
  clear H' c16 c16b0 c16b1
  obtain ⟨x7_2, rfl, HA, HK2, BK411, HB⟩ := hrel
  cases gk with
  | zero => exact absurd HA.out (by simp [spec_l03Cost.l0])
  | succ k2 =>
   have H := HA.out
   clear HA
   simp only [spec_l03Cost.l0] at H
   by_cases c17 : x7_2 < (l0_1.length : Int)
   rotate_left
   ·rw [if_neg c17] at H
    have c17b0 : decide (x7_2 < (l0_1.length : Int)) = false := decide_eq_false c17
    clear c17
    obtain rfl := Option.some.inj H
    have hcz24_0 := cz_ BK411 0 (.int .i64 a0_0)
    have hcz24_1 := cz_ BK411 1 (.slice A0_1 l0_1.length c0_1)
    have hfz24_0 := fz_ BK411 0
    have hfz24_1 := fz_ BK411 1
    go_wp2
    go_ret
    exact ⟨ew_, bw115_⟩
   rw [if_pos c17] at H
   have c17b0 : decide (x7_2 < (l0_1.length : Int)) = true := decide_eq_true c17
   clear c17
   obtain ⟨c18b0, H⟩ := iq_ H
   have Hh_ := Aside0.mk H
   clear H
   have hcz21_0 := cz_ BK411 0 (.int .i64 a0_0)
   have hcz21_1 := cz_ BK411 1 (.slice A0_1 l0_1.length c0_1)
   have hfz21_0 := fz_ BK411 0
   have hfz21_1 := fz_ BK411 1
   have p414 : 0 ≤ (x7_2 : Int) := oa_
   have q414 : x7_2 < (l0_1.length : Int) := oa_
   obtain ⟨ad414, e414, hx414_0, hx414_1, hx414_2⟩ := at_T76 HR0_1.out x7_2 p414 q414
   cases e414
   replace hx414_0 := hc5_ HB hx414_0
   replace hx414_1 := hc5_ HB hx414_1
   replace hx414_2 := hc5_ HB hx414_2
   obtain ⟨p414, q414⟩ := et_ p414 q414
   have H := Hh_.out
   clear Hh_
   by_cases c19 : ((rd_T76 l0_1 x7_2).f0) = a1
   rotate_left
   ·rw [if_neg c19] at H
    have c19b0 : (((rd_T76 l0_1 x7_2).f0) == a1) = false := beq_eq_false_iff_ne.mpr c19
    have c19b1 : (((rd_T76 l0_1 x7_2).f0) != a1) = true := bne_iff_ne.mpr c19
    have H' := Aside0.mk H
    clear H
    go_wp2
    go_roundg k2
    case measure => have := HJ3.out; have := HK2.out; omega
    case rel => exact ⟨(wrap64 (x7_2 + 1)), er_, H', ⟨by have := HJ3.out; have := HK2.out; omega⟩, ⟨bx_ BK411⟩, ⟨bw115_⟩⟩
   rw [if_pos c19] at H
   have c19b0 : (((rd_T76 l0_1 x7_2).f0) == a1) = true := beq_iff_eq.mpr c19
   have c19b1 : (((rd_T76 l0_1 x7_2).f0) != a1) = false := bne_eq_false_iff_eq.mpr c19
   clear c19
   have Hh_ := Aside0.mk H
   clear H
   have p415 : 0 ≤ (x7_2 : Int) := oa_
   have q415 : x7_2 < (l0_1.length : Int) := oa_
   obtain ⟨ad415, e415, hx415_0, hx415_1, hx415_2⟩ := at_T76 HR0_1.out x7_2 p415 q415
   obtain rfl : ad414 = ad415 := (by injection e415)
   replace hx415_0 := hc5_ HB hx415_0
   replace hx415_1 := hc5_ HB hx415_1
   replace hx415_2 := hc5_ HB hx415_2
   obtain ⟨p415, q415⟩ := et_ p415 q415
   have H := Hh_.out
   clear Hh_
   by_cases c20 : ((rd_T76 l0_1 x7_2).f1) = a2
   rotate_left
   ·rw [if_neg c20] at H
    have c20b0 : (((rd_T76 l0_1 x7_2).f1) == a2) = false := beq_eq_false_iff_ne.mpr c20
    have c20b1 : (((rd_T76 l0_1 x7_2).f1) != a2) = true := bne_iff_ne.mpr c20
    have H' := Aside0.mk H
    clear H
    go_wp2
    go_roundg k2
    case measure => have := HJ3.out; have := HK2.out; omega
    case rel => exact ⟨(wrap64 (x7_2 + 1)), er_, H', ⟨by have := HJ3.out; have := HK2.out; omega⟩, ⟨bx_ BK411⟩, ⟨bw115_⟩⟩
   rw [if_pos c20] at H
   have c20b0 : (((rd_T76 l0_1 x7_2).f1) == a2) = true := beq_iff_eq.mpr c20
   have c20b1 : (((rd_T76 l0_1 x7_2).f1) != a2) = false := bne_eq_false_iff_eq.mpr c20
   clear c20
   obtain rfl := Option.some.inj H
   have p416 : 0 ≤ (x7_2 : Int) := oa_
   have q416 : x7_2 < (l0_1.length : Int) := oa_
   obtain ⟨ad416, e416, hx416_0, hx416_1, hx416_2⟩ := at_T76 HR0_1.out x7_2 p416 q416
   obtain rfl : ad414 = ad416 := (by injection e416)
   replace hx416_0 := hc5_ HB hx416_0
   replace hx416_1 := hc5_ HB hx416_1
   replace hx416_2 := hc5_ HB hx416_2
   obtain ⟨p416, q416⟩ := et_ p416 q416
   go_wp2
   go_ret
   exact ⟨ew_, bw115_⟩
end Go.Proofs.Ythmahcohcphljaa.QFnCheapest
