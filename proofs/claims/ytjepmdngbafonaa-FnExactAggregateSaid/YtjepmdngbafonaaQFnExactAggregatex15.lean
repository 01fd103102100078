/- Contracts of functions that the law reaches: what each call returns and what it leaves in memory. Made by this session over the print of the kit. -/
import Derived.Test.YtjepmdngbafonaaQFnExactAggregatex0
import Derived.Test.YtjepmdngbafonaaQFnExactAggregatex1
import Derived.Test.YtjepmdngbafonaaQFnExactAggregatex4
import Derived.Test.YtjepmdngbafonaaQFnExactAggregatex14
namespace Go.Proofs.Ytjepmdngbafonaa.QFnExactAggregate
open Go.RowKit Go.Proofs.YtjepmdngbafonaaA.PrintWords Go.Proofs.YtjepmdngbafonaaA.PrintLast Go.Proofs.YtjepmdngbafonaaA.PrintMore
attribute [local go_sem] max2_int min2_int max_two min_two max_three min_three max_four min_four   -- for this text's walks alone
set_option linter.unusedVariables false
set_option linter.unusedSimpArgs false

/-! ### laws_heldPrefixS: function 33 -/
def laws_heldPrefixS.l0 : Nat → List (S28) → Int → Int → Option (Int)
 | 0, _, _, _ => none
 | k + 1, x0, x1, x5 => if x5 < (x0.length : Int) then (if 0 ≤ x5 then (if ((rd_T28 x0 x5).f0) = x1 then (if ((rd_T28 x0 x5).f1) = (wrap64 (x1 + 1)) then (laws_heldPrefixS.l0 k x0 (wrap64 ((wrap64 (x1 + 1)) + 1)) (wrap64 (x5 + 1))) else (some (-1))) else (some (-1))) else (none)) else (some x1)
def laws_heldPrefixS.f (k : Nat) (l0 : List (S28)) (a1 : Int) : Option (Int) := laws_heldPrefixS.l0 k l0 a1 0
theorem laws_heldPrefixS.mono_l : ∀ k, (∀ y0 y1 y2, LeO (laws_heldPrefixS.l0 k y0 y1 y2) (laws_heldPrefixS.l0 (k + 1) y0 y1 y2))
 | 0 => fun _ _ _ r h => by simp [laws_heldPrefixS.l0] at h
 | k + 1 => by
  have ih0 := laws_heldPrefixS.mono_l k
  ·intro y0 y1 y2
   unfold laws_heldPrefixS.l0
   repeat' first
   | (with_reducible exact ih0 _ _ _)
   | (with_reducible exact LeO.refl _)
   | (with_reducible exact LeO.none _)
   | (with_reducible refine LeO.ite ?_ ?_)
   | (with_reducible refine LeO.bind ?_ (fun _ => ?_))
   | exact ih0 _ _ _
   | exact LeO.none _
   | refine LeO.ite ?_ ?_
   | refine LeO.bind ?_ (fun _ => ?_)
theorem laws_heldPrefixS.mono : ∀ a0 a1 k, LeO (laws_heldPrefixS.f k a0 a1) (laws_heldPrefixS.f (k + 1) a0 a1) := by
 intro a0 a1 k
 have ih0 := laws_heldPrefixS.mono_l k
 unfold laws_heldPrefixS.f
 repeat' first
   | (with_reducible exact ih0 _ _ _)
   | (with_reducible exact LeO.refl _)
   | (with_reducible exact LeO.none _)
   | (with_reducible refine LeO.ite ?_ ?_)
   | (with_reducible refine LeO.bind ?_ (fun _ => ?_))
   | exact ih0 _ _ _
   | exact LeO.none _
   | refine LeO.ite ?_ ?_
   | refine LeO.bind ?_ (fun _ => ?_)
set_option maxHeartbeats 8000000 in
set_option maxRecDepth 100000 in
theorem laws_heldPrefixS.calls (k : Nat) (A0 : Option Addr) (c0 : Nat) (l0 : List (S28)) (a1 : Int) (r : Int) (w : World) (hr0 : Kd.C k28 w A0 l0.length l0) (hc0 : l0.length ≤ c0) (h : laws_heldPrefixS.f k l0 a1 = some r) :
  Calls Try.prog 33 #[.slice A0 l0.length c0, .int .i64 a1] w fun e w' => e = .returned (.int .i64 r) ∧ Drawn0 w w' := by
 have HR0 := Aside0.mk hr0
 have HC0 := Aside0.mk hc0
 clear hr0 hc0
 have H : (laws_heldPrefixS.l0 k l0 a1 0) = some r := h
 clear h
 have H' := Aside0.mk H
 clear H
 go_enter Try.func33, Try.ntmps33
 go_wp2
 go_loopg [1, 5] k (fun kq v1 v5 w' => ∃ (x1_1 : Int) (x5_1 : Int), v1 = .int .i64 x1_1 ∧ v5 = .int .i64 x5_1 ∧ Aside0 (laws_heldPrefixS.l0 kq l0 x1_1 x5_1 = some r) ∧ Aside0 (kq ≤ k) ∧ Drawn0 w w')
 case atStart => exact ⟨(a1), (0), (by first | rfl | (simp; done) | (simp [*]; done)), (by first | rfl | (simp; done) | (simp [*]; done)), H', ⟨Nat.le_refl _⟩, by repeat (first | exact Drawn0.refl _ | apply Drawn0.step)⟩
 case round =>
  clear H'
  try clear p2
  obtain ⟨x1_1, x5_1, rfl, rfl, HA, HK1, ⟨m1, rfl⟩⟩ := hrel
  cases gk with
  | zero => exact absurd HA.out (by simp [laws_heldPrefixS.l0])
  | succ k1 =>
   have H := HA.out
   clear HA
   simp only [laws_heldPrefixS.l0] at H
   by_cases c3 : x5_1 < (l0.length : Int)
   ·rw [if_pos c3] at H
    have c3b0 : decide (x5_1 < (l0.length : Int)) = true := decide_eq_true c3
    clear c3
    by_cases c4 : 0 ≤ x5_1
    ·rw [if_pos c4] at H
     have c4b0 : decide (0 ≤ x5_1) = true := decide_eq_true c4
     clear c4
     by_cases c5 : ((rd_T28 l0 x5_1).f0) = x1_1
     ·rw [if_pos c5] at H
      have c5b0 : (((rd_T28 l0 x5_1).f0) == x1_1) = true := beq_iff_eq.mpr c5
      have c5b1 : (((rd_T28 l0 x5_1).f0) != x1_1) = false := bne_eq_false_iff_eq.mpr c5
      clear c5
      by_cases c6 : ((rd_T28 l0 x5_1).f1) = (wrap64 (x1_1 + 1))
      ·rw [if_pos c6] at H
       have c6b0 : (((rd_T28 l0 x5_1).f1) == (wrap64 (x1_1 + 1))) = true := beq_iff_eq.mpr c6
       have c6b1 : (((rd_T28 l0 x5_1).f1) != (wrap64 (x1_1 + 1))) = false := bne_eq_false_iff_eq.mpr c6
       clear c6
       have H' := Aside0.mk H
       clear H
       have p355 : 0 ≤ (x5_1 : Int) := of_decide_eq_true (by first | (with_reducible assumption) | assumption)
       have q355 : x5_1 < (l0.length : Int) := of_decide_eq_true (by first | (with_reducible assumption) | assumption)
       obtain ⟨ad355, e355, hx355_0, hx355_1⟩ := at_T28 HR0.out x5_1 p355 q355
       cases e355
       replace p355 := eq_true p355
       replace q355 := eq_true q355
       have p356 : 0 ≤ (x5_1 : Int) := of_decide_eq_true (by first | (with_reducible assumption) | assumption)
       have q356 : x5_1 < (l0.length : Int) := of_decide_eq_true (by first | (with_reducible assumption) | assumption)
       obtain ⟨ad356, e356, hx356_0, hx356_1⟩ := at_T28 HR0.out x5_1 p356 q356
       obtain rfl : ad355 = ad356 := (by injection e356)
       replace p356 := eq_true p356
       replace q356 := eq_true q356
       go_wp2
       go_roundg k1
       case measure => have := HK1.out; omega
       case rel => exact ⟨(wrap64 ((wrap64 (x1_1 + 1)) + 1)), (wrap64 (x5_1 + 1)), (by first | rfl | (simp; done) | (simp [*]; done)), (by first | rfl | (simp; done) | (simp [*]; done)), H', ⟨by have := HK1.out; omega⟩, by repeat (first | exact Drawn0.refl _ | apply Drawn0.step)⟩
      ·rw [if_neg c6] at H
       have c6b0 : (((rd_T28 l0 x5_1).f1) == (wrap64 (x1_1 + 1))) = false := beq_eq_false_iff_ne.mpr c6
       have c6b1 : (((rd_T28 l0 x5_1).f1) != (wrap64 (x1_1 + 1))) = true := bne_iff_ne.mpr c6
       obtain rfl := Option.some.inj H
       have p355 : 0 ≤ (x5_1 : Int) := of_decide_eq_true (by first | (with_reducible assumption) | assumption)
       have q355 : x5_1 < (l0.length : Int) := of_decide_eq_true (by first | (with_reducible assumption) | assumption)
       obtain ⟨ad355, e355, hx355_0, hx355_1⟩ := at_T28 HR0.out x5_1 p355 q355
       cases e355
       replace p355 := eq_true p355
       replace q355 := eq_true q355
       have p356 : 0 ≤ (x5_1 : Int) := of_decide_eq_true (by first | (with_reducible assumption) | assumption)
       have q356 : x5_1 < (l0.length : Int) := of_decide_eq_true (by first | (with_reducible assumption) | assumption)
       obtain ⟨ad356, e356, hx356_0, hx356_1⟩ := at_T28 HR0.out x5_1 p356 q356
       obtain rfl : ad355 = ad356 := (by injection e356)
       replace p356 := eq_true p356
       replace q356 := eq_true q356
       go_wp2
       go_ret
       exact ⟨by first | rfl | (simp; done) | (simp [*]; done), by repeat (first | exact Drawn0.refl _ | apply Drawn0.step)⟩
     ·rw [if_neg c5] at H
      have c5b0 : (((rd_T28 l0 x5_1).f0) == x1_1) = false := beq_eq_false_iff_ne.mpr c5
      have c5b1 : (((rd_T28 l0 x5_1).f0) != x1_1) = true := bne_iff_ne.mpr c5
      obtain rfl := Option.some.inj H
      have p355 : 0 ≤ (x5_1 : Int) := of_decide_eq_true (by first | (with_reducible assumption) | assumption)
      have q355 : x5_1 < (l0.length : Int) := of_decide_eq_true (by first | (with_reducible assumption) | assumption)
      obtain ⟨ad355, e355, hx355_0, hx355_1⟩ := at_T28 HR0.out x5_1 p355 q355
      cases e355
      replace p355 := eq_true p355
      replace q355 := eq_true q355
      go_wp2
      go_ret
      exact ⟨by first | rfl | (simp; done) | (simp [*]; done), by repeat (first | exact Drawn0.refl _ | apply Drawn0.step)⟩
    ·rw [if_neg c4] at H
     exact absurd H (by simp)
   ·rw [if_neg c3] at H
    have c3b0 : decide (x5_1 < (l0.length : Int)) = false := decide_eq_false c3
    clear c3
    obtain rfl := Option.some.inj H
    go_wp2
    go_ret
    exact ⟨by first | rfl | (simp; done) | (simp [*]; done), by repeat (first | exact Drawn0.refl _ | apply Drawn0.step)⟩

/-! ### laws_FnExactAggregate: function 6 -/
mutual
def laws_FnExactAggregate.j0 : Nat → List (S92) → List (S28) → Bool → List (S28) → List (S28) → Bool → Bool → Option (Bool)
 | 0, _, _, _, _, _, _, _ => none
 | k + 1, x0, x4, x5, x6, x7, x8, x40 => if x40 = true then (some false) else ((laws_toPrefixS.f k x0).bind fun t373 => ((laws_eqPrefixS.f k x6 t373).bind fun t376 => (if t376 = true then ((laws_markPrefixS.f k x6 1).bind fun bt377 => (if bt377.1 < 0 then (laws_FnExactAggregate.j1 k x0 x4 x5 x7 true) else ((laws_eqPrefixS.f k x7 x4).bind fun t379 => (if t379 = true then (laws_FnExactAggregate.j1 k x0 x4 x5 x7 (x8 != x5)) else (laws_FnExactAggregate.j1 k x0 x4 x5 x7 true))))) else (some false))))
def laws_FnExactAggregate.j1 : Nat → List (S92) → List (S28) → Bool → List (S28) → Bool → Option (Bool)
 | 0, _, _, _, _, _ => none
 | k + 1, x0, x4, x5, x7, x61 => if x61 = true then (some false) else ((laws_markPrefixS.f k x7 1).bind fun bt380 => ((laws_heldPrefixS.f k bt380.2 1).bind fun t382 => (if t382 < 0 then (some false) else (if t382 = bt380.1 then ((laws_toPrefixS.f k x0).bind fun t383 => ((impl_Aggregate.f k t383).bind fun bt386 => ((laws_eqPrefixS.f k bt386.1 x4).bind fun t390 => (if t390 = true then (laws_FnExactAggregate.j2 k bt380.2 bt380.1 (bt386.2 != x5)) else (laws_FnExactAggregate.j2 k bt380.2 bt380.1 true))))) else (some false)))))
def laws_FnExactAggregate.j2 : Nat → List (S28) → Int → Bool → Option (Bool)
 | 0, _, _, _ => none
 | k + 1, x7, x10, x87 => if x87 = true then (some false) else ((laws_heldPrefixS.f k x7 1).bind fun t391 => (if t391 < 0 then (some false) else (if t391 = x10 then (some true) else (some false))))
end
def laws_FnExactAggregate.f (k : Nat) (l0 : List (S92)) : Option (Bool) := (laws_szPrefixS.f l0 1048576).bind fun t357 => (if t357 < 0 then (some true) else ((laws_toPrefixS.f k l0).bind fun t358 => ((spec_Aggregate.f k t358).bind fun bt361 => ((laws_toPrefixS.f k l0).bind fun t365 => ((impl_Aggregate.f k t365).bind fun bt368 => ((laws_eqPrefixS.f k bt368.1 bt361.1).bind fun t372 => (if t372 = true then (laws_FnExactAggregate.j0 k l0 bt361.1 bt361.2 t365 bt368.1 bt368.2 (bt368.2 != bt361.2)) else (laws_FnExactAggregate.j0 k l0 bt361.1 bt361.2 t365 bt368.1 bt368.2 true))))))))
theorem laws_FnExactAggregate.mono_l : ∀ k, (∀ y0 y1 y2 y3 y4 y5 y6, LeO (laws_FnExactAggregate.j0 k y0 y1 y2 y3 y4 y5 y6) (laws_FnExactAggregate.j0 (k + 1) y0 y1 y2 y3 y4 y5 y6)) ∧ (∀ y0 y1 y2 y3 y4, LeO (laws_FnExactAggregate.j1 k y0 y1 y2 y3 y4) (laws_FnExactAggregate.j1 (k + 1) y0 y1 y2 y3 y4)) ∧ (∀ y0 y1 y2, LeO (laws_FnExactAggregate.j2 k y0 y1 y2) (laws_FnExactAggregate.j2 (k + 1) y0 y1 y2))
 | 0 => ⟨fun _ _ _ _ _ _ _ r h => by simp [laws_FnExactAggregate.j0] at h, fun _ _ _ _ _ r h => by simp [laws_FnExactAggregate.j1] at h, fun _ _ _ r h => by simp [laws_FnExactAggregate.j2] at h⟩
 | k + 1 => by
  obtain ⟨ih0, ih1, ih2⟩ := laws_FnExactAggregate.mono_l k
  refine ⟨?_, ?_, ?_⟩
  ·intro y0 y1 y2 y3 y4 y5 y6
   unfold laws_FnExactAggregate.j0
   repeat' first
   | (with_reducible exact ih0 _ _ _ _ _ _ _)
   | (with_reducible exact ih1 _ _ _ _ _)
   | (with_reducible exact ih2 _ _ _)
   | (with_reducible exact impl_Aggregate.mono _ _)
   | (with_reducible exact laws_eqPrefixS.mono _ _ _)
   | (with_reducible exact laws_heldPrefixS.mono _ _ _)
   | (with_reducible exact laws_markPrefixS.mono _ _ _)
   | (with_reducible exact laws_toPrefixS.mono _ _)
   | (with_reducible exact spec_Aggregate.mono _ _)
   | (with_reducible exact LeO.refl _)
   | (with_reducible exact LeO.none _)
   | (with_reducible refine LeO.ite ?_ ?_)
   | (with_reducible refine LeO.bind ?_ (fun _ => ?_))
   | exact ih0 _ _ _ _ _ _ _
   | exact ih1 _ _ _ _ _
   | exact ih2 _ _ _
   | exact impl_Aggregate.mono _ _
   | exact laws_eqPrefixS.mono _ _ _
   | exact laws_heldPrefixS.mono _ _ _
   | exact laws_markPrefixS.mono _ _ _
   | exact laws_toPrefixS.mono _ _
   | exact spec_Aggregate.mono _ _
   | exact LeO.none _
   | refine LeO.ite ?_ ?_
   | refine LeO.bind ?_ (fun _ => ?_)
  ·intro y0 y1 y2 y3 y4
   unfold laws_FnExactAggregate.j1
   repeat' first
   | (with_reducible exact ih0 _ _ _ _ _ _ _)
   | (with_reducible exact ih1 _ _ _ _ _)
   | (with_reducible exact ih2 _ _ _)
   | (with_reducible exact impl_Aggregate.mono _ _)
   | (with_reducible exact laws_eqPrefixS.mono _ _ _)
   | (with_reducible exact laws_heldPrefixS.mono _ _ _)
   | (with_reducible exact laws_markPrefixS.mono _ _ _)
   | (with_reducible exact laws_toPrefixS.mono _ _)
   | (with_reducible exact spec_Aggregate.mono _ _)
   | (with_reducible exact LeO.refl _)
   | (with_reducible exact LeO.none _)
   | (with_reducible refine LeO.ite ?_ ?_)
   | (with_reducible refine LeO.bind ?_ (fun _ => ?_))
   | exact ih0 _ _ _ _ _ _ _
   | exact ih1 _ _ _ _ _
   | exact ih2 _ _ _
   | exact impl_Aggregate.mono _ _
   | exact laws_eqPrefixS.mono _ _ _
   | exact laws_heldPrefixS.mono _ _ _
   | exact laws_markPrefixS.mono _ _ _
   | exact laws_toPrefixS.mono _ _
   | exact spec_Aggregate.mono _ _
   | exact LeO.none _
   | refine LeO.ite ?_ ?_
   | refine LeO.bind ?_ (fun _ => ?_)
  ·intro y0 y1 y2
   unfold laws_FnExactAggregate.j2
   repeat' first
   | (with_reducible exact ih0 _ _ _ _ _ _ _)
   | (with_reducible exact ih1 _ _ _ _ _)
   | (with_reducible exact ih2 _ _ _)
   | (with_reducible exact impl_Aggregate.mono _ _)
   | (with_reducible exact laws_eqPrefixS.mono _ _ _)
   | (with_reducible exact laws_heldPrefixS.mono _ _ _)
   | (with_reducible exact laws_markPrefixS.mono _ _ _)
   | (with_reducible exact laws_toPrefixS.mono _ _)
   | (with_reducible exact spec_Aggregate.mono _ _)
   | (with_reducible exact LeO.refl _)
   | (with_reducible exact LeO.none _)
   | (with_reducible refine LeO.ite ?_ ?_)
   | (with_reducible refine LeO.bind ?_ (fun _ => ?_))
   | exact ih0 _ _ _ _ _ _ _
   | exact ih1 _ _ _ _ _
   | exact ih2 _ _ _
   | exact impl_Aggregate.mono _ _
   | exact laws_eqPrefixS.mono _ _ _
   | exact laws_heldPrefixS.mono _ _ _
   | exact laws_markPrefixS.mono _ _ _
   | exact laws_toPrefixS.mono _ _
   | exact spec_Aggregate.mono _ _
   | exact LeO.none _
   | refine LeO.ite ?_ ?_
   | refine LeO.bind ?_ (fun _ => ?_)
theorem laws_FnExactAggregate.mono : ∀ a0 k, LeO (laws_FnExactAggregate.f k a0) (laws_FnExactAggregate.f (k + 1) a0) := by
 intro a0 k
 obtain ⟨ih0, ih1, ih2⟩ := laws_FnExactAggregate.mono_l k
 unfold laws_FnExactAggregate.f
 repeat' first
   | (with_reducible exact ih0 _ _ _ _ _ _ _)
   | (with_reducible exact ih1 _ _ _ _ _)
   | (with_reducible exact ih2 _ _ _)
   | (with_reducible exact impl_Aggregate.mono _ _)
   | (with_reducible exact laws_eqPrefixS.mono _ _ _)
   | (with_reducible exact laws_heldPrefixS.mono _ _ _)
   | (with_reducible exact laws_markPrefixS.mono _ _ _)
   | (with_reducible exact laws_toPrefixS.mono _ _)
   | (with_reducible exact spec_Aggregate.mono _ _)
   | (with_reducible exact LeO.refl _)
   | (with_reducible exact LeO.none _)
   | (with_reducible refine LeO.ite ?_ ?_)
   | (with_reducible refine LeO.bind ?_ (fun _ => ?_))
   | exact ih0 _ _ _ _ _ _ _
   | exact ih1 _ _ _ _ _
   | exact ih2 _ _ _
   | exact impl_Aggregate.mono _ _
   | exact laws_eqPrefixS.mono _ _ _
   | exact laws_heldPrefixS.mono _ _ _
   | exact laws_markPrefixS.mono _ _ _
   | exact laws_toPrefixS.mono _ _
   | exact spec_Aggregate.mono _ _
   | exact LeO.none _
   | refine LeO.ite ?_ ?_
   | refine LeO.bind ?_ (fun _ => ?_)
set_option maxHeartbeats 8000000 in
set_option maxRecDepth 100000 in
theorem laws_FnExactAggregate.calls (k : Nat) (A0 : Option Addr) (c0 : Nat) (l0 : List (S92)) (r : Bool) (w : World) (hr0 : Kd.C k92 w A0 l0.length l0) (hc0 : l0.length ≤ c0) (h : laws_FnExactAggregate.f k l0 = some r) :
  Calls Try.prog 6 #[.slice A0 l0.length c0] w fun e w' => e = .returned (.bool r) ∧ Below w.heap.size w w' := by
 have HR0 := Aside0.mk hr0
 have HC0 := Aside0.mk hc0
 clear hr0 hc0
 have HB := Aside0.mk (Below.refl w.heap.size w)
 have H : ((laws_szPrefixS.f l0 1048576).bind fun t357 => (if t357 < 0 then (some true) else ((laws_toPrefixS.f k l0).bind fun t358 => ((spec_Aggregate.f k t358).bind fun bt361 => ((laws_toPrefixS.f k l0).bind fun t365 => ((impl_Aggregate.f k t365).bind fun bt368 => ((laws_eqPrefixS.f k bt368.1 bt361.1).bind fun t372 => (if t372 = true then (laws_FnExactAggregate.j0 k l0 bt361.1 bt361.2 t365 bt368.1 bt368.2 (bt368.2 != bt361.2)) else (laws_FnExactAggregate.j0 k l0 bt361.1 bt361.2 t365 bt368.1 bt368.2 true))))))))) = some r := h
 clear h
 replace H := Option.bind_eq_some_iff.mp H
 obtain ⟨t357, A20, H⟩ := H
 have A2 := Aside0.mk A20
 clear A20
 by_cases c3 : t357 < 0
 ·rw [if_pos c3] at H
  have c3b0 : decide (t357 < 0) = true := decide_eq_true c3
  clear c3
  obtain rfl := Option.some.inj H
  go_enter Try.func6, Try.ntmps6
  go_wp2_with (first | ((with_reducible refine gate_callee (f := 25) rfl ?_); refine gl_ (some 16) Try.func25 #[.slice A0 l0.length c0, .int .i64 1048576] ?_; (with_reducible refine (laws_szPrefixS.calls _ _ l0 1048576 t357 _ ?side1 ?side2 A2.out).mono ?_); (case side1 => repeat (first | exact HR0.out | (with_reducible refine Kd.C_alloc ?_ _) | (with_reducible refine Kd.C_drewN ?_ _) | (with_reducible refine Kd.C_drew ?_))); (case side2 => exact HC0.out); rintro e w' ⟨rfl, ⟨nd, rfl⟩⟩; refine ⟨_, rfl, ?_⟩))
  go_ret
  exact ⟨by first | rfl | (simp [errW_none, errW_some] <;> rfl) | (simp [*, errW_none, errW_some] <;> rfl), by repeat (first | (with_reducible first | exact HB.out | apply below_alloc | apply pw_below_drewN | apply below_drew1) | exact HB.out)⟩
 ·rw [if_neg c3] at H
  have c3b0 : decide (t357 < 0) = false := decide_eq_false c3
  clear c3
  replace H := Option.bind_eq_some_iff.mp H
  obtain ⟨t358, A40, H⟩ := H
  have A4 := Aside0.mk A40
  clear A40
  replace H := Option.bind_eq_some_iff.mp H
  obtain ⟨⟨t361, t362⟩, A50, H⟩ := H
  have A5 := Aside0.mk A50
  clear A50
  replace H := Option.bind_eq_some_iff.mp H
  obtain ⟨t365, A60, H⟩ := H
  have A6 := Aside0.mk A60
  clear A60
  replace H := Option.bind_eq_some_iff.mp H
  obtain ⟨⟨t368, t369⟩, A70, H⟩ := H
  have A7 := Aside0.mk A70
  clear A70
  have HC8 := Aside0.mk H
  clear H
  go_enter Try.func6, Try.ntmps6
  go_upto_region 8 with (first | ((with_reducible refine gate_callee (f := 25) rfl ?_); refine gl_ (some 16) Try.func25 #[.slice A0 l0.length c0, .int .i64 1048576] ?_; (with_reducible refine (laws_szPrefixS.calls _ _ l0 1048576 t357 _ ?side1 ?side2 A2.out).mono ?_); (case side1 => repeat (first | exact HR0.out | (with_reducible refine Kd.C_alloc ?_ _) | (with_reducible refine Kd.C_drewN ?_ _) | (with_reducible refine Kd.C_drew ?_))); (case side2 => exact HC0.out); rintro e w' ⟨rfl, ⟨nd, rfl⟩⟩; refine ⟨_, rfl, ?_⟩) | ((with_reducible refine gate_callee (f := 27) rfl ?_); refine gl_ (some 21) Try.func27 #[.slice A0 l0.length c0] ?_; (with_reducible refine (laws_toPrefixS.calls k _ _ l0 t358 _ ?side1 ?side2 A4.out).mono ?_); (case side1 => repeat (first | exact HR0.out | (with_reducible refine Kd.C_alloc ?_ _) | (with_reducible refine Kd.C_drewN ?_ _) | (with_reducible refine Kd.C_drew ?_))); (case side2 => exact HC0.out); rintro e w9 ⟨v359, rfl, ho0, hb⟩; refine ⟨_, rfl, ?_⟩; have HO360 := Aside0.mk (Kd.R_lower ho0 (bz_ HB)); replace HB := Aside0.mk (bt_ HB hb); (try clear hb); (try clear hb2); (try clear hk); (try clear hi); (try clear ho0); obtain ⟨Ao10, co10, eo10⟩ := Kd.R_slice HO360.out; subst eo10) | ((with_reducible refine gate_callee (f := 30) rfl ?_); refine gl_ (some 22) Try.func30 #[.slice Ao10 t358.length co10] ?_; (with_reducible refine (spec_Aggregate.calls k _ _ t358 t361 t362 _ ?side1 ?side2 A5.out).mono ?_); (case side1 => exact rc_ HO360); (case side2 => exact (Kd.R_reads' HO360.out).2.1); rintro e w11 ⟨v363, rfl, ho0, hb⟩; refine ⟨_, rfl, ?_⟩; have HO364 := Aside0.mk (Kd.R_lower (Kd.R_new' ho0 (Kd.R_lt (hd_ HO360))) (bz_ HB)); replace HO360 := Aside0.mk (Kd.R_elder' (hd_ HO360) (Kd.R_base ho0) hb); replace HB := Aside0.mk (bt_ HB hb); (try clear hb); (try clear hb2); (try clear hk); (try clear hi); (try clear ho0)) | ((with_reducible refine gate_callee (f := 27) rfl ?_); refine gl_ (some 26) Try.func27 #[.slice A0 l0.length c0] ?_; (with_reducible refine (laws_toPrefixS.calls k _ _ l0 t365 _ ?side1 ?side2 A6.out).mono ?_); (case side1 => exact cb_ HR0 HB); (case side2 => exact HC0.out); rintro e w12 ⟨v366, rfl, ho0, hb⟩; refine ⟨_, rfl, ?_⟩; have HO367 := Aside0.mk (Kd.R_lower (Kd.R_new' (Kd.R_new' ho0 (Kd.R_lt (hd_ HO360))) (Kd.R_lt (hd_ HO364))) (bz_ HB)); replace HO360 := Aside0.mk (Kd.R_elder' (hd_ HO360) (Kd.R_base ho0) hb); replace HO364 := Aside0.mk (Kd.R_elder' (hd_ HO364) (Kd.R_base ho0) hb); replace HB := Aside0.mk (bt_ HB hb); (try clear hb); (try clear hb2); (try clear hk); (try clear hi); (try clear ho0); obtain ⟨Ao13, co13, eo13⟩ := Kd.R_slice HO367.out; subst eo13) | ((with_reducible refine gate_callee (f := 31) rfl ?_); refine gl_ (some 29) Try.func31 #[.slice Ao13 t365.length co13] ?_; (with_reducible refine (impl_Aggregate.calls k _ _ t365 t368 t369 _ ?side1 ?side2 A7.out).mono ?_); (case side1 => exact rc_ HO367); (case side2 => exact (Kd.R_reads' HO367.out).2.1); rintro e w14 ⟨v370, rfl, ho0, hb⟩; refine ⟨_, rfl, ?_⟩; have HO371 := Aside0.mk (Kd.R_lower (Kd.R_new' (Kd.R_new' (Kd.R_new' ho0 (Kd.R_lt (hd_ HO360))) (Kd.R_lt (hd_ HO364))) (Kd.R_lt (hd_ HO367))) (bz_ HB)); replace HO360 := Aside0.mk (Kd.R_elder' (hd_ HO360) (Kd.R_base ho0) hb); replace HO364 := Aside0.mk (Kd.R_elder' (hd_ HO364) (Kd.R_base ho0) hb); replace HO367 := Aside0.mk (Kd.R_elder' (hd_ HO367) (Kd.R_base ho0) hb); replace HB := Aside0.mk (bt_ HB hb); (try clear hb); (try clear hb2); (try clear hk); (try clear hi); (try clear ho0)))
  (try simp only [Act.put, List.setIfInBounds_toArray, List.set_cons_zero, List.set_cons_succ])
  go_cut [40] (fun v40 wc => ∃ (kq : Nat) (x40_7 : Bool), v40 = .bool x40_7 ∧ Aside0 (laws_FnExactAggregate.j0 kq l0 t361 t362 t365 t368 t369 x40_7 = some r) ∧ Aside0 (kq ≤ k) ∧ Aside0 (Kd.R k28 28 wc w.heap.size (fun k_ => some k_ ≠ ((.slice Ao13 t365.length co13) : Value).ownBlock ∧ some k_ ≠ (v370 : Value).ownBlock) v363 t361) ∧ Aside0 (Kd.R k28 28 wc w.heap.size (fun k_ => some k_ ≠ (v363 : Value).ownBlock ∧ some k_ ≠ (v370 : Value).ownBlock) (.slice Ao13 t365.length co13) t365) ∧ Aside0 (Kd.R k28 28 wc w.heap.size (fun k_ => some k_ ≠ (v363 : Value).ownBlock ∧ some k_ ≠ ((.slice Ao13 t365.length co13) : Value).ownBlock) v370 t368) ∧ Aside0 (Below w.heap.size w wc))
  case first =>
   have H := HC8.out
   clear HC8
   replace H := Option.bind_eq_some_iff.mp H
   obtain ⟨t372, A150, H⟩ := H
   have A15 := Aside0.mk A150
   clear A150
   by_cases c16 : t372 = true
   ·subst c16
    rw [if_pos rfl] at H
    have H' := Aside0.mk H
    clear H
    obtain ⟨Ao17, co17, eo17⟩ := Kd.R_slice HO371.out
    subst eo17
    obtain ⟨Ao18, co18, eo18⟩ := Kd.R_slice HO364.out
    subst eo18
    go_wp2_with (first | ((with_reducible refine gate_callee (f := 29) rfl ?_); refine gl_ (some 34) Try.func29 #[.slice Ao17 t368.length co17, .slice Ao18 t361.length co18] ?_; (with_reducible refine (laws_eqPrefixS.calls k _ _ t368 _ _ t361 true _ ?side1 ?side2 ?side3 ?side4 A15.out).mono ?_); (case side1 => exact rc_ HO371); (case side2 => exact (Kd.R_reads' HO371.out).2.1); (case side3 => exact rc_ HO364); (case side4 => exact (Kd.R_reads' HO364.out).2.1); rintro e w19 ⟨rfl, hb⟩; refine ⟨_, rfl, ?_⟩; replace HO360 := rb_ HO360 hb; replace HO364 := rb_ HO364 hb; replace HO367 := rb_ HO367 hb; replace HO371 := rb_ HO371 hb; replace HB := Aside0.mk (bt_ HB hb); (try clear hb); (try clear hb2); (try clear hk); (try clear hi)))
    go_meet
    case rel => exact ⟨_, ((t369 != t362)), (by first | rfl | (simp; done) | (simp [*]; done)), H', ⟨by first | omega | exact Nat.le_refl _⟩, ⟨by (with_reducible repeat (first | apply Kd.R_alloc | apply Kd.R_drewN | apply Kd.R_drew)); exact Kd.R_mono HO364.out (fun _ hk => by first | exact ⟨hk.1.2, hk.2⟩ | grind)⟩, ⟨by (with_reducible repeat (first | apply Kd.R_alloc | apply Kd.R_drewN | apply Kd.R_drew)); exact Kd.R_mono HO367.out (fun _ hk => by first | exact ⟨hk.1.2, hk.2⟩ | grind)⟩, ⟨by (with_reducible repeat (first | apply Kd.R_alloc | apply Kd.R_drewN | apply Kd.R_drew)); exact Kd.R_mono HO371.out (fun _ hk => by first | exact ⟨hk.1.2, hk.2⟩ | grind)⟩, ⟨by repeat (first | (with_reducible first | exact HB.out | apply below_alloc | apply pw_below_drewN | apply below_drew1) | exact HB.out)⟩⟩
   ·replace c16 := Bool.eq_false_iff.mpr c16
    subst c16
    rw [if_neg (show ¬ (false = true) by decide)] at H
    have H' := Aside0.mk H
    clear H
    obtain ⟨Ao20, co20, eo20⟩ := Kd.R_slice HO371.out
    subst eo20
    obtain ⟨Ao21, co21, eo21⟩ := Kd.R_slice HO364.out
    subst eo21
    go_wp2_with (first | ((with_reducible refine gate_callee (f := 29) rfl ?_); refine gl_ (some 34) Try.func29 #[.slice Ao20 t368.length co20, .slice Ao21 t361.length co21] ?_; (with_reducible refine (laws_eqPrefixS.calls k _ _ t368 _ _ t361 false _ ?side1 ?side2 ?side3 ?side4 A15.out).mono ?_); (case side1 => exact rc_ HO371); (case side2 => exact (Kd.R_reads' HO371.out).2.1); (case side3 => exact rc_ HO364); (case side4 => exact (Kd.R_reads' HO364.out).2.1); rintro e w22 ⟨rfl, hb⟩; refine ⟨_, rfl, ?_⟩; replace HO360 := rb_ HO360 hb; replace HO364 := rb_ HO364 hb; replace HO367 := rb_ HO367 hb; replace HO371 := rb_ HO371 hb; replace HB := Aside0.mk (bt_ HB hb); (try clear hb); (try clear hb2); (try clear hk); (try clear hi)))
    go_meet
    case rel => exact ⟨_, (true), (by first | rfl | (simp; done) | (simp [*]; done)), H', ⟨by first | omega | exact Nat.le_refl _⟩, ⟨by (with_reducible repeat (first | apply Kd.R_alloc | apply Kd.R_drewN | apply Kd.R_drew)); exact Kd.R_mono HO364.out (fun _ hk => by first | exact ⟨hk.1.2, hk.2⟩ | grind)⟩, ⟨by (with_reducible repeat (first | apply Kd.R_alloc | apply Kd.R_drewN | apply Kd.R_drew)); exact Kd.R_mono HO367.out (fun _ hk => by first | exact ⟨hk.1.2, hk.2⟩ | grind)⟩, ⟨by (with_reducible repeat (first | apply Kd.R_alloc | apply Kd.R_drewN | apply Kd.R_drew)); exact Kd.R_mono HO371.out (fun _ hk => by first | exact ⟨hk.1.2, hk.2⟩ | grind)⟩, ⟨by repeat (first | (with_reducible first | exact HB.out | apply below_alloc | apply pw_below_drewN | apply below_drew1) | exact HB.out)⟩⟩
  case rest =>
   clear HC8
   try clear c1
   try clear c2
   try clear p2
   try clear c3
   try clear c3b0
   try clear c6
   try clear c16
   obtain ⟨kq, x40_7, rfl, HA, HJ7, HO_4, HO_6, HO_7, HB⟩ := hcut
   cases kq with
   | zero => exact absurd HA.out (by simp [laws_FnExactAggregate.j0])
   | succ kj7 =>
    have H := HA.out
    clear HA
    simp only [laws_FnExactAggregate.j0] at H
    by_cases c23 : x40_7 = true
    ·subst c23
     rw [if_pos rfl] at H
     obtain rfl := Option.some.inj H
     go_wp2
     go_ret
     exact ⟨by first | rfl | (simp [errW_none, errW_some] <;> rfl) | (simp [*, errW_none, errW_some] <;> rfl), by repeat (first | (with_reducible first | exact HB.out | apply below_alloc | apply pw_below_drewN | apply below_drew1) | exact HB.out)⟩
    ·replace c23 := Bool.eq_false_iff.mpr c23
     subst c23
     rw [if_neg (show ¬ (false = true) by decide)] at H
     replace H := Option.bind_eq_some_iff.mp H
     obtain ⟨t373, A240, H⟩ := H
     have A24 := Aside0.mk A240
     clear A240
     replace H := Option.bind_eq_some_iff.mp H
     obtain ⟨t376, A250, H⟩ := H
     have A25 := Aside0.mk A250
     clear A250
     by_cases c26 : t376 = true
     ·subst c26
      rw [if_pos rfl] at H
      replace H := Option.bind_eq_some_iff.mp H
      obtain ⟨⟨t377, t378⟩, A270, H⟩ := H
      have A27 := Aside0.mk A270
      clear A270
      have HC28 := Aside0.mk H
      clear H
      go_upto_region 14 with (first | ((with_reducible refine gate_callee (f := 27) rfl ?_); refine gl_ (some 43) Try.func27 #[.slice A0 l0.length c0] ?_; (with_reducible refine (laws_toPrefixS.calls kj7 _ _ l0 t373 _ ?side1 ?side2 A24.out).mono ?_); (case side1 => exact cb_ HR0 HB); (case side2 => exact HC0.out); rintro e w29 ⟨v374, rfl, ho0, hb⟩; refine ⟨_, rfl, ?_⟩; have HO375 := Aside0.mk (Kd.R_lower (Kd.R_new' (Kd.R_new' (Kd.R_new' ho0 (Kd.R_lt (hd_ HO_4))) (Kd.R_lt (hd_ HO_6))) (Kd.R_lt (hd_ HO_7))) (bz_ HB)); replace HO_4 := Aside0.mk (Kd.R_elder' (hd_ HO_4) (Kd.R_base ho0) hb); replace HO_6 := Aside0.mk (Kd.R_elder' (hd_ HO_6) (Kd.R_base ho0) hb); replace HO_7 := Aside0.mk (Kd.R_elder' (hd_ HO_7) (Kd.R_base ho0) hb); replace HB := Aside0.mk (bt_ HB hb); (try clear hb); (try clear hb2); (try clear hk); (try clear hi); (try clear ho0); obtain ⟨Ao30, co30, eo30⟩ := Kd.R_slice HO375.out; subst eo30) | ((with_reducible refine gate_callee (f := 29) rfl ?_); refine gl_ (some 44) Try.func29 #[.slice Ao13 t365.length co13, .slice Ao30 t373.length co30] ?_; (with_reducible refine (laws_eqPrefixS.calls kj7 _ _ t365 _ _ t373 true _ ?side1 ?side2 ?side3 ?side4 A25.out).mono ?_); (case side1 => exact rc_ HO_6); (case side2 => exact (Kd.R_reads' HO_6.out).2.1); (case side3 => exact rc_ HO375); (case side4 => exact (Kd.R_reads' HO375.out).2.1); rintro e w31 ⟨rfl, hb⟩; refine ⟨_, rfl, ?_⟩; replace HO_4 := rb_ HO_4 hb; replace HO_6 := rb_ HO_6 hb; replace HO_7 := rb_ HO_7 hb; replace HO375 := rb_ HO375 hb; replace HB := Aside0.mk (bt_ HB hb); (try clear hb); (try clear hb2); (try clear hk); (try clear hi)) | ((with_reducible refine gate_callee (f := 32) rfl ?_); refine gl_ (some 48) Try.func32 #[.slice Ao13 t365.length co13, .int .i64 1] ?_; (with_reducible refine (laws_markPrefixS.calls kj7 (fun k_ => some k_ = (.slice Ao13 t365.length co13 : Value).ownBlock) (.slice Ao13 t365.length co13) t365 1 t377 t378 w _ ?side1 ?side2 A27.out).mono ?_); (case side1 => exact by_ HB); (case side2 => exact Kd.R_tight rfl HO_6.out); rintro e w32 ⟨rfl, hy0, hb, hkp⟩; refine ⟨_, rfl, ?_⟩; replace HO_4 := kp_ (fun k_ => some k_ ≠ (.slice Ao13 t365.length co13 : Value).ownBlock ∧ some k_ ≠ (v370 : Value).ownBlock ∧ some k_ ≠ (.slice Ao30 t373.length co30 : Value).ownBlock) (HO_4.out) hkp; replace HO_6 := Aside0.mk (Kd.R_reok rfl hy0 (fun k_ e_ => HO_6.out.1 k_ e_)); replace HO_7 := kp_ (fun k_ => some k_ ≠ (v363 : Value).ownBlock ∧ some k_ ≠ (.slice Ao13 t365.length co13 : Value).ownBlock ∧ some k_ ≠ (.slice Ao30 t373.length co30 : Value).ownBlock) (HO_7.out) hkp; replace HO375 := kp_ (fun k_ => some k_ ≠ (v363 : Value).ownBlock ∧ some k_ ≠ (.slice Ao13 t365.length co13 : Value).ownBlock ∧ some k_ ≠ (v370 : Value).ownBlock) (HO375.out) hkp; replace HB := Aside0.mk (hb); (try clear hb); (try clear hkp); (try clear hy0)))
      (try simp only [Act.put, List.setIfInBounds_toArray, List.set_cons_zero, List.set_cons_succ])
      go_cut [61] (fun v61 wc => ∃ (kq : Nat) (x61_27 : Bool), v61 = .bool x61_27 ∧ Aside0 (laws_FnExactAggregate.j1 kq l0 t361 t362 t368 x61_27 = some r) ∧ Aside0 (kq ≤ kj7) ∧ Aside0 (Kd.R k28 28 wc w.heap.size (fun k_ => some k_ ≠ (v370 : Value).ownBlock) v363 t361) ∧ Aside0 (Kd.R k28 28 wc w.heap.size (fun k_ => some k_ ≠ (v363 : Value).ownBlock) v370 t368) ∧ Aside0 (Below w.heap.size w wc))
      case first =>
       have H := HC28.out
       clear HC28
       by_cases c33 : t377 < 0
       ·rw [if_pos c33] at H
        have c33b0 : decide (t377 < 0) = true := decide_eq_true c33
        clear c33
        (first | rw [c33b0] | (simp only [i64_w, i32_w]; rw [c33b0]) | skip)
        have H' := Aside0.mk H
        clear H
        go_wp2
        go_meet
        case rel => exact ⟨_, (true), (by first | rfl | (simp; done) | (simp [*]; done)), H', ⟨by have := HJ7.out; first | omega | exact Nat.le_refl _⟩, ⟨by (with_reducible repeat (first | apply Kd.R_alloc | apply Kd.R_drewN | apply Kd.R_drew)); exact Kd.R_mono HO_4.out (fun _ hk => hk.2.1)⟩, ⟨by (with_reducible repeat (first | apply Kd.R_alloc | apply Kd.R_drewN | apply Kd.R_drew)); exact Kd.R_mono HO_7.out (fun _ hk => hk.1)⟩, ⟨by repeat (first | (with_reducible first | exact HB.out | apply below_alloc | apply pw_below_drewN | apply below_drew1) | exact HB.out)⟩⟩
       ·rw [if_neg c33] at H
        have c33b0 : decide (t377 < 0) = false := decide_eq_false c33
        clear c33
        (first | rw [c33b0] | (simp only [i64_w, i32_w]; rw [c33b0]) | skip)
        replace H := Option.bind_eq_some_iff.mp H
        obtain ⟨t379, A340, H⟩ := H
        have A34 := Aside0.mk A340
        clear A340
        by_cases c35 : t379 = true
        ·subst c35
         rw [if_pos rfl] at H
         have H' := Aside0.mk H
         clear H
         obtain ⟨Ao36, co36, eo36⟩ := Kd.R_slice HO_7.out
         subst eo36
         obtain ⟨Ao37, co37, eo37⟩ := Kd.R_slice HO_4.out
         subst eo37
         go_wp2_with (first | (go_at_call 29; (with_reducible refine (laws_eqPrefixS.calls kj7 _ _ t368 _ _ t361 true _ ?side1 ?side2 ?side3 ?side4 A34.out).mono ?_); (case side1 => exact rc_ HO_7); (case side2 => exact (Kd.R_reads' HO_7.out).2.1); (case side3 => exact rc_ HO_4); (case side4 => exact (Kd.R_reads' HO_4.out).2.1); rintro e w38 ⟨rfl, hb⟩; replace HO_4 := rb_ HO_4 hb; replace HO_6 := rb_ HO_6 hb; replace HO_7 := rb_ HO_7 hb; replace HO375 := rb_ HO375 hb; replace HB := Aside0.mk (bt_ HB hb); (try clear hb); (try clear hb2); (try clear hk); (try clear hi)))
         go_meet
         case rel => exact ⟨_, ((t369 != t362)), (by first | rfl | (simp; done) | (simp [*]; done)), H', ⟨by have := HJ7.out; first | omega | exact Nat.le_refl _⟩, ⟨by (with_reducible repeat (first | apply Kd.R_alloc | apply Kd.R_drewN | apply Kd.R_drew)); exact Kd.R_mono HO_4.out (fun _ hk => hk.2.1)⟩, ⟨by (with_reducible repeat (first | apply Kd.R_alloc | apply Kd.R_drewN | apply Kd.R_drew)); exact Kd.R_mono HO_7.out (fun _ hk => hk.1)⟩, ⟨by repeat (first | (with_reducible first | exact HB.out | apply below_alloc | apply pw_below_drewN | apply below_drew1) | exact HB.out)⟩⟩
        ·replace c35 := Bool.eq_false_iff.mpr c35
         subst c35
         rw [if_neg (show ¬ (false = true) by decide)] at H
         have H' := Aside0.mk H
         clear H
         obtain ⟨Ao39, co39, eo39⟩ := Kd.R_slice HO_7.out
         subst eo39
         obtain ⟨Ao40, co40, eo40⟩ := Kd.R_slice HO_4.out
         subst eo40
         go_wp2_with (first | (go_at_call 29; (with_reducible refine (laws_eqPrefixS.calls kj7 _ _ t368 _ _ t361 false _ ?side1 ?side2 ?side3 ?side4 A34.out).mono ?_); (case side1 => exact rc_ HO_7); (case side2 => exact (Kd.R_reads' HO_7.out).2.1); (case side3 => exact rc_ HO_4); (case side4 => exact (Kd.R_reads' HO_4.out).2.1); rintro e w41 ⟨rfl, hb⟩; replace HO_4 := rb_ HO_4 hb; replace HO_6 := rb_ HO_6 hb; replace HO_7 := rb_ HO_7 hb; replace HO375 := rb_ HO375 hb; replace HB := Aside0.mk (bt_ HB hb); (try clear hb); (try clear hb2); (try clear hk); (try clear hi)))
         go_meet
         case rel => exact ⟨_, (true), (by first | rfl | (simp; done) | (simp [*]; done)), H', ⟨by have := HJ7.out; first | omega | exact Nat.le_refl _⟩, ⟨by (with_reducible repeat (first | apply Kd.R_alloc | apply Kd.R_drewN | apply Kd.R_drew)); exact Kd.R_mono HO_4.out (fun _ hk => hk.2.1)⟩, ⟨by (with_reducible repeat (first | apply Kd.R_alloc | apply Kd.R_drewN | apply Kd.R_drew)); exact Kd.R_mono HO_7.out (fun _ hk => hk.1)⟩, ⟨by repeat (first | (with_reducible first | exact HB.out | apply below_alloc | apply pw_below_drewN | apply below_drew1) | exact HB.out)⟩⟩
      case rest =>
       clear HC28
       try clear c1
       try clear c2
       try clear p2
       try clear c3
       try clear c3b0
       try clear c6
       try clear c16
       try clear c23
       try clear c25
       try clear c26
       try clear c27
       try clear c29
       try clear c30
       try clear c31
       try clear c32
       try clear c33
       try clear c33b0
       try clear c35
       try clear p2
       obtain ⟨kq, x61_27, rfl, HA, HJ27, HO_4, HO_7, HB⟩ := hcut
       cases kq with
       | zero => exact absurd HA.out (by simp [laws_FnExactAggregate.j1])
       | succ kj27 =>
        have H := HA.out
        clear HA
        simp only [laws_FnExactAggregate.j1] at H
        by_cases c42 : x61_27 = true
        ·subst c42
         rw [if_pos rfl] at H
         obtain rfl := Option.some.inj H
         go_wp2
         go_ret
         exact ⟨by first | rfl | (simp [errW_none, errW_some] <;> rfl) | (simp [*, errW_none, errW_some] <;> rfl), by repeat (first | (with_reducible first | exact HB.out | apply below_alloc | apply pw_below_drewN | apply below_drew1) | exact HB.out)⟩
        ·replace c42 := Bool.eq_false_iff.mpr c42
         subst c42
         rw [if_neg (show ¬ (false = true) by decide)] at H
         replace H := Option.bind_eq_some_iff.mp H
         obtain ⟨⟨t380, t381⟩, A430, H⟩ := H
         have A43 := Aside0.mk A430
         clear A430
         replace H := Option.bind_eq_some_iff.mp H
         obtain ⟨t382, A440, H⟩ := H
         have A44 := Aside0.mk A440
         clear A440
         by_cases c45 : t382 < 0
         ·rw [if_pos c45] at H
          have c45b0 : decide (t382 < 0) = true := decide_eq_true c45
          clear c45
          obtain rfl := Option.some.inj H
          obtain ⟨Ao46, co46, eo46⟩ := Kd.R_slice HO_7.out
          subst eo46
          go_wp2_with (first | ((with_reducible refine gate_callee (f := 32) rfl ?_); refine gl_ (some 64) Try.func32 #[.slice Ao46 t368.length co46, .int .i64 1] ?_; (with_reducible refine (laws_markPrefixS.calls kj27 (fun k_ => some k_ = (.slice Ao46 t368.length co46 : Value).ownBlock) (.slice Ao46 t368.length co46) t368 1 t380 t381 w _ ?side1 ?side2 A43.out).mono ?_); (case side1 => exact by_ HB); (case side2 => exact Kd.R_tight rfl HO_7.out); rintro e w47 ⟨rfl, hy0, hb, hkp⟩; refine ⟨_, rfl, ?_⟩; replace HO_4 := kp_ (fun k_ => some k_ ≠ (.slice Ao46 t368.length co46 : Value).ownBlock) (HO_4.out) hkp; replace HO_7 := Aside0.mk (Kd.R_reok rfl hy0 (fun k_ e_ => HO_7.out.1 k_ e_)); replace HB := Aside0.mk (hb); (try clear hb); (try clear hkp); (try clear hy0)) | ((with_reducible refine gate_callee (f := 33) rfl ?_); refine goesL_ (some 67) rfl rfl Try.func33 (by kernel_rfl) rfl #[.slice Ao46 t381.length co46, .int .i64 1] rfl (by (try simp only [List.map_toArray, List.map_cons, List.map_nil]); first | done | (rw [show t381.length = t368.length from (Kd.R_reads' HO_7.out).1.symm] <;> rfl) | rfl | (simp only [List.length_drop, List.length_take]; rfl)) ?_; (with_reducible refine (laws_heldPrefixS.calls kj27 _ _ t381 1 t382 _ ?side1 ?side2 A44.out).mono ?_); (case side1 => exact rc_ HO_7); (case side2 => rw [show t381.length = t368.length from (Kd.R_reads' HO_7.out).1.symm]; exact (Kd.R_reads' HO_7.out).2.1); rintro e w' ⟨rfl, ⟨nd, rfl⟩⟩; refine ⟨_, rfl, ?_⟩))
          go_ret
          exact ⟨by first | rfl | (simp [errW_none, errW_some] <;> rfl) | (simp [*, errW_none, errW_some] <;> rfl), by repeat (first | (with_reducible first | exact HB.out | apply below_alloc | apply pw_below_drewN | apply below_drew1) | exact HB.out)⟩
         ·rw [if_neg c45] at H
          have c45b0 : decide (t382 < 0) = false := decide_eq_false c45
          clear c45
          by_cases c48 : t382 = t380
          ·rw [if_pos c48] at H
           have c48b0 : (t382 == t380) = true := beq_iff_eq.mpr c48
           have c48b1 : (t382 != t380) = false := bne_eq_false_iff_eq.mpr c48
           clear c48
           replace H := Option.bind_eq_some_iff.mp H
           obtain ⟨t383, A490, H⟩ := H
           have A49 := Aside0.mk A490
           clear A490
           replace H := Option.bind_eq_some_iff.mp H
           obtain ⟨⟨t386, t387⟩, A500, H⟩ := H
           have A50 := Aside0.mk A500
           clear A500
           have HC51 := Aside0.mk H
           clear H
           obtain ⟨Ao52, co52, eo52⟩ := Kd.R_slice HO_7.out
           subst eo52
           go_upto_region 25 with (first | ((with_reducible refine gate_callee (f := 32) rfl ?_); refine gl_ (some 64) Try.func32 #[.slice Ao52 t368.length co52, .int .i64 1] ?_; (with_reducible refine (laws_markPrefixS.calls kj27 (fun k_ => some k_ = (.slice Ao52 t368.length co52 : Value).ownBlock) (.slice Ao52 t368.length co52) t368 1 t380 t381 w _ ?side1 ?side2 A43.out).mono ?_); (case side1 => exact by_ HB); (case side2 => exact Kd.R_tight rfl HO_7.out); rintro e w53 ⟨rfl, hy0, hb, hkp⟩; refine ⟨_, rfl, ?_⟩; replace HO_4 := kp_ (fun k_ => some k_ ≠ (.slice Ao52 t368.length co52 : Value).ownBlock) (HO_4.out) hkp; replace HO_7 := Aside0.mk (Kd.R_reok rfl hy0 (fun k_ e_ => HO_7.out.1 k_ e_)); replace HB := Aside0.mk (hb); (try clear hb); (try clear hkp); (try clear hy0)) | ((with_reducible refine gate_callee (f := 33) rfl ?_); refine goesL_ (some 67) rfl rfl Try.func33 (by kernel_rfl) rfl #[.slice Ao52 t381.length co52, .int .i64 1] rfl (by (try simp only [List.map_toArray, List.map_cons, List.map_nil]); first | done | (rw [show t381.length = t368.length from (Kd.R_reads' HO_7.out).1.symm] <;> rfl) | rfl | (simp only [List.length_drop, List.length_take]; rfl)) ?_; (with_reducible refine (laws_heldPrefixS.calls kj27 _ _ t381 1 t382 _ ?side1 ?side2 A44.out).mono ?_); (case side1 => exact rc_ HO_7); (case side2 => rw [show t381.length = t368.length from (Kd.R_reads' HO_7.out).1.symm]; exact (Kd.R_reads' HO_7.out).2.1); rintro e w' ⟨rfl, ⟨nd, rfl⟩⟩; refine ⟨_, rfl, ?_⟩) | ((with_reducible refine gate_callee (f := 27) rfl ?_); refine gl_ (some 75) Try.func27 #[.slice A0 l0.length c0] ?_; (with_reducible refine (laws_toPrefixS.calls kj27 _ _ l0 t383 _ ?side1 ?side2 A49.out).mono ?_); (case side1 => exact cc_ HR0 HB); (case side2 => exact HC0.out); rintro e w54 ⟨v384, rfl, ho0, hb⟩; refine ⟨_, rfl, ?_⟩; have HO385 := Aside0.mk (Kd.R_lower (Kd.R_new' (Kd.R_new' ho0 (Kd.R_lt (hd_ HO_4))) (Kd.R_lt (hd_ HO_7))) (bz_ HB)); replace HO_4 := Aside0.mk (Kd.R_elder' (hd_ HO_4) (Kd.R_base ho0) hb); replace HO_7 := Aside0.mk (Kd.R_elder' (hd_ HO_7) (Kd.R_base ho0) hb); replace HB := Aside0.mk (bt_ HB hb); (try clear hb); (try clear hb2); (try clear hk); (try clear hi); (try clear ho0); obtain ⟨Ao55, co55, eo55⟩ := Kd.R_slice HO385.out; subst eo55) | ((with_reducible refine gate_callee (f := 31) rfl ?_); refine gl_ (some 76) Try.func31 #[.slice Ao55 t383.length co55] ?_; (with_reducible refine (impl_Aggregate.calls kj27 _ _ t383 t386 t387 _ ?side1 ?side2 A50.out).mono ?_); (case side1 => exact rc_ HO385); (case side2 => exact (Kd.R_reads' HO385.out).2.1); rintro e w56 ⟨v388, rfl, ho0, hb⟩; refine ⟨_, rfl, ?_⟩; have HO389 := Aside0.mk (Kd.R_lower (Kd.R_new' (Kd.R_new' (Kd.R_new' ho0 (Kd.R_lt (hd_ HO_4))) (Kd.R_lt (hd_ HO_7))) (Kd.R_lt (hd_ HO385))) (bz_ HB)); replace HO_4 := Aside0.mk (Kd.R_elder' (hd_ HO_4) (Kd.R_base ho0) hb); replace HO_7 := Aside0.mk (Kd.R_elder' (hd_ HO_7) (Kd.R_base ho0) hb); replace HO385 := Aside0.mk (Kd.R_elder' (hd_ HO385) (Kd.R_base ho0) hb); replace HB := Aside0.mk (bt_ HB hb); (try clear hb); (try clear hb2); (try clear hk); (try clear hi); (try clear ho0)))
           (try simp only [Act.put, List.setIfInBounds_toArray, List.set_cons_zero, List.set_cons_succ])
           go_cut [87] (fun v87 wc => ∃ (kq : Nat) (x87_50 : Bool), v87 = .bool x87_50 ∧ Aside0 (laws_FnExactAggregate.j2 kq t381 t380 x87_50 = some r) ∧ Aside0 (kq ≤ kj27) ∧ Aside0 (Kd.R k28 28 wc w.heap.size (fun _ => True) (.slice Ao52 t368.length co52) t381) ∧ Aside0 (Below w.heap.size w wc))
           case first =>
            have H := HC51.out
            clear HC51
            replace H := Option.bind_eq_some_iff.mp H
            obtain ⟨t390, A570, H⟩ := H
            have A57 := Aside0.mk A570
            clear A570
            by_cases c58 : t390 = true
            ·subst c58
             rw [if_pos rfl] at H
             have H' := Aside0.mk H
             clear H
             obtain ⟨Ao59, co59, eo59⟩ := Kd.R_slice HO389.out
             subst eo59
             obtain ⟨Ao60, co60, eo60⟩ := Kd.R_slice HO_4.out
             subst eo60
             go_wp2_with (first | ((with_reducible refine gate_callee (f := 29) rfl ?_); refine gl_ (some 81) Try.func29 #[.slice Ao59 t386.length co59, .slice Ao60 t361.length co60] ?_; (with_reducible refine (laws_eqPrefixS.calls kj27 _ _ t386 _ _ t361 true _ ?side1 ?side2 ?side3 ?side4 A57.out).mono ?_); (case side1 => exact rc_ HO389); (case side2 => exact (Kd.R_reads' HO389.out).2.1); (case side3 => exact rc_ HO_4); (case side4 => exact (Kd.R_reads' HO_4.out).2.1); rintro e w61 ⟨rfl, hb⟩; refine ⟨_, rfl, ?_⟩; replace HO_4 := rb_ HO_4 hb; replace HO_7 := rb_ HO_7 hb; replace HO385 := rb_ HO385 hb; replace HO389 := rb_ HO389 hb; replace HB := Aside0.mk (bt_ HB hb); (try clear hb); (try clear hb2); (try clear hk); (try clear hi)))
             go_meet
             case rel => exact ⟨_, ((t387 != t362)), (by first | rfl | (simp; done) | (simp [*]; done)), H', ⟨by have := HJ7.out; have := HJ27.out; first | omega | exact Nat.le_refl _⟩, ⟨by (with_reducible repeat (first | apply Kd.R_alloc | apply Kd.R_drewN | apply Kd.R_drew)); exact Kd.R_mono HO_7.out (fun _ hk => trivial)⟩, ⟨by repeat (first | (with_reducible first | exact HB.out | apply below_alloc | apply pw_below_drewN | apply below_drew1) | exact HB.out)⟩⟩
            ·replace c58 := Bool.eq_false_iff.mpr c58
             subst c58
             rw [if_neg (show ¬ (false = true) by decide)] at H
             have H' := Aside0.mk H
             clear H
             obtain ⟨Ao62, co62, eo62⟩ := Kd.R_slice HO389.out
             subst eo62
             obtain ⟨Ao63, co63, eo63⟩ := Kd.R_slice HO_4.out
             subst eo63
             go_wp2_with (first | ((with_reducible refine gate_callee (f := 29) rfl ?_); refine gl_ (some 81) Try.func29 #[.slice Ao62 t386.length co62, .slice Ao63 t361.length co63] ?_; (with_reducible refine (laws_eqPrefixS.calls kj27 _ _ t386 _ _ t361 false _ ?side1 ?side2 ?side3 ?side4 A57.out).mono ?_); (case side1 => exact rc_ HO389); (case side2 => exact (Kd.R_reads' HO389.out).2.1); (case side3 => exact rc_ HO_4); (case side4 => exact (Kd.R_reads' HO_4.out).2.1); rintro e w64 ⟨rfl, hb⟩; refine ⟨_, rfl, ?_⟩; replace HO_4 := rb_ HO_4 hb; replace HO_7 := rb_ HO_7 hb; replace HO385 := rb_ HO385 hb; replace HO389 := rb_ HO389 hb; replace HB := Aside0.mk (bt_ HB hb); (try clear hb); (try clear hb2); (try clear hk); (try clear hi)))
             go_meet
             case rel => exact ⟨_, (true), (by first | rfl | (simp; done) | (simp [*]; done)), H', ⟨by have := HJ7.out; have := HJ27.out; first | omega | exact Nat.le_refl _⟩, ⟨by (with_reducible repeat (first | apply Kd.R_alloc | apply Kd.R_drewN | apply Kd.R_drew)); exact Kd.R_mono HO_7.out (fun _ hk => trivial)⟩, ⟨by repeat (first | (with_reducible first | exact HB.out | apply below_alloc | apply pw_below_drewN | apply below_drew1) | exact HB.out)⟩⟩
           case rest =>
            clear HC51
            try clear c1
            try clear c2
            try clear p2
            try clear c3
            try clear c3b0
            try clear c4
            try clear c5
            try clear c6
            try clear c16
            try clear c23
            try clear c25
            try clear c26
            try clear c27
            try clear c29
            try clear c30
            try clear c31
            try clear c32
            try clear c33
            try clear c33b0
            try clear c35
            try clear c42
            try clear c45
            try clear c45b0
            try clear c48
            try clear c48b0
            try clear c48b1
            try clear c58
            try clear p2
            obtain ⟨kq, x87_50, rfl, HA, HJ50, HO_7, HB⟩ := hcut
            have hl7_50 := (Kd.R_reads' HO_7.out).1
            rw [hl7_50] at HO_7
            (try simp only [hl7_50])
            cases kq with
            | zero => exact absurd HA.out (by simp [laws_FnExactAggregate.j2])
            | succ kj50 =>
             have H := HA.out
             clear HA
             simp only [laws_FnExactAggregate.j2] at H
             by_cases c65 : x87_50 = true
             ·subst c65
              rw [if_pos rfl] at H
              obtain rfl := Option.some.inj H
              go_wp2
              go_ret
              exact ⟨by first | rfl | (simp [errW_none, errW_some] <;> rfl) | (simp [*, errW_none, errW_some] <;> rfl), by repeat (first | (with_reducible first | exact HB.out | apply below_alloc | apply pw_below_drewN | apply below_drew1) | exact HB.out)⟩
             ·replace c65 := Bool.eq_false_iff.mpr c65
              subst c65
              rw [if_neg (show ¬ (false = true) by decide)] at H
              replace H := Option.bind_eq_some_iff.mp H
              obtain ⟨t391, A660, H⟩ := H
              have A66 := Aside0.mk A660
              clear A660
              by_cases c67 : t391 < 0
              ·rw [if_pos c67] at H
               have c67b0 : decide (t391 < 0) = true := decide_eq_true c67
               clear c67
               obtain rfl := Option.some.inj H
               go_wp2_with (first | ((with_reducible refine gate_callee (f := 33) rfl ?_); refine gl_ (some 90) Try.func33 #[.slice Ao52 t381.length co52, .int .i64 1] ?_; (with_reducible refine (laws_heldPrefixS.calls kj50 _ _ t381 1 t391 _ ?side1 ?side2 A66.out).mono ?_); (case side1 => exact rc_ HO_7); (case side2 => exact (Kd.R_reads' HO_7.out).2.1); rintro e w' ⟨rfl, ⟨nd, rfl⟩⟩; refine ⟨_, rfl, ?_⟩))
               go_ret
               exact ⟨by first | rfl | (simp [errW_none, errW_some] <;> rfl) | (simp [*, errW_none, errW_some] <;> rfl), by repeat (first | (with_reducible first | exact HB.out | apply below_alloc | apply pw_below_drewN | apply below_drew1) | exact HB.out)⟩
              ·rw [if_neg c67] at H
               have c67b0 : decide (t391 < 0) = false := decide_eq_false c67
               clear c67
               by_cases c68 : t391 = t380
               ·rw [if_pos c68] at H
                have c68b0 : (t391 == t380) = true := beq_iff_eq.mpr c68
                have c68b1 : (t391 != t380) = false := bne_eq_false_iff_eq.mpr c68
                clear c68
                obtain rfl := Option.some.inj H
                go_wp2_with (first | ((with_reducible refine gate_callee (f := 33) rfl ?_); refine gl_ (some 90) Try.func33 #[.slice Ao52 t381.length co52, .int .i64 1] ?_; (with_reducible refine (laws_heldPrefixS.calls kj50 _ _ t381 1 t391 _ ?side1 ?side2 A66.out).mono ?_); (case side1 => exact rc_ HO_7); (case side2 => exact (Kd.R_reads' HO_7.out).2.1); rintro e w' ⟨rfl, ⟨nd, rfl⟩⟩; refine ⟨_, rfl, ?_⟩))
                go_ret
                exact ⟨by first | rfl | (simp [errW_none, errW_some] <;> rfl) | (simp [*, errW_none, errW_some] <;> rfl), by repeat (first | (with_reducible first | exact HB.out | apply below_alloc | apply pw_below_drewN | apply below_drew1) | exact HB.out)⟩
               ·rw [if_neg c68] at H
                have c68b0 : (t391 == t380) = false := beq_eq_false_iff_ne.mpr c68
                have c68b1 : (t391 != t380) = true := bne_iff_ne.mpr c68
                obtain rfl := Option.some.inj H
                go_wp2_with (first | ((with_reducible refine gate_callee (f := 33) rfl ?_); refine gl_ (some 90) Try.func33 #[.slice Ao52 t381.length co52, .int .i64 1] ?_; (with_reducible refine (laws_heldPrefixS.calls kj50 _ _ t381 1 t391 _ ?side1 ?side2 A66.out).mono ?_); (case side1 => exact rc_ HO_7); (case side2 => exact (Kd.R_reads' HO_7.out).2.1); rintro e w' ⟨rfl, ⟨nd, rfl⟩⟩; refine ⟨_, rfl, ?_⟩))
                go_ret
                exact ⟨by first | rfl | (simp [errW_none, errW_some] <;> rfl) | (simp [*, errW_none, errW_some] <;> rfl), by repeat (first | (with_reducible first | exact HB.out | apply below_alloc | apply pw_below_drewN | apply below_drew1) | exact HB.out)⟩
          ·rw [if_neg c48] at H
           have c48b0 : (t382 == t380) = false := beq_eq_false_iff_ne.mpr c48
           have c48b1 : (t382 != t380) = true := bne_iff_ne.mpr c48
           obtain rfl := Option.some.inj H
           obtain ⟨Ao69, co69, eo69⟩ := Kd.R_slice HO_7.out
           subst eo69
           go_wp2_with (first | ((with_reducible refine gate_callee (f := 32) rfl ?_); refine gl_ (some 64) Try.func32 #[.slice Ao69 t368.length co69, .int .i64 1] ?_; (with_reducible refine (laws_markPrefixS.calls kj27 (fun k_ => some k_ = (.slice Ao69 t368.length co69 : Value).ownBlock) (.slice Ao69 t368.length co69) t368 1 t380 t381 w _ ?side1 ?side2 A43.out).mono ?_); (case side1 => exact by_ HB); (case side2 => exact Kd.R_tight rfl HO_7.out); rintro e w70 ⟨rfl, hy0, hb, hkp⟩; refine ⟨_, rfl, ?_⟩; replace HO_4 := kp_ (fun k_ => some k_ ≠ (.slice Ao69 t368.length co69 : Value).ownBlock) (HO_4.out) hkp; replace HO_7 := Aside0.mk (Kd.R_reok rfl hy0 (fun k_ e_ => HO_7.out.1 k_ e_)); replace HB := Aside0.mk (hb); (try clear hb); (try clear hkp); (try clear hy0)) | ((with_reducible refine gate_callee (f := 33) rfl ?_); refine goesL_ (some 67) rfl rfl Try.func33 (by kernel_rfl) rfl #[.slice Ao69 t381.length co69, .int .i64 1] rfl (by (try simp only [List.map_toArray, List.map_cons, List.map_nil]); first | done | (rw [show t381.length = t368.length from (Kd.R_reads' HO_7.out).1.symm] <;> rfl) | rfl | (simp only [List.length_drop, List.length_take]; rfl)) ?_; (with_reducible refine (laws_heldPrefixS.calls kj27 _ _ t381 1 t382 _ ?side1 ?side2 A44.out).mono ?_); (case side1 => exact rc_ HO_7); (case side2 => rw [show t381.length = t368.length from (Kd.R_reads' HO_7.out).1.symm]; exact (Kd.R_reads' HO_7.out).2.1); rintro e w' ⟨rfl, ⟨nd, rfl⟩⟩; refine ⟨_, rfl, ?_⟩))
           go_ret
           exact ⟨by first | rfl | (simp [errW_none, errW_some] <;> rfl) | (simp [*, errW_none, errW_some] <;> rfl), by repeat (first | (with_reducible first | exact HB.out | apply below_alloc | apply pw_below_drewN | apply below_drew1) | exact HB.out)⟩
     ·replace c26 := Bool.eq_false_iff.mpr c26
      subst c26
      rw [if_neg (show ¬ (false = true) by decide)] at H
      obtain rfl := Option.some.inj H
      go_wp2_with (first | ((with_reducible refine gate_callee (f := 27) rfl ?_); refine gl_ (some 43) Try.func27 #[.slice A0 l0.length c0] ?_; (with_reducible refine (laws_toPrefixS.calls kj7 _ _ l0 t373 _ ?side1 ?side2 A24.out).mono ?_); (case side1 => exact cb_ HR0 HB); (case side2 => exact HC0.out); rintro e w71 ⟨v374, rfl, ho0, hb⟩; refine ⟨_, rfl, ?_⟩; have HO375 := Aside0.mk (Kd.R_lower (Kd.R_new' (Kd.R_new' (Kd.R_new' ho0 (Kd.R_lt (hd_ HO_4))) (Kd.R_lt (hd_ HO_6))) (Kd.R_lt (hd_ HO_7))) (bz_ HB)); replace HO_4 := Aside0.mk (Kd.R_elder' (hd_ HO_4) (Kd.R_base ho0) hb); replace HO_6 := Aside0.mk (Kd.R_elder' (hd_ HO_6) (Kd.R_base ho0) hb); replace HO_7 := Aside0.mk (Kd.R_elder' (hd_ HO_7) (Kd.R_base ho0) hb); replace HB := Aside0.mk (bt_ HB hb); (try clear hb); (try clear hb2); (try clear hk); (try clear hi); (try clear ho0); obtain ⟨Ao72, co72, eo72⟩ := Kd.R_slice HO375.out; subst eo72) | ((with_reducible refine gate_callee (f := 29) rfl ?_); refine gl_ (some 44) Try.func29 #[.slice Ao13 t365.length co13, .slice Ao72 t373.length co72] ?_; (with_reducible refine (laws_eqPrefixS.calls kj7 _ _ t365 _ _ t373 false _ ?side1 ?side2 ?side3 ?side4 A25.out).mono ?_); (case side1 => exact rc_ HO_6); (case side2 => exact (Kd.R_reads' HO_6.out).2.1); (case side3 => exact rc_ HO375); (case side4 => exact (Kd.R_reads' HO375.out).2.1); rintro e w73 ⟨rfl, hb⟩; refine ⟨_, rfl, ?_⟩; replace HO_4 := rb_ HO_4 hb; replace HO_6 := rb_ HO_6 hb; replace HO_7 := rb_ HO_7 hb; replace HO375 := rb_ HO375 hb; replace HB := Aside0.mk (bt_ HB hb); (try clear hb); (try clear hb2); (try clear hk); (try clear hi)))
      go_ret
      exact ⟨by first | rfl | (simp [errW_none, errW_some] <;> rfl) | (simp [*, errW_none, errW_some] <;> rfl), by repeat (first | (with_reducible first | exact HB.out | apply below_alloc | apply pw_below_drewN | apply below_drew1) | exact HB.out)⟩

end Go.Proofs.Ytjepmdngbafonaa.QFnExactAggregate
