/- Contracts of functions that the law reaches: what each call returns and what it leaves in memory. Made by this session over the print of the kit. -/
import Derived.Test.YtflfbaofgfandaaQFnExactCoverx0
namespace Go.Proofs.Ytflfbaofgfandaa.QFnExactCover
open Go.RowKit Go.Proofs.YtflfbaofgfandaaC.PrintWords Go.Proofs.YtflfbaofgfandaaC.PrintLast Go.Proofs.YtflfbaofgfandaaC.PrintMore
attribute [local go_sem] max2_int min2_int max_two min_two max_three min_three max_four min_four   -- for this text's walks alone
set_option linter.unusedVariables false
set_option linter.unusedSimpArgs false
abbrev tb1 : Bool := true
abbrev fb1 : Bool := false
def ba1_0 : Array Bool := #[fb1,fb1,fb1,fb1,fb1,fb1,fb1,fb1,fb1,fb1,fb1,fb1,fb1,fb1,fb1,fb1]
def ba1_1 : Array Bool := #[fb1,tb1,fb1,fb1,fb1,fb1,fb1,fb1,fb1,fb1,fb1,fb1,fb1,fb1,fb1,fb1]
def ba1_2 : Array Bool := #[fb1,tb1,fb1,fb1,fb1,fb1,fb1,fb1,fb1,tb1,fb1,fb1,fb1,fb1,fb1,fb1]
def ba1_3 : Array Bool := #[tb1,tb1,fb1,fb1,fb1,fb1,fb1,fb1,fb1,tb1,fb1,fb1,fb1,fb1,fb1,fb1]
def ba1_4 : Array Bool := #[tb1,tb1,tb1,fb1,fb1,fb1,fb1,fb1,fb1,tb1,fb1,fb1,fb1,fb1,fb1,fb1]
def ba1_5 : Array Bool := #[tb1,tb1,tb1,tb1,fb1,fb1,fb1,fb1,fb1,tb1,fb1,fb1,fb1,fb1,fb1,fb1]
def ba1_6 : Array Bool := #[tb1,tb1,tb1,tb1,fb1,fb1,fb1,fb1,tb1,tb1,fb1,fb1,fb1,fb1,fb1,fb1]
def ba1_7 : Array Bool := #[tb1,tb1,tb1,tb1,fb1,fb1,fb1,fb1,tb1,tb1,tb1,fb1,fb1,fb1,fb1,fb1]
def ba1_8 : Array Bool := #[tb1,tb1,tb1,tb1,fb1,fb1,fb1,fb1,tb1,tb1,tb1,tb1,fb1,fb1,fb1,fb1]
def ba1_9 : Array Bool := #[tb1,tb1,tb1,tb1,tb1,fb1,fb1,fb1,tb1,tb1,tb1,tb1,fb1,fb1,fb1,fb1]
def ba1_10 : Array Bool := #[tb1,tb1,tb1,tb1,tb1,tb1,fb1,fb1,tb1,tb1,tb1,tb1,fb1,fb1,fb1,fb1]
def ba1_11 : Array Bool := #[tb1,tb1,tb1,tb1,tb1,tb1,tb1,fb1,tb1,tb1,tb1,tb1,fb1,fb1,fb1,fb1]
def ba1_12 : Array Bool := #[tb1,tb1,tb1,tb1,tb1,tb1,tb1,tb1,tb1,tb1,tb1,tb1,fb1,fb1,fb1,fb1]
def ba1_13 : Array Bool := #[tb1,tb1,tb1,tb1,tb1,tb1,tb1,tb1,tb1,tb1,tb1,tb1,tb1,fb1,fb1,fb1]
def ba1_14 : Array Bool := #[tb1,tb1,tb1,tb1,tb1,tb1,tb1,tb1,tb1,tb1,tb1,tb1,tb1,tb1,fb1,fb1]
def ba1_15 : Array Bool := #[tb1,tb1,tb1,tb1,tb1,tb1,tb1,tb1,tb1,tb1,tb1,tb1,tb1,tb1,tb1,fb1]
def ba1_16 : Array Bool := #[tb1,tb1,tb1,tb1,tb1,tb1,tb1,tb1,tb1,tb1,tb1,tb1,tb1,tb1,tb1,tb1]

/-! ### spec_l01In: function 50 -/
def spec_l01In.f (a0 : Int) (a1 : Int) (a2 : Int) : Option (Bool) := if a1 ≤ a0 then (some (decide (a0 ≤ a2))) else (some false)
set_option maxHeartbeats 8000000 in
set_option maxRecDepth 100000 in
theorem spec_l01In.calls (a0 : Int) (a1 : Int) (a2 : Int) (r : Bool) (w : World) (h : spec_l01In.f a0 a1 a2 = some r) :
  Calls Try.prog 50 #[.int .i64 a0, .int .i64 a1, .int .i64 a2] w fun e w' => e = .returned (.bool r) ∧ Drawn0 w w' := by
 have H : (if a1 ≤ a0 then (some (decide (a0 ≤ a2))) else (some false)) = some r := h
 clear h
 by_cases c4 : a1 ≤ a0
 ·rw [if_pos c4] at H
  have c4b0 : decide (a1 ≤ a0) = true := decide_eq_true c4
  clear c4
  obtain rfl := Option.some.inj H
  go_enter Try.func50, Try.ntmps50
  go_wp2
  go_ret
  exact ⟨by first | rfl | (simp; done) | (simp [*]; done), by repeat (first | exact Drawn0.refl _ | apply Drawn0.step)⟩
 rw [if_neg c4] at H
 have c4b0 : decide (a1 ≤ a0) = false := decide_eq_false c4
 clear c4
 obtain rfl := Option.some.inj H
 go_enter Try.func50, Try.ntmps50
 go_wp2
 go_ret
 exact ⟨by first | rfl | (simp; done) | (simp [*]; done), by repeat (first | exact Drawn0.refl _ | apply Drawn0.step)⟩

/-! ### spec_l01Addr: function 42 -/
def spec_l01Addr.f (a0 : Int) : Option (Bool) := (spec_l01In.f a0 0 65535).bind fun t101 => (some t101)
set_option maxHeartbeats 8000000 in
set_option maxRecDepth 100000 in
theorem spec_l01Addr.calls (a0 : Int) (r : Bool) (w : World) (h : spec_l01Addr.f a0 = some r) :
  Calls Try.prog 42 #[.int .i64 a0] w fun e w' => e = .returned (.bool r) ∧ Drawn0 w w' := by
 have H : ((spec_l01In.f a0 0 65535).bind fun t101 => (some t101)) = some r := h
 clear h
 replace H := Option.bind_eq_some_iff.mp H
 obtain ⟨t101, A20, H⟩ := H
 have A2 := Aside0.mk A20
 clear A20
 obtain rfl := Option.some.inj H
 go_enter Try.func42, Try.ntmps42
 go_wp2_with (first | ((with_reducible refine gate_callee (f := 50) rfl ?_); refine gl_ (some 4) Try.func50 #[.int .i64 a0, .int .i64 0, .int .i64 65535] ?_; (with_reducible refine (spec_l01In.calls a0 0 65535 t101 _ A2.out).mono ?_); rintro e w' ⟨rfl, ⟨nd, rfl⟩⟩; refine ⟨_, rfl, ?_⟩))
 go_ret
 exact ⟨by first | rfl | (simp; done) | (simp [*]; done), by repeat (first | exact Drawn0.refl _ | apply Drawn0.step)⟩

/-! ### spec_l01Size2: function 43 -/
def spec_l01Size2.f (a0 : Int) : Option (Int) := if 0 ≤ (IntKind.u64.wrap (wrap64 (16 - a0))) then (some (shl .i64 1 (IntKind.u64.wrap (wrap64 (16 - a0))))) else (none)
set_option maxHeartbeats 8000000 in
set_option maxRecDepth 100000 in
theorem spec_l01Size2.calls (a0 : Int) (r : Int) (w : World) (h : spec_l01Size2.f a0 = some r) :
  Calls Try.prog 43 #[.int .i64 a0] w fun e w' => e = .returned (.int .i64 r) ∧ Drawn0 w w' := by
 have H : (if 0 ≤ (IntKind.u64.wrap (wrap64 (16 - a0))) then (some (shl .i64 1 (IntKind.u64.wrap (wrap64 (16 - a0))))) else (none)) = some r := h
 clear h
 obtain ⟨ji2, hji2⟩ : ∃ j_ : Int, (IntKind.u64.wrap (wrap64 (16 - a0))) = j_ := ⟨_, rfl⟩
 first | rw [hji2] at H | simp only [hji2] at H
 by_cases c3 : 0 ≤ (ji2)
 rotate_left
 ·rw [if_neg c3] at H
  exact absurd H (by simp)
 rw [if_pos c3] at H
 have c3b0 := eq_true c3
 have c3b1 : decide (0 ≤ (ji2)) = true := decide_eq_true c3
 clear c3
 obtain ⟨ji4, hji4⟩ : ∃ j_ : Int, (shl .i64 1 (ji2)) = j_ := ⟨_, rfl⟩
 first | rw [hji4] at H | simp only [hji4] at H
 have hji4_ : (IntKind.i64.wrap (1 * 2 ^ min (ji2).toNat 64)) = ji4 := hji4
 have hji4z : (ji2) ≤ 64 → (IntKind.i64.wrap (1 * 2 ^ (ji2).toNat)) = ji4 := shl_small hji4
 have hji4u : (IntKind.i64.wrap (2 ^ min (ji2).toNat 64)) = ji4 := by have h_ := hji4_; rw [Int.one_mul] at h_; exact h_
 have hji4v : (ji2) ≤ 64 → (IntKind.i64.wrap (2 ^ (ji2).toNat)) = ji4 := fun hle_ => by have h_ := hji4z hle_; rw [Int.one_mul] at h_; exact h_
 have hji4y : (wrap64 (1 * 2 ^ min (ji2).toNat 64)) = ji4 := (i64_w _).symm.trans hji4_
 have hji4x : (ji2) ≤ 64 → (wrap64 (1 * 2 ^ (ji2).toNat)) = ji4 := fun h_ => (i64_w _).symm.trans (hji4z h_)
 obtain rfl := Option.some.inj H
 go_enter Try.func43, Try.ntmps43
 go_wp2
 go_ret
 exact ⟨by first | rfl | (simp; done) | (simp only [← hji2, ← hji4] <;> (first | rfl | simp)) | (simp [*]; done), by repeat (first | exact Drawn0.refl _ | apply Drawn0.step)⟩

/-! ### spec_Cover: function 20 -/
mutual
def spec_Cover.j0 : Nat → Int → Int → List (S34) → Bool → Option ((List (S34)) × Bool)
 | 0, _, _, _, _ => none
 | k + 1, x0, x1, x6, x22 => if x22 = true then (some (([] : List (S34)), false)) else (spec_Cover.l0 k x1 x6 x0)
def spec_Cover.l0 : Nat → Int → List (S34) → Int → Option ((List (S34)) × Bool)
 | 0, _, _, _ => none
 | k + 1, x1, x6, x7 => if x7 ≤ x1 then (spec_Cover.l1 k x1 x6 x7 0) else (some (x6, true))
def spec_Cover.l1 : Nat → Int → List (S34) → Int → Int → Option ((List (S34)) × Bool)
 | 0, _, _, _, _ => none
 | k + 1, x1, x6, x7, x8 => (spec_l01Size2.f x8).bind fun t107 => (if t107 = 0 then (none) else (if (Int.tmod x7 t107) = 0 then ((spec_l01Size2.f x8).bind fun t108 => (if (wrap64 ((wrap64 (x7 + t108)) - 1)) > x1 then (spec_Cover.l1 k x1 x6 x7 (wrap64 (x8 + 1))) else (if x6.length < 8796093022208 then ((spec_l01Size2.f x8).bind fun t112 => (spec_Cover.l0 k x1 (x6 ++ [(⟨x7, x8⟩ : S34)]) (wrap64 (x7 + t112)))) else (none)))) else (spec_Cover.l1 k x1 x6 x7 (wrap64 (x8 + 1)))))
end
def spec_Cover.f (k : Nat) (a0 : Int) (a1 : Int) : Option ((List (S34)) × Bool) := (some (([] : List (S34)) : List (S34))).bind fun y102 => ((spec_l01Addr.f a0).bind fun t105 => (if t105 = true then ((spec_l01Addr.f a1).bind fun t106 => (if t106 = true then (spec_Cover.j0 k a0 a1 y102 (decide (a1 < a0))) else (spec_Cover.j0 k a0 a1 y102 true))) else (spec_Cover.j0 k a0 a1 y102 true)))
theorem spec_Cover.mono_l : ∀ k, (∀ y0 y1 y2 y3, LeO (spec_Cover.j0 k y0 y1 y2 y3) (spec_Cover.j0 (k + 1) y0 y1 y2 y3)) ∧ (∀ y0 y1 y2, LeO (spec_Cover.l0 k y0 y1 y2) (spec_Cover.l0 (k + 1) y0 y1 y2)) ∧ (∀ y0 y1 y2 y3, LeO (spec_Cover.l1 k y0 y1 y2 y3) (spec_Cover.l1 (k + 1) y0 y1 y2 y3))
 | 0 => ⟨fun _ _ _ _ r h => by simp [spec_Cover.j0] at h, fun _ _ _ r h => by simp [spec_Cover.l0] at h, fun _ _ _ _ r h => by simp [spec_Cover.l1] at h⟩
 | k + 1 => by
  obtain ⟨ih0, ih1, ih2⟩ := spec_Cover.mono_l k
  refine ⟨?_, ?_, ?_⟩
  ·intro y0 y1 y2 y3
   unfold spec_Cover.j0
   repeat' first
   | (with_reducible exact ih0 _ _ _ _)
   | (with_reducible exact ih1 _ _ _)
   | (with_reducible exact ih2 _ _ _ _)
   | (with_reducible exact LeO.refl _)
   | (with_reducible exact LeO.none _)
   | (with_reducible refine LeO.ite ?_ ?_)
   | (with_reducible refine LeO.bind ?_ (fun _ => ?_))
   | exact ih0 _ _ _ _
   | exact ih1 _ _ _
   | exact ih2 _ _ _ _
   | exact LeO.none _
   | refine LeO.ite ?_ ?_
   | refine LeO.bind ?_ (fun _ => ?_)
  ·intro y0 y1 y2
   unfold spec_Cover.l0
   repeat' first
   | (with_reducible exact ih0 _ _ _ _)
   | (with_reducible exact ih1 _ _ _)
   | (with_reducible exact ih2 _ _ _ _)
   | (with_reducible exact LeO.refl _)
   | (with_reducible exact LeO.none _)
   | (with_reducible refine LeO.ite ?_ ?_)
   | (with_reducible refine LeO.bind ?_ (fun _ => ?_))
   | exact ih0 _ _ _ _
   | exact ih1 _ _ _
   | exact ih2 _ _ _ _
   | exact LeO.none _
   | refine LeO.ite ?_ ?_
   | refine LeO.bind ?_ (fun _ => ?_)
  ·intro y0 y1 y2 y3
   unfold spec_Cover.l1
   repeat' first
   | (with_reducible exact ih0 _ _ _ _)
   | (with_reducible exact ih1 _ _ _)
   | (with_reducible exact ih2 _ _ _ _)
   | (with_reducible exact LeO.refl _)
   | (with_reducible exact LeO.none _)
   | (with_reducible refine LeO.ite ?_ ?_)
   | (with_reducible refine LeO.bind ?_ (fun _ => ?_))
   | exact ih0 _ _ _ _
   | exact ih1 _ _ _
   | exact ih2 _ _ _ _
   | exact LeO.none _
   | refine LeO.ite ?_ ?_
   | refine LeO.bind ?_ (fun _ => ?_)
theorem spec_Cover.mono : ∀ a0 a1 k, LeO (spec_Cover.f k a0 a1) (spec_Cover.f (k + 1) a0 a1) := by
 intro a0 a1 k
 obtain ⟨ih0, ih1, ih2⟩ := spec_Cover.mono_l k
 unfold spec_Cover.f
 repeat' first
   | (with_reducible exact ih0 _ _ _ _)
   | (with_reducible exact ih1 _ _ _)
   | (with_reducible exact ih2 _ _ _ _)
   | (with_reducible exact LeO.refl _)
   | (with_reducible exact LeO.none _)
   | (with_reducible refine LeO.ite ?_ ?_)
   | (with_reducible refine LeO.bind ?_ (fun _ => ?_))
   | exact ih0 _ _ _ _
   | exact ih1 _ _ _
   | exact ih2 _ _ _ _
   | exact LeO.none _
   | refine LeO.ite ?_ ?_
   | refine LeO.bind ?_ (fun _ => ?_)
set_option maxHeartbeats 8000000 in
set_option maxRecDepth 100000 in
theorem spec_Cover.calls (k : Nat) (a0 : Int) (a1 : Int) (r1 : List (S34)) (r2 : Bool) (w : World) (h : spec_Cover.f k a0 a1 = some (r1, r2)) :
  Calls Try.prog 20 #[.int .i64 a0, .int .i64 a1] w fun e w' => ∃ v0_ : Value, e = .returned (.tuple #[v0_, .bool r2]) ∧ Kd.R k34 34 w' w.heap.size (fun _ => True) v0_ r1 ∧ Below w.heap.size w w' := by
 have hu34 := Try.underlying34
 have HB := Aside0.mk (Below.refl w.heap.size w)
 have H : ((some (([] : List (S34)) : List (S34))).bind fun y102 => ((spec_l01Addr.f a0).bind fun t105 => (if t105 = true then ((spec_l01Addr.f a1).bind fun t106 => (if t106 = true then (spec_Cover.j0 k a0 a1 y102 (decide (a1 < a0))) else (spec_Cover.j0 k a0 a1 y102 true))) else (spec_Cover.j0 k a0 a1 y102 true)))) = some (r1, r2) := h
 clear h
 obtain ⟨y102, hy102⟩ : ∃ y_ : List (S34), y_ = (([] : List (S34))) := ⟨_, rfl⟩
 replace H : ((spec_l01Addr.f a0).bind fun t105 => (if t105 = true then ((spec_l01Addr.f a1).bind fun t106 => (if t106 = true then (spec_Cover.j0 k a0 a1 y102 (decide (a1 < a0))) else (spec_Cover.j0 k a0 a1 y102 true))) else (spec_Cover.j0 k a0 a1 y102 true))) = some (r1, r2) := by first | (rw [hy102]; with_reducible exact H) | (have H2_ := (Option.bind_some _ _).symm.trans H; rw [hy102]; with_reducible exact H2_) | (have H2_ := (Option.bind_some _ _).symm.trans H; with_reducible exact H2_) | with_reducible exact H | (rw [hy102]; exact H) | exact H
 have Ny102 := Aside0.mk hy102
 clear hy102
 have HC3 := Aside0.mk H
 clear H
 go_enter Try.func20, Try.ntmps20
 go_upto_region 2 with (first | ((with_reducible refine gate_dst (N := 9) rfl ?_); refine Kd.R_lit k34 _ 34 ?hg (N := 9) ?hd (xs := ([] : List (S34))) (inner := []) (ok := fun _ => True) (okp := fun _ => True) ?hr ?hp (fun _ hk => hk) trivial (Below.refl _ _) (Nat.le_refl _) (by simp) ?_; (case hd => rfl); (case hg => rfl); (case hr => first | (go_simp; done) | (go_simp; rfl)); (case hp => exact (Reps.none _ _)); intro v103 w4 ho5 hb hg_ hnew_; clear hg_ hnew_; (first | rw [← Ny102.out] at ho5 | (simp only [Int.reduceToNat] at ho5; rw [← Ny102.out] at ho5)); have HO104 := Aside0.mk (Kd.R_lower ho5 (bz_ HB)); replace HB := Aside0.mk (bt_ HB hb); clear hb ho5))
 (try simp only [Act.put, List.setIfInBounds_toArray, List.set_cons_zero, List.set_cons_succ])
 go_cut [22] (fun v22 wc => ∃ (kq : Nat) (x22_2 : Bool), v22 = .bool x22_2 ∧ Aside0 (spec_Cover.j0 kq a0 a1 y102 x22_2 = some (r1, r2)) ∧ Aside0 (kq ≤ k) ∧ Aside0 (Kd.R k34 34 wc w.heap.size (fun _ => True) v103 y102) ∧ Aside0 (Below w.heap.size w wc))
 case first =>
  have H := HC3.out
  clear HC3
  replace H := Option.bind_eq_some_iff.mp H
  obtain ⟨t105, A60, H⟩ := H
  have A6 := Aside0.mk A60
  clear A60
  by_cases c7 : t105 = true
  rotate_left
  ·replace c7 := Bool.eq_false_iff.mpr c7
   subst c7
   rw [if_neg (show ¬ (false = true) by decide)] at H
   have H' := Aside0.mk H
   clear H
   go_wp2_with (first | ((with_reducible refine gate_callee (f := 42) rfl ?_); refine gl_ (some 11) Try.func42 #[.int .i64 a0] ?_; (with_reducible refine (spec_l01Addr.calls a0 false _ A6.out).mono ?_); rintro e w' ⟨rfl, ⟨nd, rfl⟩⟩; refine ⟨_, rfl, ?_⟩))
   go_meet
   case rel => exact ⟨_, (true), (by first | rfl | (simp; done) | (simp [*]; done)), H', ⟨by first | omega | exact Nat.le_refl _⟩, ⟨by (with_reducible repeat (first | apply Kd.R_alloc | apply Kd.R_drewN | apply Kd.R_drew)); exact HO104.out⟩, ⟨by repeat (first | (with_reducible first | exact HB.out | apply below_alloc | apply pw_below_drewN | apply below_drew1) | exact HB.out)⟩⟩
  subst c7
  rw [if_pos rfl] at H
  replace H := Option.bind_eq_some_iff.mp H
  obtain ⟨t106, A80, H⟩ := H
  have A8 := Aside0.mk A80
  clear A80
  by_cases c9 : t106 = true
  ·subst c9
   rw [if_pos rfl] at H
   have H' := Aside0.mk H
   clear H
   go_wp2_with (first | ((with_reducible refine gate_callee (f := 42) rfl ?_); refine gl_ (some 11) Try.func42 #[.int .i64 a0] ?_; (with_reducible refine (spec_l01Addr.calls a0 true _ A6.out).mono ?_); rintro e w' ⟨rfl, ⟨nd, rfl⟩⟩; refine ⟨_, rfl, ?_⟩) | (go_at_call 42; (with_reducible refine (spec_l01Addr.calls a1 true _ A8.out).mono ?_); rintro e w' ⟨rfl, ⟨nd, rfl⟩⟩))
   go_meet
   case rel => exact ⟨_, (decide (a1 < a0)), (by first | rfl | (simp; done) | (simp [*]; done)), H', ⟨by first | omega | exact Nat.le_refl _⟩, ⟨by (with_reducible repeat (first | apply Kd.R_alloc | apply Kd.R_drewN | apply Kd.R_drew)); exact HO104.out⟩, ⟨by repeat (first | (with_reducible first | exact HB.out | apply below_alloc | apply pw_below_drewN | apply below_drew1) | exact HB.out)⟩⟩
  replace c9 := Bool.eq_false_iff.mpr c9
  subst c9
  rw [if_neg (show ¬ (false = true) by decide)] at H
  have H' := Aside0.mk H
  clear H
  go_wp2_with (first | ((with_reducible refine gate_callee (f := 42) rfl ?_); refine gl_ (some 11) Try.func42 #[.int .i64 a0] ?_; (with_reducible refine (spec_l01Addr.calls a0 true _ A6.out).mono ?_); rintro e w' ⟨rfl, ⟨nd, rfl⟩⟩; refine ⟨_, rfl, ?_⟩) | (go_at_call 42; (with_reducible refine (spec_l01Addr.calls a1 false _ A8.out).mono ?_); rintro e w' ⟨rfl, ⟨nd, rfl⟩⟩))
  go_meet
  case rel => exact ⟨_, (true), (by first | rfl | (simp; done) | (simp [*]; done)), H', ⟨by first | omega | exact Nat.le_refl _⟩, ⟨by (with_reducible repeat (first | apply Kd.R_alloc | apply Kd.R_drewN | apply Kd.R_drew)); exact HO104.out⟩, ⟨by repeat (first | (with_reducible first | exact HB.out | apply below_alloc | apply pw_below_drewN | apply below_drew1) | exact HB.out)⟩⟩
 case rest =>
  clear HC3
  try clear c2
  try clear p2
  try clear c4
  try clear c7
  try clear c9
  obtain ⟨kq, x22_2, rfl, HA, HJ2, HO_6, HB⟩ := hcut
  cases kq with
  | zero => exact absurd HA.out (by simp [spec_Cover.j0])
  | succ kj2 =>
   have H := HA.out
   clear HA
   simp only [spec_Cover.j0] at H
   by_cases c10 : x22_2 = true
   ·subst c10
    rw [if_pos rfl] at H
    simp only [Option.some.injEq, Prod.mk.injEq] at H
    obtain ⟨rfl, rfl⟩ := H
    go_wp2
    go_ret2
    exact ⟨_, by first | rfl | (simp [errW_none, errW_some] <;> rfl) | (simp [*, errW_none, errW_some] <;> rfl), by first | exact Kd.R_nil _ _ _ _ _ | exact Kd.N_nil _ _ _ _ _ | exact Kd.V_nil _ _ _ _ _ | exact Kd.Q_nil _ _ _ _ _ | exact Kd.S_nil _ _ _ _ _, by repeat (first | (with_reducible first | exact HB.out | apply below_alloc | apply pw_below_drewN | apply below_drew1) | exact HB.out)⟩
   replace c10 := Bool.eq_false_iff.mpr c10
   subst c10
   rw [if_neg (show ¬ (false = true) by decide)] at H
   have H' := Aside0.mk H
   clear H
   go_wp2
   go_loopg [6, 7] kj2 (fun kq v6 v7 w' => ∃ (x6_2 : List (S34)) (x7_2 : Int), v7 = .int .i64 x7_2 ∧ Aside0 (spec_Cover.l0 kq a1 x6_2 x7_2 = some (r1, r2)) ∧ Aside0 (kq ≤ kj2) ∧ Aside0 (Kd.R k34 34 w' w.heap.size (fun _ => True) v6 x6_2) ∧ Aside0 (Below w.heap.size w w'))
   case atStart => exact ⟨(y102), (a0), (by first | rfl | (simp; done) | (simp [*]; done)), H', ⟨Nat.le_refl _⟩, ⟨by (with_reducible repeat (first | apply Kd.R_alloc | apply Kd.R_drewN | apply Kd.R_drew)); exact HO_6.out⟩, ⟨by repeat (first | (with_reducible first | exact HB.out | apply below_alloc | apply pw_below_drewN | apply below_drew1) | exact HB.out)⟩⟩
   case round =>
    clear H'
    try clear c1
    try clear c2
    try clear p2
    try clear c4
    try clear c7
    try clear c9
    try clear c10
    try clear p2
    obtain ⟨x6_2, x7_2, rfl, HA, HK2, HO_6, HB⟩ := hrel
    cases gk with
    | zero => exact absurd HA.out (by simp [spec_Cover.l0])
    | succ k2 =>
     have H := HA.out
     clear HA
     simp only [spec_Cover.l0] at H
     by_cases c11 : x7_2 ≤ a1
     rotate_left
     ·rw [if_neg c11] at H
      have c11b0 : decide (x7_2 ≤ a1) = false := decide_eq_false c11
      clear c11
      simp only [Option.some.injEq, Prod.mk.injEq] at H
      obtain ⟨rfl, rfl⟩ := H
      go_wp2
      go_ret2
      exact ⟨_, by first | rfl | (simp [errW_none, errW_some] <;> rfl) | (simp [*, errW_none, errW_some] <;> rfl), by (with_reducible repeat (first | apply Kd.R_alloc | apply Kd.R_drewN | apply Kd.R_drew)); exact HO_6.out, by repeat (first | (with_reducible first | exact HB.out | apply below_alloc | apply pw_below_drewN | apply below_drew1) | exact HB.out)⟩
     rw [if_pos c11] at H
     have c11b0 : decide (x7_2 ≤ a1) = true := decide_eq_true c11
     clear c11
     have H' := Aside0.mk H
     clear H
     go_wp2
     go_loopg [8] k2 (fun kq v8 w' => ∃ (x8_3 : Int), v8 = .int .i64 x8_3 ∧ Aside0 (spec_Cover.l1 kq a1 x6_2 x7_2 x8_3 = some (r1, r2)) ∧ Aside0 (kq ≤ k2) ∧ Aside0 (Kd.R k34 34 w' w.heap.size (fun _ => True) u6 x6_2) ∧ Aside0 (Below w.heap.size w w'))
     case atStart => exact ⟨(0), (by first | rfl | (simp; done) | (simp [*]; done)), H', ⟨Nat.le_refl _⟩, ⟨by (with_reducible repeat (first | apply Kd.R_alloc | apply Kd.R_drewN | apply Kd.R_drew)); exact HO_6.out⟩, ⟨by repeat (first | (with_reducible first | exact HB.out | apply below_alloc | apply pw_below_drewN | apply below_drew1) | exact HB.out)⟩⟩
     case round =>
      clear H'
      try clear c1
      try clear c2
      try clear p2
      try clear c4
      try clear c7
      try clear c9
      try clear c10
      try clear c11
      try clear c11b0
      try clear p2
      obtain ⟨x8_3, rfl, HA, HK3, HO_6, HB⟩ := hrel
      cases gk with
      | zero => exact absurd HA.out (by simp [spec_Cover.l1])
      | succ k3 =>
       have H := HA.out
       clear HA
       simp only [spec_Cover.l1] at H
       replace H := Option.bind_eq_some_iff.mp H
       obtain ⟨t107, A120, H⟩ := H
       have A12 := Aside0.mk A120
       clear A120
       by_cases c13 : t107 = 0
       ·rw [if_pos c13] at H
        exact absurd H (by simp)
       rw [if_neg c13] at H
       have c13b0 : (t107 == 0) = false := beq_eq_false_iff_ne.mpr c13
       have c13b1 : (t107 != 0) = true := bne_iff_ne.mpr c13
       by_cases c14 : (Int.tmod x7_2 t107) = 0
       rotate_left
       ·rw [if_neg c14] at H
        have c14b0 : ((Int.tmod x7_2 t107) == 0) = false := beq_eq_false_iff_ne.mpr c14
        have c14b1 : ((Int.tmod x7_2 t107) != 0) = true := bne_iff_ne.mpr c14
        have H' := Aside0.mk H
        clear H
        go_wp2_with (first | ((with_reducible refine gate_callee (f := 43) rfl ?_); refine gl_ (some 29) Try.func43 #[.int .i64 x8_3] ?_; (with_reducible refine (spec_l01Size2.calls x8_3 t107 _ A12.out).mono ?_); rintro e w' ⟨rfl, ⟨nd, rfl⟩⟩; refine ⟨_, rfl, ?_⟩))
        go_roundg k3
        case measure => have := HJ2.out; have := HK2.out; have := HK3.out; omega
        case rel => exact ⟨(wrap64 (x8_3 + 1)), (by first | rfl | (simp; done) | (simp [*]; done)), H', ⟨by have := HJ2.out; have := HK2.out; have := HK3.out; omega⟩, ⟨by (with_reducible repeat (first | apply Kd.R_alloc | apply Kd.R_drewN | apply Kd.R_drew)); exact HO_6.out⟩, ⟨by repeat (first | (with_reducible first | exact HB.out | apply below_alloc | apply pw_below_drewN | apply below_drew1) | exact HB.out)⟩⟩
       rw [if_pos c14] at H
       have c14b0 : ((Int.tmod x7_2 t107) == 0) = true := beq_iff_eq.mpr c14
       have c14b1 : ((Int.tmod x7_2 t107) != 0) = false := bne_eq_false_iff_eq.mpr c14
       clear c14
       replace H := Option.bind_eq_some_iff.mp H
       obtain ⟨t108, A150, H⟩ := H
       have A15 := Aside0.mk A150
       clear A150
       by_cases c16 : (wrap64 ((wrap64 (x7_2 + t108)) - 1)) > a1
       ·rw [if_pos c16] at H
        have c16b0 : decide (a1 < (wrap64 ((wrap64 (x7_2 + t108)) - 1))) = true := decide_eq_true c16
        clear c16
        have H' := Aside0.mk H
        clear H
        go_wp2_with (first | ((with_reducible refine gate_callee (f := 43) rfl ?_); refine gl_ (some 29) Try.func43 #[.int .i64 x8_3] ?_; (with_reducible refine (spec_l01Size2.calls x8_3 t107 _ A12.out).mono ?_); rintro e w' ⟨rfl, ⟨nd, rfl⟩⟩; refine ⟨_, rfl, ?_⟩) | (go_at_call 43; (with_reducible refine (spec_l01Size2.calls x8_3 t108 _ A15.out).mono ?_); rintro e w' ⟨rfl, ⟨nd, rfl⟩⟩))
        go_roundg k3
        case measure => have := HJ2.out; have := HK2.out; have := HK3.out; omega
        case rel => exact ⟨(wrap64 (x8_3 + 1)), (by first | rfl | (simp; done) | (simp [*]; done)), H', ⟨by have := HJ2.out; have := HK2.out; have := HK3.out; omega⟩, ⟨by (with_reducible repeat (first | apply Kd.R_alloc | apply Kd.R_drewN | apply Kd.R_drew)); exact HO_6.out⟩, ⟨by repeat (first | (with_reducible first | exact HB.out | apply below_alloc | apply pw_below_drewN | apply below_drew1) | exact HB.out)⟩⟩
       rw [if_neg c16] at H
       have c16b0 : decide (a1 < (wrap64 ((wrap64 (x7_2 + t108)) - 1))) = false := decide_eq_false c16
       clear c16
       by_cases c17 : x6_2.length < 8796093022208
       rotate_left
       ·rw [if_neg c17] at H
        exact absurd H (by simp)
       rw [if_pos c17] at H
       have LMc17 := Aside0.mk c17
       clear c17
       obtain ⟨y109, hy109⟩ : ∃ y_ : List (S34), y_ = (x6_2 ++ [(⟨x7_2, x8_3⟩ : S34)]) := ⟨_, rfl⟩
       replace H : ((spec_l01Size2.f x8_3).bind fun t112 => (spec_Cover.l0 k3 a1 y109 (wrap64 (x7_2 + t112)))) = some (r1, r2) := by first | (rw [hy109]; with_reducible exact H) | (have H2_ := (Option.bind_some _ _).symm.trans H; rw [hy109]; with_reducible exact H2_) | (have H2_ := (Option.bind_some _ _).symm.trans H; with_reducible exact H2_) | with_reducible exact H | (rw [hy109]; exact H) | exact H
       have Ny109 := Aside0.mk hy109
       clear hy109
       replace H := Option.bind_eq_some_iff.mp H
       obtain ⟨t112, A180, H⟩ := H
       have A18 := Aside0.mk A180
       clear A180
       have H' := Aside0.mk H
       clear H
       go_wp2_with (first | ((with_reducible refine gate_callee (f := 43) rfl ?_); refine gl_ (some 29) Try.func43 #[.int .i64 x8_3] ?_; (with_reducible refine (spec_l01Size2.calls x8_3 t107 _ A12.out).mono ?_); rintro e w' ⟨rfl, ⟨nd, rfl⟩⟩; refine ⟨_, rfl, ?_⟩) | (go_at_call 43; (with_reducible refine (spec_l01Size2.calls x8_3 t108 _ A15.out).mono ?_); rintro e w' ⟨rfl, ⟨nd, rfl⟩⟩) | ((with_reducible refine gate_builtin (b := .append) (xs := #[.tmp 43, .tmp 47]) rfl ?_); at_builtin; refine Kd.R_append k34 (w0 := w) w.heap.size rfl (.tmp 43) (.tmp 47) 48 34 (.agg #[(.int .i64 0), (.int .i64 0)]) 16 rfl Try.underlying48 info34 rfl (by decide) (by omega) u6 x6_2 (⟨x7_2, x8_3⟩ : S34) [.int .i64 x7_2, .int .i64 x8_3] (fun _ => True) (fun _ => False) rfl rfl ?aP (fun _ hk => hk.elim) ?aF ?aO ?aB ?aS ?aL ?_; (case aP => exact k34_mkM _ _ _ (⟨x7_2, x8_3⟩ : S34)); (case aB => exact (by repeat (first | (with_reducible first | exact HB.out | apply below_alloc | apply pw_below_drewN | apply below_drew1) | exact HB.out))); (case aF => exact (fun _ _ => trivial)); (case aO => exact (hd_ HO_6)); (case aS => exact (bz_ HB)); (case aL => have := LMc17.out; omega); intro v110 w19 ho hb hg hat; rw [← Ny109.out] at ho; have HO111 := Aside0.mk ho; replace HB := Aside0.mk (hb); clear HO_6; clear ho hb hg hat) | ((with_reducible refine gate_callee (f := 43) rfl ?_); refine gl_ (some 51) Try.func43 #[.int .i64 x8_3] ?_; (with_reducible refine (spec_l01Size2.calls x8_3 t112 _ A18.out).mono ?_); rintro e w' ⟨rfl, ⟨nd, rfl⟩⟩; refine ⟨_, rfl, ?_⟩))
       go_roundg k3
       case measure => have := HJ2.out; have := HK2.out; have := HK3.out; omega
       case rel => exact ⟨(y109), (wrap64 (x7_2 + t112)), (by first | rfl | (simp; done) | (simp [*]; done)), H', ⟨by have := HJ2.out; have := HK2.out; have := HK3.out; omega⟩, ⟨by (with_reducible repeat (first | apply Kd.R_alloc | apply Kd.R_drewN | apply Kd.R_drew)); exact HO111.out⟩, ⟨by repeat (first | (with_reducible first | exact HB.out | apply below_alloc | apply pw_below_drewN | apply below_drew1) | exact HB.out)⟩⟩

/-! ### impl_within: function 57 -/
def impl_within.f (a0 : Int) (a1 : Int) (a2 : Int) : Option (Bool) := if a0 ≥ a1 then (some (decide (a0 ≤ a2))) else (some false)
set_option maxHeartbeats 8000000 in
set_option maxRecDepth 100000 in
theorem impl_within.calls (a0 : Int) (a1 : Int) (a2 : Int) (r : Bool) (w : World) (h : impl_within.f a0 a1 a2 = some r) :
  Calls Try.prog 57 #[.int .i64 a0, .int .i64 a1, .int .i64 a2] w fun e w' => e = .returned (.bool r) ∧ Drawn0 w w' := by
 have H : (if a0 ≥ a1 then (some (decide (a0 ≤ a2))) else (some false)) = some r := h
 clear h
 by_cases c4 : a0 ≥ a1
 ·rw [if_pos c4] at H
  have c4b0 : decide (a1 ≤ a0) = true := decide_eq_true c4
  clear c4
  obtain rfl := Option.some.inj H
  go_enter Try.func57, Try.ntmps57
  go_wp2
  go_ret
  exact ⟨by first | rfl | (simp; done) | (simp [*]; done), by repeat (first | exact Drawn0.refl _ | apply Drawn0.step)⟩
 rw [if_neg c4] at H
 have c4b0 : decide (a1 ≤ a0) = false := decide_eq_false c4
 clear c4
 obtain rfl := Option.some.inj H
 go_enter Try.func57, Try.ntmps57
 go_wp2
 go_ret
 exact ⟨by first | rfl | (simp; done) | (simp [*]; done), by repeat (first | exact Drawn0.refl _ | apply Drawn0.step)⟩

/-! ### impl_isAddr: function 44 -/
def impl_isAddr.f (a0 : Int) : Option (Bool) := (impl_within.f a0 0 65535).bind fun t113 => (some t113)
set_option maxHeartbeats 8000000 in
set_option maxRecDepth 100000 in
theorem impl_isAddr.calls (a0 : Int) (r : Bool) (w : World) (h : impl_isAddr.f a0 = some r) :
  Calls Try.prog 44 #[.int .i64 a0] w fun e w' => e = .returned (.bool r) ∧ Drawn0 w w' := by
 have H : ((impl_within.f a0 0 65535).bind fun t113 => (some t113)) = some r := h
 clear h
 replace H := Option.bind_eq_some_iff.mp H
 obtain ⟨t113, A20, H⟩ := H
 have A2 := Aside0.mk A20
 clear A20
 obtain rfl := Option.some.inj H
 go_enter Try.func44, Try.ntmps44
 go_wp2_with (first | ((with_reducible refine gate_callee (f := 57) rfl ?_); refine gl_ (some 4) Try.func57 #[.int .i64 a0, .int .i64 0, .int .i64 65535] ?_; (with_reducible refine (impl_within.calls a0 0 65535 t113 _ A2.out).mono ?_); rintro e w' ⟨rfl, ⟨nd, rfl⟩⟩; refine ⟨_, rfl, ?_⟩))
 go_ret
 exact ⟨by first | rfl | (simp; done) | (simp [*]; done), by repeat (first | exact Drawn0.refl _ | apply Drawn0.step)⟩

/-! ### impl_Prefix_size: function 47 -/
def impl_Prefix_size.f (a0_0 : Int) (a0_1 : Int) : Option (Int) := if 0 ≤ (wrap64 (16 - a0_1)) then (some (shl .i64 1 (wrap64 (16 - a0_1)))) else (none)
set_option maxHeartbeats 8000000 in
set_option maxRecDepth 100000 in
theorem impl_Prefix_size.calls (a0_0 : Int) (a0_1 : Int) (r : Int) (w : World) (h : impl_Prefix_size.f a0_0 a0_1 = some r) :
  Calls Try.prog 47 #[.agg #[.int .i64 a0_0, .int .i64 a0_1]] w fun e w' => e = .returned (.int .i64 r) ∧ Below w.heap.size w w' := by
 have hu34 := Try.underlying34
 have HB := Aside0.mk (Below.refl w.heap.size w)
 have H : (if 0 ≤ (wrap64 (16 - a0_1)) then (some (shl .i64 1 (wrap64 (16 - a0_1)))) else (none)) = some r := h
 clear h
 obtain ⟨ji2, hji2⟩ : ∃ j_ : Int, (wrap64 (16 - a0_1)) = j_ := ⟨_, rfl⟩
 first | rw [hji2] at H | simp only [hji2] at H
 have hji2w : (IntKind.i64.wrap (16 - a0_1)) = ji2 := (i64_w _).trans hji2
 by_cases c3 : 0 ≤ (ji2)
 rotate_left
 ·rw [if_neg c3] at H
  exact absurd H (by simp)
 rw [if_pos c3] at H
 have c3b0 := eq_true c3
 have c3b1 : decide (0 ≤ (ji2)) = true := decide_eq_true c3
 clear c3
 obtain ⟨ji4, hji4⟩ : ∃ j_ : Int, (shl .i64 1 (ji2)) = j_ := ⟨_, rfl⟩
 first | rw [hji4] at H | simp only [hji4] at H
 have hji4_ : (IntKind.i64.wrap (1 * 2 ^ min (ji2).toNat 64)) = ji4 := hji4
 have hji4z : (ji2) ≤ 64 → (IntKind.i64.wrap (1 * 2 ^ (ji2).toNat)) = ji4 := shl_small hji4
 have hji4u : (IntKind.i64.wrap (2 ^ min (ji2).toNat 64)) = ji4 := by have h_ := hji4_; rw [Int.one_mul] at h_; exact h_
 have hji4v : (ji2) ≤ 64 → (IntKind.i64.wrap (2 ^ (ji2).toNat)) = ji4 := fun hle_ => by have h_ := hji4z hle_; rw [Int.one_mul] at h_; exact h_
 have hji4y : (wrap64 (1 * 2 ^ min (ji2).toNat 64)) = ji4 := (i64_w _).symm.trans hji4_
 have hji4x : (ji2) ≤ 64 → (wrap64 (1 * 2 ^ (ji2).toNat)) = ji4 := fun h_ => (i64_w _).symm.trans (hji4z h_)
 obtain rfl := Option.some.inj H
 go_enter Try.func47, Try.ntmps47
 go_wp2_with (first | ((with_reducible refine gate_dst (N := 1) rfl ?_); refine box_event ?hg (N := 1) ?hd (cs := #[.int .i64 a0_0, .int .i64 a0_1]) (t := 34) ?hr ?_; (case hd => rfl); (case hg => rfl); (case hr => first | (go_simp; done) | (go_simp; rfl)); intro gb114 hg w5 hbox hb; have BK114 := Aside0.mk hbox; have GW114 := ge_ HB hg; have GE114 := ge_ HB hg; replace HB := Aside0.mk (bt_ HB hb); clear hb hbox hg; have hcz6_0 := cz_ BK114 0 (.int .i64 a0_0); have hcz6_1 := cz_ BK114 1 (.int .i64 a0_1); have hfz6_0 := blk_frozen BK114.out 0; have hfz6_1 := blk_frozen BK114.out 1))
 go_ret
 exact ⟨by first | rfl | (simp [errW_none, errW_some] <;> rfl) | (simp only [← hji2, ← hji4]; first | rfl | (simp [errW_none, errW_some] <;> rfl)) | (simp [*, errW_none, errW_some] <;> rfl), by repeat (first | (with_reducible first | exact HB.out | apply below_alloc | apply pw_below_drewN | apply below_drew1 | refine below_set ?_ GE114.out) | exact HB.out)⟩

/-! ### impl_Cover_1: function 46 -/
def impl_Cover_1.f (a0_0 : Int) (a0_1 : Int) (l1 : List Int) (l2 : List Int) : Option (Int) := if 0 < (l1.length : Int) then ((impl_Prefix_size.f a0_0 a0_1).bind fun t117 => (if 0 < (l2.length : Int) then (some (mx 0 (wrap64 ((wrap64 ((mn (rd l1 0) (wrap64 ((wrap64 (a0_0 + t117)) - 1))) - (mx (rd l2 0) a0_0))) + 1)))) else (none))) else (none)
def impl_Cover_1.T1 : Bool × List (List Nat × List Nat) := (true, [([], []), ([], []), ([1], [1]), ([], []), ([3], [3]), ([2, 4], [2, 4]), ([5], [5]), ([0, 6], [0, 6]), ([], []), ([], []), ([9], [9]), ([8, 10], [8, 10]), ([7, 11], [7, 11]), ([12], [12]), ([13], [13]), ([14, 4, 0, 1, 2, 3, 4, 5, 6, 7, 8, 9, 10, 11, 12, 13, 14], [14])])
def impl_Cover_1.B1 : List Nat := [0, 0, 2, 0, 8, 30, 62, 127, 0, 0, 512, 1792, 4095, 8191, 16383, 32767]
theorem impl_Cover_1.tab1 : rtab .any (opsOf Try.f46 1) = impl_Cover_1.T1 := by kernel_rfl
theorem impl_Cover_1.bits1 : waitsOk impl_Cover_1.T1.2 impl_Cover_1.B1 = true := by kernel_rfl
set_option maxHeartbeats 8000000 in
set_option maxRecDepth 100000 in
theorem impl_Cover_1.calls (a0_0 : Int) (a0_1 : Int) (A1 : Option Addr) (l1 : List Int) (A2 : Option Addr) (l2 : List Int) (r : Int) (w : World) (hr1 : Kd.C (Kd.int .i64) w A1 l1.length l1) (hr2 : Kd.C (Kd.int .i64) w A2 l2.length l2) (h : impl_Cover_1.f a0_0 a0_1 l1 l2 = some r) :
  Calls Try.prog 46 #[.agg #[.int .i64 a0_0, .int .i64 a0_1], .pointer A1, .pointer A2] w fun e w' => e = .returned (.int .i64 r) ∧ Below w.heap.size w w' := by
 have hu34 := Try.underlying34
 have HR1 := Aside0.mk hr1
 clear hr1
 have HR2 := Aside0.mk hr2
 clear hr2
 have HB := Aside0.mk (Below.refl w.heap.size w)
 have H : (if 0 < (l1.length : Int) then ((impl_Prefix_size.f a0_0 a0_1).bind fun t117 => (if 0 < (l2.length : Int) then (some (mx 0 (wrap64 ((wrap64 ((mn (rd l1 0) (wrap64 ((wrap64 (a0_0 + t117)) - 1))) - (mx (rd l2 0) a0_0))) + 1)))) else (none))) else (none)) = some r := h
 clear h
 by_cases c4 : 0 < (l1.length : Int)
 rotate_left
 ·rw [if_neg c4] at H
  exact absurd H (by simp)
 rw [if_pos c4] at H
 have c4b0 : decide (0 < (l1.length : Int)) = true := decide_eq_true c4
 have c4b1 : decide (0 < l1.length) = true := decide_eq_true (by omega)
 clear c4
 replace H := Option.bind_eq_some_iff.mp H
 obtain ⟨t117, A50, H⟩ := H
 have A5 := Aside0.mk A50
 clear A50
 obtain ⟨ji6, hji6⟩ : ∃ j_ : Int, (mn (rd l1 0) (wrap64 ((wrap64 (a0_0 + t117)) - 1))) = j_ := ⟨_, rfl⟩
 first | rw [hji6] at H | simp only [hji6] at H
 (try rw [hji6] at A5)
 have hji6_ : (if (wrap64 ((wrap64 (a0_0 + t117)) - 1)) < (rd l1 0) then (wrap64 ((wrap64 (a0_0 + t117)) - 1)) else (rd l1 0)) = ji6 := hji6
 by_cases c7 : 0 < (l2.length : Int)
 rotate_left
 ·rw [if_neg c7] at H
  exact absurd H (by simp)
 rw [if_pos c7] at H
 have c7b0 : decide (0 < (l2.length : Int)) = true := decide_eq_true c7
 have c7b1 : decide (0 < l2.length) = true := decide_eq_true (by omega)
 clear c7
 obtain ⟨ji8, hji8⟩ : ∃ j_ : Int, (mx (rd l2 0) a0_0) = j_ := ⟨_, rfl⟩
 first | rw [hji8] at H | simp only [hji8] at H
 (try rw [hji8] at A5)
 have hji8_ : (if (rd l2 0) < a0_0 then a0_0 else (rd l2 0)) = ji8 := hji8
 obtain ⟨ji9, hji9⟩ : ∃ j_ : Int, (mx 0 (wrap64 ((wrap64 ((ji6) - (ji8))) + 1))) = j_ := ⟨_, rfl⟩
 first | rw [hji9] at H | simp only [hji9] at H
 (try rw [hji9] at A5)
 have hji9_ : (if 0 < (wrap64 ((wrap64 ((ji6) - (ji8))) + 1)) then (wrap64 ((wrap64 ((ji6) - (ji8))) + 1)) else 0) = ji9 := hji9
 obtain rfl := Option.some.inj H
 go_enter Try.func46, Try.ntmps46
 try go_wp2_with (first | ((with_reducible refine gate_dst (N := 3) rfl ?_); refine box_event ?hg (N := 3) ?hd (cs := #[.int .i64 a0_0, .int .i64 a0_1]) (t := 34) ?hr ?_; (case hd => rfl); (case hg => rfl); (case hr => first | (go_simp; done) | (go_simp; rfl)); intro gb115 hg w10 hbox hb; have BK115 := Aside0.mk hbox; have GW115 := ge_ HB hg; have GE115 := ge_ HB hg; replace HB := Aside0.mk (bt_ HB hb); clear hb hbox hg))
 replace BK115 := Aside0.mk (blk_drew BK115.out)
 replace HB := Aside0.mk (below_drew1 HB.out)
 have p116 : 0 ≤ (0 : Int) := (by omega)
 have q116 : 0 < (l1.length : Int) := of_decide_eq_true (by first | (with_reducible assumption) | assumption)
 obtain ⟨ad116, e116, hx116_0⟩ := Kd.at_int HR1.out 0 p116 q116
 have hw116_0 := hx116_0
 (try rw [show ((0 : Int)).toNat = 0 from rfl] at hw116_0)
 (try rw [show 0 * 1 = 0 from rfl] at hw116_0)
 (try rw [Addr.add_zero'] at hw116_0)
 cases e116
 have qi116 : (0 < l1.length) = True := eq_true (by omega)
 (try rw [show ((0 : Int)).toNat = 0 from rfl] at hx116_0)
 (try rw [Addr.add_zero'] at hx116_0)
 replace hx116_0 := (HB.out.cell (World.block_lt_of_cell? w _ hx116_0)).trans hx116_0
 replace p116 := eq_true p116
 replace q116 := eq_true q116
 have p118 : 0 ≤ (0 : Int) := (by omega)
 have q118 : 0 < (l2.length : Int) := of_decide_eq_true (by first | (with_reducible assumption) | assumption)
 obtain ⟨ad118, e118, hx118_0⟩ := Kd.at_int HR2.out 0 p118 q118
 have hw118_0 := hx118_0
 (try rw [show ((0 : Int)).toNat = 0 from rfl] at hw118_0)
 (try rw [show 0 * 1 = 0 from rfl] at hw118_0)
 (try rw [Addr.add_zero'] at hw118_0)
 cases e118
 have qi118 : (0 < l2.length) = True := eq_true (by omega)
 (try rw [show ((0 : Int)).toNat = 0 from rfl] at hx118_0)
 (try rw [Addr.add_zero'] at hx118_0)
 replace hx118_0 := (HB.out.cell (World.block_lt_of_cell? w _ hx118_0)).trans hx118_0
 replace p118 := eq_true p118
 replace q118 := eq_true q118
 refine start_ (n := 16) (S := fun w' => w'.cell? ⟨gb115, 0, none⟩ = some (.int .i64 a0_0) ∧ w'.cell? ⟨gb115, 1, none⟩ = some (.int .i64 a0_1) ∧ w'.cell? ad116 = some (.int .i64 (rd l1 0)) ∧ w'.cell? ad118 = some (.int .i64 (rd l2 0))) (ds := []) ba1_0 (by kernel_rfl) rfl rfl ⟨(blk_cell BK115.out 0).trans rfl, (blk_cell BK115.out 1).trans rfl, (hc_ HB hw116_0), (hc_ HB hw118_0)⟩ (fun hHeld => ?_); refine with_tabW impl_Cover_1.tab1 impl_Cover_1.bits1 (fun HT_ HW_ => ?_)
 generalize w10.drew = w11 at BK115 HB hx116_0 hx118_0 hHeld ⊢
 refine pz_ 1 6 ba1_1 HT_ ?_
 refine pz_ 9 14 ba1_2 HT_ ?_
 refine pt_ 0 5 ba1_3 HT_ HW_ hHeld ?_
 refine pt_ 2 7 ba1_4 HT_ HW_ hHeld ?_
 refine pt_ 3 8 ba1_5 HT_ HW_ hHeld ?_
 refine pt_ 8 13 ba1_6 HT_ HW_ hHeld ?_
 refine pt_ 10 15 ba1_7 HT_ HW_ hHeld ?_
 refine pz_ 11 16 ba1_8 HT_ ?_
 refine one_ (i := 4) (N := some 9) ba1_9 rfl rfl (one_of HT_.out (by kernel_rfl)) (by decide) (fun K hK => ?_)
 refine gz_ Try.func47 #[.agg #[.int .i64 a0_0, .int .i64 a0_1]] ?_
 with_reducible refine (impl_Prefix_size.calls a0_0 a0_1 t117 _ A5.out).mono ?_
 rintro e w12 ⟨rfl, hb⟩
 refine ⟨_, rfl, ?_⟩
 replace BK115 := Aside0.mk (bb_ BK115 hb)
 replace HB := Aside0.mk (bt_ HB hb)
 (try clear hb)
 (try clear hb2)
 (try clear hk)
 (try clear hi)
 refine hK.out _ _ ⟨(blk_cell BK115.out 0).trans rfl, (blk_cell BK115.out 1).trans rfl, (hc_ HB hw116_0), (hc_ HB hw118_0)⟩ (fun hHeld => ?_)
 clear hK K
 refine nz_ 9 ?_
 refine pz_ 5 10 ba1_10 HT_ ?_
 refine pz_ 6 11 ba1_11 HT_ ?_
 refine pz_ 7 12 ba1_12 HT_ ?_
 refine pz_ 12 17 ba1_13 HT_ ?_
 refine pz_ 13 18 ba1_14 HT_ ?_
 refine pz_ 14 19 ba1_15 HT_ ?_
 refine pz_ 15 4 ba1_16 HT_ ?_
 refine done_ (done_of HT_.out (by kernel_rfl)) ?_
 try go_wp2
 go_ret
 exact ⟨by first | rfl | (simp [errW_none, errW_some] <;> rfl) | (simp only [← hji6, ← hji8, ← hji9]; first | rfl | (simp [errW_none, errW_some] <;> rfl)) | (simp [*, errW_none, errW_some] <;> rfl), by repeat (first | (with_reducible first | exact HB.out | apply below_alloc | apply pw_below_drewN | apply below_drew1 | refine below_set ?_ GE115.out) | exact HB.out)⟩

end Go.Proofs.Ytflfbaofgfandaa.QFnExactCover
