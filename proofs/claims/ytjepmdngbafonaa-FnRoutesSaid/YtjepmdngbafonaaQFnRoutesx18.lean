/- Contracts of functions that the law reaches: what each call returns and what it leaves in memory. Made by this session over the print of the kit. -/
import Derived.Test.YtjepmdngbafonaaQFnRoutesx0
import Derived.Test.YtjepmdngbafonaaQFnRoutesx1
import Derived.Test.YtjepmdngbafonaaQFnRoutesx2
import Derived.Test.YtjepmdngbafonaaQFnRoutesx5
import Derived.Test.YtjepmdngbafonaaQFnRoutesx10
import Derived.Test.YtjepmdngbafonaaQFnRoutesx15
import Derived.Test.YtjepmdngbafonaaQFnRoutesx16
import Derived.Test.YtjepmdngbafonaaQFnRoutesx17
namespace Go.Proofs.Ytjepmdngbafonaa.QFnRoutes
open Go.RowKit Go.Proofs.YtjepmdngbafonaaR.PrintWords Go.Proofs.YtjepmdngbafonaaR.PrintLast Go.Proofs.YtjepmdngbafonaaR.PrintMore
attribute [local go_sem] max2_int min2_int max_two min_two max_three min_three max_four min_four   -- for this text's walks alone
set_option linter.unusedVariables false
set_option linter.unusedSimpArgs false

attribute [local go_sem high] eqA28
/-! ### laws_FnRoutes: function 3 -/
mutual
def laws_FnRoutes.l0 : Nat → List Int → Bool → Int → List (S30) → Int → Int → Int → List (S30) → Option (Bool)
 | 0, _, _, _, _, _, _, _, _ => none
 | k + 1, x0, x9, x10, x510000, x511000, x511001, x511002, x521000 => if x10 < (x510000.length : Int) then (if 0 ≤ x10 then (if (((rd_T30 x510000 x10).f0.f0) == x511000 && (((rd_T30 x510000 x10).f0.f1) == x511001)) = true then (laws_FnRoutes.l0 k x0 false (wrap64 (x10 + 1)) x510000 x511000 x511001 x511002 x521000) else (laws_FnRoutes.l0 k x0 x9 (wrap64 (x10 + 1)) x510000 x511000 x511001 x511002 x521000)) else (none)) else ((impl_DropRoute.f k x521000 x511000 x511001).bind fun bt522 => (if bt522.2 = true then (if x9 = true then (laws_FnRoutes.j1 k x0 x9 ((bt522.1.length : Int) != (x510000.length : Int)) x510000 x511000 x511001 x511002 x521000 bt522.1) else (laws_FnRoutes.j1 k x0 x9 false x510000 x511000 x511001 x511002 x521000 bt522.1)) else (laws_FnRoutes.j1 k x0 x9 true x510000 x511000 x511001 x511002 x521000 bt522.1)))
def laws_FnRoutes.j1 : Nat → List Int → Bool → Bool → List (S30) → Int → Int → Int → List (S30) → List (S30) → Option (Bool)
 | 0, _, _, _, _, _, _, _, _, _ => none
 | k + 1, x0, x9, x78, x510000, x511000, x511001, x511002, x521000, x527000 => if x78 = true then (some false) else (laws_FnRoutes.l1 k x0 x9 0 x510000 x511000 x511001 x511002 x521000 x527000)
def laws_FnRoutes.l1 : Nat → List Int → Bool → Int → List (S30) → Int → Int → Int → List (S30) → List (S30) → Option (Bool)
 | 0, _, _, _, _, _, _, _, _, _ => none
 | k + 1, x0, x9, x13, x510000, x511000, x511001, x511002, x521000, x527000 => if x13 < 40 then ((laws_at.f x0 x13).bind fun t527 => ((laws_at.f x0 (wrap64 (x13 + 2))).bind fun t528 => ((spec_FindHop.f k x510000 (Int.tmod (wrap64 ((wrap64 ((wrap64 (x511000 + (wrap64 (t527 * t528)))) - 40)) + 65536)) 65536)).bind fun t529 => ((spec_BestRoute.f k x510000 (Int.tmod (wrap64 ((wrap64 ((wrap64 (x511000 + (wrap64 (t527 * t528)))) - 40)) + 65536)) 65536)).bind fun bt530 => ((spec_HasAddr.f x511000 x511001 (Int.tmod (wrap64 ((wrap64 ((wrap64 (x511000 + (wrap64 (t527 * t528)))) - 40)) + 65536)) 65536)).bind fun t535 => (if t535 = true then (if bt530.2.2.2 = true then (laws_FnRoutes.j3 k x0 x9 x13 (Int.tmod (wrap64 ((wrap64 ((wrap64 (x511000 + (wrap64 (t527 * t528)))) - 40)) + 65536)) 65536) t529 t529 (decide (bt530.2.1 ≤ x511001)) x510000 x511000 x511001 x511002 x521000 x527000) else (laws_FnRoutes.j3 k x0 x9 x13 (Int.tmod (wrap64 ((wrap64 ((wrap64 (x511000 + (wrap64 (t527 * t528)))) - 40)) + 65536)) 65536) t529 t529 true x510000 x511000 x511001 x511002 x521000 x527000)) else (laws_FnRoutes.j3 k x0 x9 x13 (Int.tmod (wrap64 ((wrap64 ((wrap64 (x511000 + (wrap64 (t527 * t528)))) - 40)) + 65536)) 65536) t529 t529 false x510000 x511000 x511001 x511002 x521000 x527000))))))) else (some true)
def laws_FnRoutes.j3 : Nat → List Int → Bool → Int → Int → Int → Int → Bool → List (S30) → Int → Int → Int → List (S30) → List (S30) → Option (Bool)
 | 0, _, _, _, _, _, _, _, _, _, _, _, _, _ => none
 | k + 1, x0, x9, x13, x14, x15, x18, x124, x510000, x511000, x511001, x511002, x521000, x527000 => if x124 = true then (laws_FnRoutes.j4 k x0 x9 x13 x14 x15 x511002 x510000 x511000 x511001 x511002 x521000 x527000) else (laws_FnRoutes.j4 k x0 x9 x13 x14 x15 x18 x510000 x511000 x511001 x511002 x521000 x527000)
def laws_FnRoutes.j4 : Nat → List Int → Bool → Int → Int → Int → Int → List (S30) → Int → Int → Int → List (S30) → List (S30) → Option (Bool)
 | 0, _, _, _, _, _, _, _, _, _, _, _, _ => none
 | k + 1, x0, x9, x13, x14, x15, x18, x510000, x511000, x511001, x511002, x521000, x527000 => (impl_FindHop.f k x521000 x14).bind fun t536 => (if t536 = x18 then (if x9 = true then ((impl_FindHop.f k x527000 x14).bind fun t537 => (if t537 = x15 then (laws_FnRoutes.l1 k x0 x9 (wrap64 (x13 + 1)) x510000 x511000 x511001 x511002 x521000 x527000) else (some false))) else (laws_FnRoutes.l1 k x0 x9 (wrap64 (x13 + 1)) x510000 x511000 x511001 x511002 x521000 x527000)) else (some false))
end
def laws_FnRoutes.f (k : Nat) (l0 : List Int) : Option (Bool) := (laws_big.f l0).bind fun t502 => (if t502 = true then (some true) else ((spec_DrawPutRoute.f k l0).bind fun bt503 => ((spec_PutRoute.f k bt503.1 bt503.2.1 bt503.2.2.1 bt503.2.2.2).bind fun bt511 => (if bt511.2 = true then ((impl_PutRoute.f k bt503.1 bt503.2.1 bt503.2.2.1 bt503.2.2.2).bind fun bt516 => (if bt516.2 = true then (laws_FnRoutes.l0 k l0 true 0 bt503.1 bt503.2.1 bt503.2.2.1 bt503.2.2.2 bt516.1) else (some false))) else (some true)))))
theorem laws_FnRoutes.mono_l : ∀ k, (∀ y0 y1 y2 y3 y4 y5 y6 y7, LeO (laws_FnRoutes.l0 k y0 y1 y2 y3 y4 y5 y6 y7) (laws_FnRoutes.l0 (k + 1) y0 y1 y2 y3 y4 y5 y6 y7)) ∧ (∀ y0 y1 y2 y3 y4 y5 y6 y7 y8, LeO (laws_FnRoutes.j1 k y0 y1 y2 y3 y4 y5 y6 y7 y8) (laws_FnRoutes.j1 (k + 1) y0 y1 y2 y3 y4 y5 y6 y7 y8)) ∧ (∀ y0 y1 y2 y3 y4 y5 y6 y7 y8, LeO (laws_FnRoutes.l1 k y0 y1 y2 y3 y4 y5 y6 y7 y8) (laws_FnRoutes.l1 (k + 1) y0 y1 y2 y3 y4 y5 y6 y7 y8)) ∧ (∀ y0 y1 y2 y3 y4 y5 y6 y7 y8 y9 y10 y11 y12, LeO (laws_FnRoutes.j3 k y0 y1 y2 y3 y4 y5 y6 y7 y8 y9 y10 y11 y12) (laws_FnRoutes.j3 (k + 1) y0 y1 y2 y3 y4 y5 y6 y7 y8 y9 y10 y11 y12)) ∧ (∀ y0 y1 y2 y3 y4 y5 y6 y7 y8 y9 y10 y11, LeO (laws_FnRoutes.j4 k y0 y1 y2 y3 y4 y5 y6 y7 y8 y9 y10 y11) (laws_FnRoutes.j4 (k + 1) y0 y1 y2 y3 y4 y5 y6 y7 y8 y9 y10 y11))
 | 0 => ⟨fun _ _ _ _ _ _ _ _ r h => by simp [laws_FnRoutes.l0] at h, fun _ _ _ _ _ _ _ _ _ r h => by simp [laws_FnRoutes.j1] at h, fun _ _ _ _ _ _ _ _ _ r h => by simp [laws_FnRoutes.l1] at h, fun _ _ _ _ _ _ _ _ _ _ _ _ _ r h => by simp [laws_FnRoutes.j3] at h, fun _ _ _ _ _ _ _ _ _ _ _ _ r h => by simp [laws_FnRoutes.j4] at h⟩
 | k + 1 => by
  obtain ⟨ih0, ih1, ih2, ih3, ih4⟩ := laws_FnRoutes.mono_l k
  refine ⟨?_, ?_, ?_, ?_, ?_⟩
  ·intro y0 y1 y2 y3 y4 y5 y6 y7
   unfold laws_FnRoutes.l0
   repeat' first | (with_reducible first | exact ih0 _ _ _ _ _ _ _ _ | exact ih1 _ _ _ _ _ _ _ _ _ | exact ih2 _ _ _ _ _ _ _ _ _ | exact ih3 _ _ _ _ _ _ _ _ _ _ _ _ _ | exact ih4 _ _ _ _ _ _ _ _ _ _ _ _ | exact impl_DropRoute.mono _ _ _ _ | exact impl_FindHop.mono _ _ _ | exact impl_PutRoute.mono _ _ _ _ _ | exact spec_BestRoute.mono _ _ _ | exact spec_DrawPutRoute.mono _ _ | exact spec_FindHop.mono _ _ _ | exact spec_PutRoute.mono _ _ _ _ _ | exact LeO.refl _ | exact LeO.none _ | refine LeO.ite ?_ ?_ | refine LeO.bind ?_ (fun _ => ?_)) | exact ih0 _ _ _ _ _ _ _ _ | exact ih1 _ _ _ _ _ _ _ _ _ | exact ih2 _ _ _ _ _ _ _ _ _ | exact ih3 _ _ _ _ _ _ _ _ _ _ _ _ _ | exact ih4 _ _ _ _ _ _ _ _ _ _ _ _ | exact impl_DropRoute.mono _ _ _ _ | exact impl_FindHop.mono _ _ _ | exact impl_PutRoute.mono _ _ _ _ _ | exact spec_BestRoute.mono _ _ _ | exact spec_DrawPutRoute.mono _ _ | exact spec_FindHop.mono _ _ _ | exact spec_PutRoute.mono _ _ _ _ _ | exact LeO.none _ | refine LeO.ite ?_ ?_ | refine LeO.bind ?_ (fun _ => ?_)
  ·intro y0 y1 y2 y3 y4 y5 y6 y7 y8
   unfold laws_FnRoutes.j1
   repeat' first | (with_reducible first | exact ih0 _ _ _ _ _ _ _ _ | exact ih1 _ _ _ _ _ _ _ _ _ | exact ih2 _ _ _ _ _ _ _ _ _ | exact ih3 _ _ _ _ _ _ _ _ _ _ _ _ _ | exact ih4 _ _ _ _ _ _ _ _ _ _ _ _ | exact impl_DropRoute.mono _ _ _ _ | exact impl_FindHop.mono _ _ _ | exact impl_PutRoute.mono _ _ _ _ _ | exact spec_BestRoute.mono _ _ _ | exact spec_DrawPutRoute.mono _ _ | exact spec_FindHop.mono _ _ _ | exact spec_PutRoute.mono _ _ _ _ _ | exact LeO.refl _ | exact LeO.none _ | refine LeO.ite ?_ ?_ | refine LeO.bind ?_ (fun _ => ?_)) | exact ih0 _ _ _ _ _ _ _ _ | exact ih1 _ _ _ _ _ _ _ _ _ | exact ih2 _ _ _ _ _ _ _ _ _ | exact ih3 _ _ _ _ _ _ _ _ _ _ _ _ _ | exact ih4 _ _ _ _ _ _ _ _ _ _ _ _ | exact impl_DropRoute.mono _ _ _ _ | exact impl_FindHop.mono _ _ _ | exact impl_PutRoute.mono _ _ _ _ _ | exact spec_BestRoute.mono _ _ _ | exact spec_DrawPutRoute.mono _ _ | exact spec_FindHop.mono _ _ _ | exact spec_PutRoute.mono _ _ _ _ _ | exact LeO.none _ | refine LeO.ite ?_ ?_ | refine LeO.bind ?_ (fun _ => ?_)
  ·intro y0 y1 y2 y3 y4 y5 y6 y7 y8
   unfold laws_FnRoutes.l1
   repeat' first | (with_reducible first | exact ih0 _ _ _ _ _ _ _ _ | exact ih1 _ _ _ _ _ _ _ _ _ | exact ih2 _ _ _ _ _ _ _ _ _ | exact ih3 _ _ _ _ _ _ _ _ _ _ _ _ _ | exact ih4 _ _ _ _ _ _ _ _ _ _ _ _ | exact impl_DropRoute.mono _ _ _ _ | exact impl_FindHop.mono _ _ _ | exact impl_PutRoute.mono _ _ _ _ _ | exact spec_BestRoute.mono _ _ _ | exact spec_DrawPutRoute.mono _ _ | exact spec_FindHop.mono _ _ _ | exact spec_PutRoute.mono _ _ _ _ _ | exact LeO.refl _ | exact LeO.none _ | refine LeO.ite ?_ ?_ | refine LeO.bind ?_ (fun _ => ?_)) | exact ih0 _ _ _ _ _ _ _ _ | exact ih1 _ _ _ _ _ _ _ _ _ | exact ih2 _ _ _ _ _ _ _ _ _ | exact ih3 _ _ _ _ _ _ _ _ _ _ _ _ _ | exact ih4 _ _ _ _ _ _ _ _ _ _ _ _ | exact impl_DropRoute.mono _ _ _ _ | exact impl_FindHop.mono _ _ _ | exact impl_PutRoute.mono _ _ _ _ _ | exact spec_BestRoute.mono _ _ _ | exact spec_DrawPutRoute.mono _ _ | exact spec_FindHop.mono _ _ _ | exact spec_PutRoute.mono _ _ _ _ _ | exact LeO.none _ | refine LeO.ite ?_ ?_ | refine LeO.bind ?_ (fun _ => ?_)
  ·intro y0 y1 y2 y3 y4 y5 y6 y7 y8 y9 y10 y11 y12
   unfold laws_FnRoutes.j3
   repeat' first | (with_reducible first | exact ih0 _ _ _ _ _ _ _ _ | exact ih1 _ _ _ _ _ _ _ _ _ | exact ih2 _ _ _ _ _ _ _ _ _ | exact ih3 _ _ _ _ _ _ _ _ _ _ _ _ _ | exact ih4 _ _ _ _ _ _ _ _ _ _ _ _ | exact impl_DropRoute.mono _ _ _ _ | exact impl_FindHop.mono _ _ _ | exact impl_PutRoute.mono _ _ _ _ _ | exact spec_BestRoute.mono _ _ _ | exact spec_DrawPutRoute.mono _ _ | exact spec_FindHop.mono _ _ _ | exact spec_PutRoute.mono _ _ _ _ _ | exact LeO.refl _ | exact LeO.none _ | refine LeO.ite ?_ ?_ | refine LeO.bind ?_ (fun _ => ?_)) | exact ih0 _ _ _ _ _ _ _ _ | exact ih1 _ _ _ _ _ _ _ _ _ | exact ih2 _ _ _ _ _ _ _ _ _ | exact ih3 _ _ _ _ _ _ _ _ _ _ _ _ _ | exact ih4 _ _ _ _ _ _ _ _ _ _ _ _ | exact impl_DropRoute.mono _ _ _ _ | exact impl_FindHop.mono _ _ _ | exact impl_PutRoute.mono _ _ _ _ _ | exact spec_BestRoute.mono _ _ _ | exact spec_DrawPutRoute.mono _ _ | exact spec_FindHop.mono _ _ _ | exact spec_PutRoute.mono _ _ _ _ _ | exact LeO.none _ | refine LeO.ite ?_ ?_ | refine LeO.bind ?_ (fun _ => ?_)
  ·intro y0 y1 y2 y3 y4 y5 y6 y7 y8 y9 y10 y11
   unfold laws_FnRoutes.j4
   repeat' first | (with_reducible first | exact ih0 _ _ _ _ _ _ _ _ | exact ih1 _ _ _ _ _ _ _ _ _ | exact ih2 _ _ _ _ _ _ _ _ _ | exact ih3 _ _ _ _ _ _ _ _ _ _ _ _ _ | exact ih4 _ _ _ _ _ _ _ _ _ _ _ _ | exact impl_DropRoute.mono _ _ _ _ | exact impl_FindHop.mono _ _ _ | exact impl_PutRoute.mono _ _ _ _ _ | exact spec_BestRoute.mono _ _ _ | exact spec_DrawPutRoute.mono _ _ | exact spec_FindHop.mono _ _ _ | exact spec_PutRoute.mono _ _ _ _ _ | exact LeO.refl _ | exact LeO.none _ | refine LeO.ite ?_ ?_ | refine LeO.bind ?_ (fun _ => ?_)) | exact ih0 _ _ _ _ _ _ _ _ | exact ih1 _ _ _ _ _ _ _ _ _ | exact ih2 _ _ _ _ _ _ _ _ _ | exact ih3 _ _ _ _ _ _ _ _ _ _ _ _ _ | exact ih4 _ _ _ _ _ _ _ _ _ _ _ _ | exact impl_DropRoute.mono _ _ _ _ | exact impl_FindHop.mono _ _ _ | exact impl_PutRoute.mono _ _ _ _ _ | exact spec_BestRoute.mono _ _ _ | exact spec_DrawPutRoute.mono _ _ | exact spec_FindHop.mono _ _ _ | exact spec_PutRoute.mono _ _ _ _ _ | exact LeO.none _ | refine LeO.ite ?_ ?_ | refine LeO.bind ?_ (fun _ => ?_)
theorem laws_FnRoutes.mono : ∀ a0 k, LeO (laws_FnRoutes.f k a0) (laws_FnRoutes.f (k + 1) a0) := by
 intro a0 k
 obtain ⟨ih0, ih1, ih2, ih3, ih4⟩ := laws_FnRoutes.mono_l k
 unfold laws_FnRoutes.f
 repeat' first | (with_reducible first | exact ih0 _ _ _ _ _ _ _ _ | exact ih1 _ _ _ _ _ _ _ _ _ | exact ih2 _ _ _ _ _ _ _ _ _ | exact ih3 _ _ _ _ _ _ _ _ _ _ _ _ _ | exact ih4 _ _ _ _ _ _ _ _ _ _ _ _ | exact impl_DropRoute.mono _ _ _ _ | exact impl_FindHop.mono _ _ _ | exact impl_PutRoute.mono _ _ _ _ _ | exact spec_BestRoute.mono _ _ _ | exact spec_DrawPutRoute.mono _ _ | exact spec_FindHop.mono _ _ _ | exact spec_PutRoute.mono _ _ _ _ _ | exact LeO.refl _ | exact LeO.none _ | refine LeO.ite ?_ ?_ | refine LeO.bind ?_ (fun _ => ?_)) | exact ih0 _ _ _ _ _ _ _ _ | exact ih1 _ _ _ _ _ _ _ _ _ | exact ih2 _ _ _ _ _ _ _ _ _ | exact ih3 _ _ _ _ _ _ _ _ _ _ _ _ _ | exact ih4 _ _ _ _ _ _ _ _ _ _ _ _ | exact impl_DropRoute.mono _ _ _ _ | exact impl_FindHop.mono _ _ _ | exact impl_PutRoute.mono _ _ _ _ _ | exact spec_BestRoute.mono _ _ _ | exact spec_DrawPutRoute.mono _ _ | exact spec_FindHop.mono _ _ _ | exact spec_PutRoute.mono _ _ _ _ _ | exact LeO.none _ | refine LeO.ite ?_ ?_ | refine LeO.bind ?_ (fun _ => ?_)
set_option maxHeartbeats 8000000 in
set_option maxRecDepth 100000 in
theorem laws_FnRoutes.calls (k : Nat) (A0 : Option Addr) (c0 : Nat) (l0 : List Int) (r : Bool) (w : World) (hr0 : Kd.C (Kd.int .u8) w A0 l0.length l0) (hc0 : l0.length ≤ c0) (h : laws_FnRoutes.f k l0 = some r) :
  Calls Try.prog 3 #[.slice A0 l0.length c0] w fun e w' => e = .returned (.bool r) ∧ Below w.heap.size w w' := by
 have hu26 := Try.underlying26
 have hu30 := Try.underlying30
 have hu28 := Try.underlying28
 have HR0 := Aside0.mk hr0
 have HC0 := Aside0.mk hc0
 clear hr0 hc0
 have HB := Aside0.mk (Below.refl w.heap.size w)
 have H : ((laws_big.f l0).bind fun t502 => (if t502 = true then (some true) else ((spec_DrawPutRoute.f k l0).bind fun bt503 => ((spec_PutRoute.f k bt503.1 bt503.2.1 bt503.2.2.1 bt503.2.2.2).bind fun bt511 => (if bt511.2 = true then ((impl_PutRoute.f k bt503.1 bt503.2.1 bt503.2.2.1 bt503.2.2.2).bind fun bt516 => (if bt516.2 = true then (laws_FnRoutes.l0 k l0 true 0 bt503.1 bt503.2.1 bt503.2.2.1 bt503.2.2.2 bt516.1) else (some false))) else (some true)))))) = some r := h
 clear h
 replace H := Option.bind_eq_some_iff.mp H
 obtain ⟨t502, A20, H⟩ := H
 have A2 := Aside0.mk A20
 clear A20
 by_cases c3 : t502 = true
 ·subst c3
  rw [if_pos rfl] at H
  obtain rfl := Option.some.inj H
  go_enter Try.func3, Try.ntmps3
  go_wp2_with (go_at_call 8; (with_reducible refine (laws_big.calls _ _ l0 true _ ?side1 ?side2 A2.out).mono ?_); (case side1 => repeat (first | exact HR0.out | (with_reducible refine Kd.C_alloc ?_ _) | (with_reducible refine Kd.C_drewN ?_ _) | (with_reducible refine Kd.C_drew ?_))); (case side2 => exact HC0.out); rintro e w' ⟨rfl, ⟨nd, rfl⟩⟩; (try first | exact ⟨rfl, _, World.drewN_drewN _ _ _⟩ | exact ⟨rfl, _, Eq.trans (World.drewN_drewN _ _ _) (congrArg (World.drewN _) (Nat.add_assoc _ _ _))⟩))
  go_ret
  exact ⟨by first | rfl | (simp [errW_none, errW_some] <;> rfl) | (simp [*, errW_none, errW_some] <;> rfl), bw112_⟩
 replace c3 := Bool.eq_false_iff.mpr c3
 subst c3
 rw [if_neg (show ¬ (false = true) by decide)] at H
 replace H := Option.bind_eq_some_iff.mp H
 obtain ⟨⟨t503, t506, t507, t508⟩, A40, H⟩ := H
 have A4 := Aside0.mk A40
 clear A40
 replace H := Option.bind_eq_some_iff.mp H
 obtain ⟨⟨t511, t514⟩, A50, H⟩ := H
 have A5 := Aside0.mk A50
 clear A50
 by_cases c6 : t514 = true
 rotate_left
 ·replace c6 := Bool.eq_false_iff.mpr c6
  subst c6
  rw [if_neg (show ¬ (false = true) by decide)] at H
  obtain rfl := Option.some.inj H
  go_enter Try.func3, Try.ntmps3
  go_wp2_with (first | (go_at_call 8; (with_reducible refine (laws_big.calls _ _ l0 false _ ?side1 ?side2 A2.out).mono ?_); (case side1 => repeat (first | exact HR0.out | (with_reducible refine Kd.C_alloc ?_ _) | (with_reducible refine Kd.C_drewN ?_ _) | (with_reducible refine Kd.C_drew ?_))); (case side2 => exact HC0.out); rintro e w' ⟨rfl, ⟨nd, rfl⟩⟩; (try first | exact ⟨rfl, _, World.drewN_drewN _ _ _⟩ | exact ⟨rfl, _, Eq.trans (World.drewN_drewN _ _ _) (congrArg (World.drewN _) (Nat.add_assoc _ _ _))⟩)) | (go_at_call 9; (with_reducible refine (spec_DrawPutRoute.calls k _ _ l0 t503 t506 t507 t508 _ ?side1 ?side2 A4.out).mono ?_); (case side1 => repeat (first | exact HR0.out | (with_reducible refine Kd.C_alloc ?_ _) | (with_reducible refine Kd.C_drewN ?_ _) | (with_reducible refine Kd.C_drew ?_))); (case side2 => exact HC0.out); rintro e w209 ⟨v504, rfl, ho0, hb⟩; have HO505 := Aside0.mk (Kd.R_lower ho0 (bz_ HB)); replace HB := at_ HB hb; (try clear hb); (try clear hb2); (try clear hk); (try clear hi); (try clear ho0)) | ((with_reducible refine gate_dst (N := 3) rfl ?_); refine box_event ?hg (N := 3) ?hd (cs := #[.slice none 0 0]) (t := 26) ?hr ?_; (case hd => rfl); (case hg => rfl); (case hr => first | (go_simp; done) | (go_simp; rfl)); intro gb509 hg w210 hbox hb; have BK509 := Aside0.mk hbox; have GW509 := ge_ HB hg; have GE509 := ge_ HB hg; replace HO505 := rb_ HO505 hb; replace HB := at_ HB hb; clear hb hbox hg) | ((with_reducible refine gate_dst (N := 4) rfl ?_); refine box_event ?hg (N := 4) ?hd (cs := #[.int .i64 0, .int .i64 0, .int .i64 0]) (t := 30) ?hr ?_; (case hd => rfl); (case hg => rfl); (case hr => first | (go_simp; done) | (go_simp; rfl)); intro gb510 hg w211 hbox hb; have BK510 := Aside0.mk hbox; have GW510 := ge_ HB hg; have GE510 := ge_ HB hg; have NB509_510 := nl_ BK509 hg; have NB510_509 := ng_ BK509 hg; replace HO505 := Aside0.mk (Kd.R_below (Kd.R_elderB (hd_ HO505) gb510 (Nat.le_of_eq hg.symm)) hb); replace HB := at_ HB hb; replace BK509 := ab_ BK509 hb; clear hb hbox hg; obtain ⟨Ao212, co212, eo212⟩ := Kd.R_slice HO505.out; subst eo212; have hnb213 := NB509_510.out; have hnc213 := NB510_509.out; have hcz214_0 := cz_ BK509 0 (.slice none 0 0); have hfz214_0 := fz_ BK509 0; have hcz215_0 := cz_ BK510 0 (.int .i64 0); have hcz215_1 := cz_ BK510 1 (.int .i64 0); have hcz215_2 := cz_ BK510 2 (.int .i64 0); have hfz215_0 := fz_ BK510 0; have hfz215_1 := fz_ BK510 1; have hfz215_2 := fz_ BK510 2) | (go_at_call 10; (with_reducible refine (spec_PutRoute.calls k _ _ t503 t506 t507 t508 t511 false _ ?side1 ?side2 A5.out).mono ?_); (case side1 => refine (Kd.R_reads' (e := 30) (base := w.heap.size) (ok := fun k_ => (True ∧ k_ ≠ gb510)) (n := t503.length) (c := co212) ?_).2.2; exact (by (with_reducible repeat (first | apply Kd.R_alloc | apply Kd.R_drewN | apply Kd.R_drew)); exact (Kd.R_mono (Kd.R_mono (Kd.R_far (p := ⟨gb510, 2, none⟩) (Kd.R_far (p := ⟨gb510, 1, none⟩) (Kd.R_far (p := ⟨gb510, 0, none⟩) (Kd.R_far (p := ⟨gb509, 0, none⟩) (Kd.R_mono (Kd.R_types HO505.out BK509.out (by decide)) (fun k_ hk => (⟨hk, hk.1.2⟩ : _ ∧ k_ ≠ gb510))) (fun _ hk => hk.1.2) (.slice Ao212 t503.length co212)) (fun _ hk => hk.2) (.int .i64 t506)) (fun _ hk => hk.2) (.int .i64 t507)) (fun _ hk => hk.2) (.int .i64 t508)) (fun _ h_ => h_.1)) (fun _ h_ => h_.1)))); (case side2 => exact (Kd.R_reads' HO505.out).2.1); rintro e w216 ⟨v512, rfl, ho0, hb⟩; have HO513 := Aside0.mk (Kd.R_lower (Kd.R_newB (Kd.R_new' ho0 (Kd.R_lt (by (with_reducible repeat (first | apply Kd.R_alloc | apply Kd.R_drewN | apply Kd.R_drew)); exact (Kd.R_mono (Kd.R_mono (Kd.R_far (p := ⟨gb510, 2, none⟩) (Kd.R_far (p := ⟨gb510, 1, none⟩) (Kd.R_far (p := ⟨gb510, 0, none⟩) (Kd.R_far (p := ⟨gb509, 0, none⟩) (Kd.R_mono (Kd.R_types HO505.out BK509.out (by decide)) (fun k_ hk => (⟨hk, hk.1.2⟩ : _ ∧ k_ ≠ gb510))) (fun _ hk => hk.1.2) (.slice Ao212 t503.length co212)) (fun _ hk => hk.2) (.int .i64 t506)) (fun _ hk => hk.2) (.int .i64 t507)) (fun _ hk => hk.2) (.int .i64 t508)) (fun _ h_ => h_.1)) (fun _ h_ => h_.1))))) (g := gb510) (o := .cells #[.int .i64 t506, .int .i64 t507, .int .i64 t508] 30 (0, 0)) (by refine bd_ ?_; refine blk_put (cs := #[.int .i64 t506, .int .i64 t507, .int .i64 0]) ?_ 2 _ rfl; refine bd_ ?_; refine blk_put (cs := #[.int .i64 t506, .int .i64 0, .int .i64 0]) ?_ 1 _ rfl; refine bd_ ?_; refine blk_put (cs := #[.int .i64 0, .int .i64 0, .int .i64 0]) ?_ 0 _ rfl; refine bd_ ?_; refine blk_far ?_ NB510_509.out _; refine bd_ ?_; exact BK510.out)) (bz_ HB)); replace HO505 := Aside0.mk (Kd.R_elder' (by (with_reducible repeat (first | apply Kd.R_alloc | apply Kd.R_drewN | apply Kd.R_drew)); exact (Kd.R_mono (Kd.R_mono (Kd.R_far (p := ⟨gb510, 2, none⟩) (Kd.R_far (p := ⟨gb510, 1, none⟩) (Kd.R_far (p := ⟨gb510, 0, none⟩) (Kd.R_far (p := ⟨gb509, 0, none⟩) (Kd.R_mono (Kd.R_types HO505.out BK509.out (by decide)) (fun k_ hk => (⟨hk, hk.1.2⟩ : _ ∧ k_ ≠ gb510))) (fun _ hk => hk.1.2) (.slice Ao212 t503.length co212)) (fun _ hk => hk.2) (.int .i64 t506)) (fun _ hk => hk.2) (.int .i64 t507)) (fun _ hk => hk.2) (.int .i64 t508)) (fun _ h_ => h_.1)) (fun _ h_ => h_.1))) (Kd.R_base ho0) hb); replace BK509 := Aside0.mk (blk_below (g := gb509) (o := .cells #[.slice Ao212 t503.length co212] 26 (0, 0)) (by refine bd_ ?_; refine blk_far ?_ NB509_510.out _; refine bd_ ?_; refine blk_far ?_ NB509_510.out _; refine bd_ ?_; refine blk_far ?_ NB509_510.out _; refine bd_ ?_; refine blk_put (cs := #[.slice none 0 0]) ?_ 0 _ rfl; refine bd_ ?_; exact BK509.out) hb); replace BK510 := Aside0.mk (blk_below (g := gb510) (o := .cells #[.int .i64 t506, .int .i64 t507, .int .i64 t508] 30 (0, 0)) (by refine bd_ ?_; refine blk_put (cs := #[.int .i64 t506, .int .i64 t507, .int .i64 0]) ?_ 2 _ rfl; refine bd_ ?_; refine blk_put (cs := #[.int .i64 t506, .int .i64 0, .int .i64 0]) ?_ 1 _ rfl; refine bd_ ?_; refine blk_put (cs := #[.int .i64 0, .int .i64 0, .int .i64 0]) ?_ 0 _ rfl; refine bd_ ?_; refine blk_far ?_ NB510_509.out _; refine bd_ ?_; exact BK510.out) hb); replace HB := at_ HB hb; (try clear hb); (try clear hb2); (try clear hk); (try clear hi); (try clear ho0)) | ((with_reducible refine gate_dst (N := 5) rfl ?_); refine box_event ?hg (N := 5) ?hd (cs := #[.slice none 0 0]) (t := 26) ?hr ?_; (case hd => rfl); (case hg => rfl); (case hr => first | (go_simp; done) | (go_simp; rfl)); intro gb515 hg w217 hbox hb; have BK515 := Aside0.mk hbox; have GW515 := ge_ HB hg; have GE515 := ge_ HB hg; have NB509_515 := nl_ BK509 hg; have NB515_509 := ng_ BK509 hg; have NB510_515 := nl_ BK510 hg; have NB515_510 := ng_ BK510 hg; replace HO505 := rb_ HO505 hb; replace HO513 := rb_ HO513 hb; replace HB := at_ HB hb; replace BK509 := ab_ BK509 hb; replace BK510 := ab_ BK510 hb; clear hb hbox hg; obtain ⟨Ao218, co218, eo218⟩ := Kd.R_slice HO513.out; subst eo218; have hnb219 := NB515_509.out; have hnc219 := NB509_515.out; have hnb220 := NB515_510.out; have hnc220 := NB510_515.out; have hcz221_0 := cz_ BK515 0 (.slice none 0 0); have hfz221_0 := fz_ BK515 0))
  go_ret
  exact ⟨by first | rfl | (simp [errW_none, errW_some] <;> rfl) | (simp [*, errW_none, errW_some] <;> rfl), bw112_⟩
 subst c6
 rw [if_pos rfl] at H
 replace H := Option.bind_eq_some_iff.mp H
 obtain ⟨⟨t516, t519⟩, A70, H⟩ := H
 have A7 := Aside0.mk A70
 clear A70
 by_cases c8 : t519 = true
 rotate_left
 ·replace c8 := Bool.eq_false_iff.mpr c8
  subst c8
  rw [if_neg (show ¬ (false = true) by decide)] at H
  obtain rfl := Option.some.inj H
  go_enter Try.func3, Try.ntmps3
  go_wp2_with (first | (go_at_call 8; (with_reducible refine (laws_big.calls _ _ l0 false _ ?side1 ?side2 A2.out).mono ?_); (case side1 => repeat (first | exact HR0.out | (with_reducible refine Kd.C_alloc ?_ _) | (with_reducible refine Kd.C_drewN ?_ _) | (with_reducible refine Kd.C_drew ?_))); (case side2 => exact HC0.out); rintro e w' ⟨rfl, ⟨nd, rfl⟩⟩; (try first | exact ⟨rfl, _, World.drewN_drewN _ _ _⟩ | exact ⟨rfl, _, Eq.trans (World.drewN_drewN _ _ _) (congrArg (World.drewN _) (Nat.add_assoc _ _ _))⟩)) | (go_at_call 9; (with_reducible refine (spec_DrawPutRoute.calls k _ _ l0 t503 t506 t507 t508 _ ?side1 ?side2 A4.out).mono ?_); (case side1 => repeat (first | exact HR0.out | (with_reducible refine Kd.C_alloc ?_ _) | (with_reducible refine Kd.C_drewN ?_ _) | (with_reducible refine Kd.C_drew ?_))); (case side2 => exact HC0.out); rintro e w187 ⟨v504, rfl, ho0, hb⟩; have HO505 := Aside0.mk (Kd.R_lower ho0 (bz_ HB)); replace HB := at_ HB hb; (try clear hb); (try clear hb2); (try clear hk); (try clear hi); (try clear ho0)) | ((with_reducible refine gate_dst (N := 3) rfl ?_); refine box_event ?hg (N := 3) ?hd (cs := #[.slice none 0 0]) (t := 26) ?hr ?_; (case hd => rfl); (case hg => rfl); (case hr => first | (go_simp; done) | (go_simp; rfl)); intro gb509 hg w188 hbox hb; have BK509 := Aside0.mk hbox; have GW509 := ge_ HB hg; have GE509 := ge_ HB hg; replace HO505 := rb_ HO505 hb; replace HB := at_ HB hb; clear hb hbox hg) | ((with_reducible refine gate_dst (N := 4) rfl ?_); refine box_event ?hg (N := 4) ?hd (cs := #[.int .i64 0, .int .i64 0, .int .i64 0]) (t := 30) ?hr ?_; (case hd => rfl); (case hg => rfl); (case hr => first | (go_simp; done) | (go_simp; rfl)); intro gb510 hg w189 hbox hb; have BK510 := Aside0.mk hbox; have GW510 := ge_ HB hg; have GE510 := ge_ HB hg; have NB509_510 := nl_ BK509 hg; have NB510_509 := ng_ BK509 hg; replace HO505 := Aside0.mk (Kd.R_below (Kd.R_elderB (hd_ HO505) gb510 (Nat.le_of_eq hg.symm)) hb); replace HB := at_ HB hb; replace BK509 := ab_ BK509 hb; clear hb hbox hg; obtain ⟨Ao190, co190, eo190⟩ := Kd.R_slice HO505.out; subst eo190; have hnb191 := NB509_510.out; have hnc191 := NB510_509.out; have hcz192_0 := cz_ BK509 0 (.slice none 0 0); have hfz192_0 := fz_ BK509 0; have hcz193_0 := cz_ BK510 0 (.int .i64 0); have hcz193_1 := cz_ BK510 1 (.int .i64 0); have hcz193_2 := cz_ BK510 2 (.int .i64 0); have hfz193_0 := fz_ BK510 0; have hfz193_1 := fz_ BK510 1; have hfz193_2 := fz_ BK510 2) | (go_at_call 10; (with_reducible refine (spec_PutRoute.calls k _ _ t503 t506 t507 t508 t511 true _ ?side1 ?side2 A5.out).mono ?_); (case side1 => refine (Kd.R_reads' (e := 30) (base := w.heap.size) (ok := fun k_ => (True ∧ k_ ≠ gb510)) (n := t503.length) (c := co190) ?_).2.2; exact (by (with_reducible repeat (first | apply Kd.R_alloc | apply Kd.R_drewN | apply Kd.R_drew)); exact (Kd.R_mono (Kd.R_mono (Kd.R_far (p := ⟨gb510, 2, none⟩) (Kd.R_far (p := ⟨gb510, 1, none⟩) (Kd.R_far (p := ⟨gb510, 0, none⟩) (Kd.R_far (p := ⟨gb509, 0, none⟩) (Kd.R_mono (Kd.R_types HO505.out BK509.out (by decide)) (fun k_ hk => (⟨hk, hk.1.2⟩ : _ ∧ k_ ≠ gb510))) (fun _ hk => hk.1.2) (.slice Ao190 t503.length co190)) (fun _ hk => hk.2) (.int .i64 t506)) (fun _ hk => hk.2) (.int .i64 t507)) (fun _ hk => hk.2) (.int .i64 t508)) (fun _ h_ => h_.1)) (fun _ h_ => h_.1)))); (case side2 => exact (Kd.R_reads' HO505.out).2.1); rintro e w194 ⟨v512, rfl, ho0, hb⟩; have HO513 := Aside0.mk (Kd.R_lower (Kd.R_newB (Kd.R_new' ho0 (Kd.R_lt (by (with_reducible repeat (first | apply Kd.R_alloc | apply Kd.R_drewN | apply Kd.R_drew)); exact (Kd.R_mono (Kd.R_mono (Kd.R_far (p := ⟨gb510, 2, none⟩) (Kd.R_far (p := ⟨gb510, 1, none⟩) (Kd.R_far (p := ⟨gb510, 0, none⟩) (Kd.R_far (p := ⟨gb509, 0, none⟩) (Kd.R_mono (Kd.R_types HO505.out BK509.out (by decide)) (fun k_ hk => (⟨hk, hk.1.2⟩ : _ ∧ k_ ≠ gb510))) (fun _ hk => hk.1.2) (.slice Ao190 t503.length co190)) (fun _ hk => hk.2) (.int .i64 t506)) (fun _ hk => hk.2) (.int .i64 t507)) (fun _ hk => hk.2) (.int .i64 t508)) (fun _ h_ => h_.1)) (fun _ h_ => h_.1))))) (g := gb510) (o := .cells #[.int .i64 t506, .int .i64 t507, .int .i64 t508] 30 (0, 0)) (by refine bd_ ?_; refine blk_put (cs := #[.int .i64 t506, .int .i64 t507, .int .i64 0]) ?_ 2 _ rfl; refine bd_ ?_; refine blk_put (cs := #[.int .i64 t506, .int .i64 0, .int .i64 0]) ?_ 1 _ rfl; refine bd_ ?_; refine blk_put (cs := #[.int .i64 0, .int .i64 0, .int .i64 0]) ?_ 0 _ rfl; refine bd_ ?_; refine blk_far ?_ NB510_509.out _; refine bd_ ?_; exact BK510.out)) (bz_ HB)); replace HO505 := Aside0.mk (Kd.R_elder' (by (with_reducible repeat (first | apply Kd.R_alloc | apply Kd.R_drewN | apply Kd.R_drew)); exact (Kd.R_mono (Kd.R_mono (Kd.R_far (p := ⟨gb510, 2, none⟩) (Kd.R_far (p := ⟨gb510, 1, none⟩) (Kd.R_far (p := ⟨gb510, 0, none⟩) (Kd.R_far (p := ⟨gb509, 0, none⟩) (Kd.R_mono (Kd.R_types HO505.out BK509.out (by decide)) (fun k_ hk => (⟨hk, hk.1.2⟩ : _ ∧ k_ ≠ gb510))) (fun _ hk => hk.1.2) (.slice Ao190 t503.length co190)) (fun _ hk => hk.2) (.int .i64 t506)) (fun _ hk => hk.2) (.int .i64 t507)) (fun _ hk => hk.2) (.int .i64 t508)) (fun _ h_ => h_.1)) (fun _ h_ => h_.1))) (Kd.R_base ho0) hb); replace BK509 := Aside0.mk (blk_below (g := gb509) (o := .cells #[.slice Ao190 t503.length co190] 26 (0, 0)) (by refine bd_ ?_; refine blk_far ?_ NB509_510.out _; refine bd_ ?_; refine blk_far ?_ NB509_510.out _; refine bd_ ?_; refine blk_far ?_ NB509_510.out _; refine bd_ ?_; refine blk_put (cs := #[.slice none 0 0]) ?_ 0 _ rfl; refine bd_ ?_; exact BK509.out) hb); replace BK510 := Aside0.mk (blk_below (g := gb510) (o := .cells #[.int .i64 t506, .int .i64 t507, .int .i64 t508] 30 (0, 0)) (by refine bd_ ?_; refine blk_put (cs := #[.int .i64 t506, .int .i64 t507, .int .i64 0]) ?_ 2 _ rfl; refine bd_ ?_; refine blk_put (cs := #[.int .i64 t506, .int .i64 0, .int .i64 0]) ?_ 1 _ rfl; refine bd_ ?_; refine blk_put (cs := #[.int .i64 0, .int .i64 0, .int .i64 0]) ?_ 0 _ rfl; refine bd_ ?_; refine blk_far ?_ NB510_509.out _; refine bd_ ?_; exact BK510.out) hb); replace HB := at_ HB hb; (try clear hb); (try clear hb2); (try clear hk); (try clear hi); (try clear ho0)) | ((with_reducible refine gate_dst (N := 5) rfl ?_); refine box_event ?hg (N := 5) ?hd (cs := #[.slice none 0 0]) (t := 26) ?hr ?_; (case hd => rfl); (case hg => rfl); (case hr => first | (go_simp; done) | (go_simp; rfl)); intro gb515 hg w195 hbox hb; have BK515 := Aside0.mk hbox; have GW515 := ge_ HB hg; have GE515 := ge_ HB hg; have NB509_515 := nl_ BK509 hg; have NB515_509 := ng_ BK509 hg; have NB510_515 := nl_ BK510 hg; have NB515_510 := ng_ BK510 hg; replace HO505 := rb_ HO505 hb; replace HO513 := rb_ HO513 hb; replace HB := at_ HB hb; replace BK509 := ab_ BK509 hb; replace BK510 := ab_ BK510 hb; clear hb hbox hg; obtain ⟨Ao196, co196, eo196⟩ := Kd.R_slice HO513.out; subst eo196; have hnb197 := NB515_509.out; have hnc197 := NB509_515.out; have hnb198 := NB515_510.out; have hnc198 := NB510_515.out; have hcz199_0 := cz_ BK515 0 (.slice none 0 0); have hfz199_0 := fz_ BK515 0; have hcz200_0 := cz_ BK509 0 (.slice Ao190 t503.length co190); have hfz200_0 := fz_ BK509 0; have hcz201_0 := cz_ BK510 0 (.int .i64 t506); have hcz201_1 := cz_ BK510 1 (.int .i64 t507); have hcz201_2 := cz_ BK510 2 (.int .i64 t508); have hfz201_0 := fz_ BK510 0; have hfz201_1 := fz_ BK510 1; have hfz201_2 := fz_ BK510 2) | (go_at_call 11; (with_reducible refine (impl_PutRoute.calls k _ _ t503 t506 t507 t508 t516 false _ ?side1 ?side2 A7.out).mono ?_); (case side1 => refine (Kd.R_reads' (e := 30) (base := w.heap.size) (ok := fun k_ => ((True ∧ k_ ≠ gb510) ∧ some k_ ≠ (.slice Ao196 t511.length co196 : Value).ownBlock)) (n := t503.length) (c := co190) ?_).2.2; exact (hs_ HO505 BK515)); (case side2 => exact (Kd.R_reads' HO505.out).2.1); rintro e w202 ⟨v517, rfl, ho0, hb⟩; have HO518 := Aside0.mk (Kd.R_lower (Kd.R_newB (Kd.R_new' (Kd.R_new' ho0 (Kd.R_lt (hs_ HO505 BK515))) (Kd.R_lt (hs_ HO513 BK515))) (g := gb510) (o := .cells #[.int .i64 t506, .int .i64 t507, .int .i64 t508] 30 (0, 0)) (bc_ BK510)) (bz_ HB)); replace HO505 := Aside0.mk (Kd.R_elder' (hs_ HO505 BK515) (Kd.R_base ho0) hb); replace HO513 := Aside0.mk (Kd.R_elder' (hs_ HO513 BK515) (Kd.R_base ho0) hb); replace BK509 := bf_ BK509 NB509_515 hb; replace BK510 := bf_ BK510 NB510_515 hb; replace BK515 := Aside0.mk (blk_below (g := gb515) (o := .cells #[.slice Ao196 t511.length co196] 26 (0, 0)) (by refine bd_ ?_; refine blk_put (cs := #[.slice none 0 0]) ?_ 0 _ rfl; refine bd_ ?_; exact BK515.out) hb); replace HB := at_ HB hb; (try clear hb); (try clear hb2); (try clear hk); (try clear hi); (try clear ho0)) | ((with_reducible refine gate_dst (N := 7) rfl ?_); refine box_event ?hg (N := 7) ?hd (cs := #[.slice none 0 0]) (t := 26) ?hr ?_; (case hd => rfl); (case hg => rfl); (case hr => first | (go_simp; done) | (go_simp; rfl)); intro gb520 hg w203 hbox hb; have BK520 := Aside0.mk hbox; have GW520 := ge_ HB hg; have GE520 := ge_ HB hg; have NB509_520 := nl_ BK509 hg; have NB520_509 := ng_ BK509 hg; have NB510_520 := nl_ BK510 hg; have NB520_510 := ng_ BK510 hg; have NB515_520 := nl_ BK515 hg; have NB520_515 := ng_ BK515 hg; replace HO505 := rb_ HO505 hb; replace HO513 := rb_ HO513 hb; replace HO518 := rb_ HO518 hb; replace HB := at_ HB hb; replace BK509 := ab_ BK509 hb; replace BK510 := ab_ BK510 hb; replace BK515 := ab_ BK515 hb; clear hb hbox hg; obtain ⟨Ao204, co204, eo204⟩ := Kd.R_slice HO518.out; subst eo204; have hnb205 := NB520_509.out; have hnc205 := NB509_520.out; have hnb206 := NB520_510.out; have hnc206 := NB510_520.out; have hnb207 := NB520_515.out; have hnc207 := NB515_520.out; have hcz208_0 := cz_ BK520 0 (.slice none 0 0); have hfz208_0 := fz_ BK520 0))
  go_ret
  exact ⟨by first | rfl | (simp [errW_none, errW_some] <;> rfl) | (simp [*, errW_none, errW_some] <;> rfl), bw112_⟩
 subst c8
 rw [if_pos rfl] at H
 have H' := Aside0.mk H
 clear H
 go_enter Try.func3, Try.ntmps3
 go_wp2_with (first | (go_at_call 8; (with_reducible refine (laws_big.calls _ _ l0 false _ ?side1 ?side2 A2.out).mono ?_); (case side1 => repeat (first | exact HR0.out | (with_reducible refine Kd.C_alloc ?_ _) | (with_reducible refine Kd.C_drewN ?_ _) | (with_reducible refine Kd.C_drew ?_))); (case side2 => exact HC0.out); rintro e w' ⟨rfl, ⟨nd, rfl⟩⟩; (try first | exact ⟨rfl, _, World.drewN_drewN _ _ _⟩ | exact ⟨rfl, _, Eq.trans (World.drewN_drewN _ _ _) (congrArg (World.drewN _) (Nat.add_assoc _ _ _))⟩)) | (go_at_call 9; (with_reducible refine (spec_DrawPutRoute.calls k _ _ l0 t503 t506 t507 t508 _ ?side1 ?side2 A4.out).mono ?_); (case side1 => repeat (first | exact HR0.out | (with_reducible refine Kd.C_alloc ?_ _) | (with_reducible refine Kd.C_drewN ?_ _) | (with_reducible refine Kd.C_drew ?_))); (case side2 => exact HC0.out); rintro e w9 ⟨v504, rfl, ho0, hb⟩; have HO505 := Aside0.mk (Kd.R_lower ho0 (bz_ HB)); replace HB := at_ HB hb; (try clear hb); (try clear hb2); (try clear hk); (try clear hi); (try clear ho0)) | ((with_reducible refine gate_dst (N := 3) rfl ?_); refine box_event ?hg (N := 3) ?hd (cs := #[.slice none 0 0]) (t := 26) ?hr ?_; (case hd => rfl); (case hg => rfl); (case hr => first | (go_simp; done) | (go_simp; rfl)); intro gb509 hg w10 hbox hb; have BK509 := Aside0.mk hbox; have GW509 := ge_ HB hg; have GE509 := ge_ HB hg; replace HO505 := rb_ HO505 hb; replace HB := at_ HB hb; clear hb hbox hg) | ((with_reducible refine gate_dst (N := 4) rfl ?_); refine box_event ?hg (N := 4) ?hd (cs := #[.int .i64 0, .int .i64 0, .int .i64 0]) (t := 30) ?hr ?_; (case hd => rfl); (case hg => rfl); (case hr => first | (go_simp; done) | (go_simp; rfl)); intro gb510 hg w11 hbox hb; have BK510 := Aside0.mk hbox; have GW510 := ge_ HB hg; have GE510 := ge_ HB hg; have NB509_510 := nl_ BK509 hg; have NB510_509 := ng_ BK509 hg; replace HO505 := Aside0.mk (Kd.R_below (Kd.R_elderB (hd_ HO505) gb510 (Nat.le_of_eq hg.symm)) hb); replace HB := at_ HB hb; replace BK509 := ab_ BK509 hb; clear hb hbox hg; obtain ⟨Ao12, co12, eo12⟩ := Kd.R_slice HO505.out; subst eo12; have hnb13 := NB509_510.out; have hnc13 := NB510_509.out; have hcz14_0 := cz_ BK509 0 (.slice none 0 0); have hfz14_0 := fz_ BK509 0; have hcz15_0 := cz_ BK510 0 (.int .i64 0); have hcz15_1 := cz_ BK510 1 (.int .i64 0); have hcz15_2 := cz_ BK510 2 (.int .i64 0); have hfz15_0 := fz_ BK510 0; have hfz15_1 := fz_ BK510 1; have hfz15_2 := fz_ BK510 2) | (go_at_call 10; (with_reducible refine (spec_PutRoute.calls k _ _ t503 t506 t507 t508 t511 true _ ?side1 ?side2 A5.out).mono ?_); (case side1 => refine (Kd.R_reads' (e := 30) (base := w.heap.size) (ok := fun k_ => (True ∧ k_ ≠ gb510)) (n := t503.length) (c := co12) ?_).2.2; exact (by (with_reducible repeat (first | apply Kd.R_alloc | apply Kd.R_drewN | apply Kd.R_drew)); exact (Kd.R_mono (Kd.R_mono (Kd.R_far (p := ⟨gb510, 2, none⟩) (Kd.R_far (p := ⟨gb510, 1, none⟩) (Kd.R_far (p := ⟨gb510, 0, none⟩) (Kd.R_far (p := ⟨gb509, 0, none⟩) (Kd.R_mono (Kd.R_types HO505.out BK509.out (by decide)) (fun k_ hk => (⟨hk, hk.1.2⟩ : _ ∧ k_ ≠ gb510))) (fun _ hk => hk.1.2) (.slice Ao12 t503.length co12)) (fun _ hk => hk.2) (.int .i64 t506)) (fun _ hk => hk.2) (.int .i64 t507)) (fun _ hk => hk.2) (.int .i64 t508)) (fun _ h_ => h_.1)) (fun _ h_ => h_.1)))); (case side2 => exact (Kd.R_reads' HO505.out).2.1); rintro e w16 ⟨v512, rfl, ho0, hb⟩; have HO513 := Aside0.mk (Kd.R_lower (Kd.R_newB (Kd.R_new' ho0 (Kd.R_lt (by (with_reducible repeat (first | apply Kd.R_alloc | apply Kd.R_drewN | apply Kd.R_drew)); exact (Kd.R_mono (Kd.R_mono (Kd.R_far (p := ⟨gb510, 2, none⟩) (Kd.R_far (p := ⟨gb510, 1, none⟩) (Kd.R_far (p := ⟨gb510, 0, none⟩) (Kd.R_far (p := ⟨gb509, 0, none⟩) (Kd.R_mono (Kd.R_types HO505.out BK509.out (by decide)) (fun k_ hk => (⟨hk, hk.1.2⟩ : _ ∧ k_ ≠ gb510))) (fun _ hk => hk.1.2) (.slice Ao12 t503.length co12)) (fun _ hk => hk.2) (.int .i64 t506)) (fun _ hk => hk.2) (.int .i64 t507)) (fun _ hk => hk.2) (.int .i64 t508)) (fun _ h_ => h_.1)) (fun _ h_ => h_.1))))) (g := gb510) (o := .cells #[.int .i64 t506, .int .i64 t507, .int .i64 t508] 30 (0, 0)) (by refine bd_ ?_; refine blk_put (cs := #[.int .i64 t506, .int .i64 t507, .int .i64 0]) ?_ 2 _ rfl; refine bd_ ?_; refine blk_put (cs := #[.int .i64 t506, .int .i64 0, .int .i64 0]) ?_ 1 _ rfl; refine bd_ ?_; refine blk_put (cs := #[.int .i64 0, .int .i64 0, .int .i64 0]) ?_ 0 _ rfl; refine bd_ ?_; refine blk_far ?_ NB510_509.out _; refine bd_ ?_; exact BK510.out)) (bz_ HB)); replace HO505 := Aside0.mk (Kd.R_elder' (by (with_reducible repeat (first | apply Kd.R_alloc | apply Kd.R_drewN | apply Kd.R_drew)); exact (Kd.R_mono (Kd.R_mono (Kd.R_far (p := ⟨gb510, 2, none⟩) (Kd.R_far (p := ⟨gb510, 1, none⟩) (Kd.R_far (p := ⟨gb510, 0, none⟩) (Kd.R_far (p := ⟨gb509, 0, none⟩) (Kd.R_mono (Kd.R_types HO505.out BK509.out (by decide)) (fun k_ hk => (⟨hk, hk.1.2⟩ : _ ∧ k_ ≠ gb510))) (fun _ hk => hk.1.2) (.slice Ao12 t503.length co12)) (fun _ hk => hk.2) (.int .i64 t506)) (fun _ hk => hk.2) (.int .i64 t507)) (fun _ hk => hk.2) (.int .i64 t508)) (fun _ h_ => h_.1)) (fun _ h_ => h_.1))) (Kd.R_base ho0) hb); replace BK509 := Aside0.mk (blk_below (g := gb509) (o := .cells #[.slice Ao12 t503.length co12] 26 (0, 0)) (by refine bd_ ?_; refine blk_far ?_ NB509_510.out _; refine bd_ ?_; refine blk_far ?_ NB509_510.out _; refine bd_ ?_; refine blk_far ?_ NB509_510.out _; refine bd_ ?_; refine blk_put (cs := #[.slice none 0 0]) ?_ 0 _ rfl; refine bd_ ?_; exact BK509.out) hb); replace BK510 := Aside0.mk (blk_below (g := gb510) (o := .cells #[.int .i64 t506, .int .i64 t507, .int .i64 t508] 30 (0, 0)) (by refine bd_ ?_; refine blk_put (cs := #[.int .i64 t506, .int .i64 t507, .int .i64 0]) ?_ 2 _ rfl; refine bd_ ?_; refine blk_put (cs := #[.int .i64 t506, .int .i64 0, .int .i64 0]) ?_ 1 _ rfl; refine bd_ ?_; refine blk_put (cs := #[.int .i64 0, .int .i64 0, .int .i64 0]) ?_ 0 _ rfl; refine bd_ ?_; refine blk_far ?_ NB510_509.out _; refine bd_ ?_; exact BK510.out) hb); replace HB := at_ HB hb; (try clear hb); (try clear hb2); (try clear hk); (try clear hi); (try clear ho0)) | ((with_reducible refine gate_dst (N := 5) rfl ?_); refine box_event ?hg (N := 5) ?hd (cs := #[.slice none 0 0]) (t := 26) ?hr ?_; (case hd => rfl); (case hg => rfl); (case hr => first | (go_simp; done) | (go_simp; rfl)); intro gb515 hg w17 hbox hb; have BK515 := Aside0.mk hbox; have GW515 := ge_ HB hg; have GE515 := ge_ HB hg; have NB509_515 := nl_ BK509 hg; have NB515_509 := ng_ BK509 hg; have NB510_515 := nl_ BK510 hg; have NB515_510 := ng_ BK510 hg; replace HO505 := rb_ HO505 hb; replace HO513 := rb_ HO513 hb; replace HB := at_ HB hb; replace BK509 := ab_ BK509 hb; replace BK510 := ab_ BK510 hb; clear hb hbox hg; obtain ⟨Ao18, co18, eo18⟩ := Kd.R_slice HO513.out; subst eo18; have hnb19 := NB515_509.out; have hnc19 := NB509_515.out; have hnb20 := NB515_510.out; have hnc20 := NB510_515.out; have hcz21_0 := cz_ BK515 0 (.slice none 0 0); have hfz21_0 := fz_ BK515 0; have hcz22_0 := cz_ BK509 0 (.slice Ao12 t503.length co12); have hfz22_0 := fz_ BK509 0; have hcz23_0 := cz_ BK510 0 (.int .i64 t506); have hcz23_1 := cz_ BK510 1 (.int .i64 t507); have hcz23_2 := cz_ BK510 2 (.int .i64 t508); have hfz23_0 := fz_ BK510 0; have hfz23_1 := fz_ BK510 1; have hfz23_2 := fz_ BK510 2) | (go_at_call 11; (with_reducible refine (impl_PutRoute.calls k _ _ t503 t506 t507 t508 t516 true _ ?side1 ?side2 A7.out).mono ?_); (case side1 => refine (Kd.R_reads' (e := 30) (base := w.heap.size) (ok := fun k_ => ((True ∧ k_ ≠ gb510) ∧ some k_ ≠ (.slice Ao18 t511.length co18 : Value).ownBlock)) (n := t503.length) (c := co12) ?_).2.2; exact (hs_ HO505 BK515)); (case side2 => exact (Kd.R_reads' HO505.out).2.1); rintro e w24 ⟨v517, rfl, ho0, hb⟩; have HO518 := Aside0.mk (Kd.R_lower (Kd.R_newB (Kd.R_new' (Kd.R_new' ho0 (Kd.R_lt (hs_ HO505 BK515))) (Kd.R_lt (hs_ HO513 BK515))) (g := gb510) (o := .cells #[.int .i64 t506, .int .i64 t507, .int .i64 t508] 30 (0, 0)) (bc_ BK510)) (bz_ HB)); replace HO505 := Aside0.mk (Kd.R_elder' (hs_ HO505 BK515) (Kd.R_base ho0) hb); replace HO513 := Aside0.mk (Kd.R_elder' (hs_ HO513 BK515) (Kd.R_base ho0) hb); replace BK509 := bf_ BK509 NB509_515 hb; replace BK510 := bf_ BK510 NB510_515 hb; replace BK515 := Aside0.mk (blk_below (g := gb515) (o := .cells #[.slice Ao18 t511.length co18] 26 (0, 0)) (by refine bd_ ?_; refine blk_put (cs := #[.slice none 0 0]) ?_ 0 _ rfl; refine bd_ ?_; exact BK515.out) hb); replace HB := at_ HB hb; (try clear hb); (try clear hb2); (try clear hk); (try clear hi); (try clear ho0)) | ((with_reducible refine gate_dst (N := 7) rfl ?_); refine box_event ?hg (N := 7) ?hd (cs := #[.slice none 0 0]) (t := 26) ?hr ?_; (case hd => rfl); (case hg => rfl); (case hr => first | (go_simp; done) | (go_simp; rfl)); intro gb520 hg w25 hbox hb; have BK520 := Aside0.mk hbox; have GW520 := ge_ HB hg; have GE520 := ge_ HB hg; have NB509_520 := nl_ BK509 hg; have NB520_509 := ng_ BK509 hg; have NB510_520 := nl_ BK510 hg; have NB520_510 := ng_ BK510 hg; have NB515_520 := nl_ BK515 hg; have NB520_515 := ng_ BK515 hg; replace HO505 := rb_ HO505 hb; replace HO513 := rb_ HO513 hb; replace HO518 := rb_ HO518 hb; replace HB := at_ HB hb; replace BK509 := ab_ BK509 hb; replace BK510 := ab_ BK510 hb; replace BK515 := ab_ BK515 hb; clear hb hbox hg; obtain ⟨Ao26, co26, eo26⟩ := Kd.R_slice HO518.out; subst eo26; have hnb27 := NB520_509.out; have hnc27 := NB509_520.out; have hnb28 := NB520_510.out; have hnc28 := NB510_520.out; have hnb29 := NB520_515.out; have hnc29 := NB515_520.out; have hcz30_0 := cz_ BK520 0 (.slice none 0 0); have hfz30_0 := fz_ BK520 0))
 go_loopg [9, 10] k (fun kq v9 v10 w' => ∃ (x9_1 : Bool) (x10_1 : Int), v9 = .bool x9_1 ∧ v10 = .int .i64 x10_1 ∧ Aside0 (laws_FnRoutes.l0 kq l0 x9_1 x10_1 t503 t506 t507 t508 t516 = some r) ∧ Aside0 (kq ≤ k) ∧ Aside0 (Kd.R k30 30 w' w.heap.size (fun k_ => some k_ ≠ ((.slice Ao18 t511.length co18) : Value).ownBlock ∧ some k_ ≠ ((.slice Ao26 t516.length co26) : Value).ownBlock ∧ k_ ≠ gb510) (.slice Ao12 t503.length co12) t503) ∧ Aside0 (Kd.R k30 30 w' w.heap.size (fun k_ => some k_ ≠ ((.slice Ao12 t503.length co12) : Value).ownBlock ∧ some k_ ≠ ((.slice Ao26 t516.length co26) : Value).ownBlock ∧ k_ ≠ gb510) (.slice Ao18 t511.length co18) t511) ∧ Aside0 (Kd.R k30 30 w' w.heap.size (fun k_ => some k_ ≠ ((.slice Ao12 t503.length co12) : Value).ownBlock ∧ some k_ ≠ ((.slice Ao18 t511.length co18) : Value).ownBlock ∧ k_ ≠ gb510) (.slice Ao26 t516.length co26) t516) ∧ Aside0 (w'.heap[gb509]? = some (.cells #[(.slice Ao12 t503.length co12)] 26 (0, 0))) ∧ Aside0 (w'.heap[gb510]? = some (.cells #[.int .i64 t506, .int .i64 t507, .int .i64 t508] 30 (0, 0))) ∧ Aside0 (w'.heap[gb515]? = some (.cells #[(.slice Ao18 t511.length co18)] 26 (0, 0))) ∧ Aside0 (w'.heap[gb520]? = some (.cells #[(.slice Ao26 t516.length co26)] 26 (0, 0))) ∧ Aside0 (Below w.heap.size w w'))
 case atStart => exact ⟨(true), (0), er_, er_, H', ⟨Nat.le_refl _⟩, ⟨by (with_reducible repeat (first | apply Kd.R_alloc | apply Kd.R_drewN | apply Kd.R_drew)); exact Kd.R_mono (Kd.R_far (p := ⟨gb520, 0, none⟩) (Kd.R_types HO505.out BK520.out (by decide)) (fun _ hk => hk.2) (.slice Ao26 t516.length co26)) (fun _ hk => ⟨hk.1.1.2, ⟨hk.1.2, hk.1.1.1.2⟩⟩)⟩, ⟨by (with_reducible repeat (first | apply Kd.R_alloc | apply Kd.R_drewN | apply Kd.R_drew)); exact Kd.R_mono (Kd.R_far (p := ⟨gb520, 0, none⟩) (Kd.R_types HO513.out BK520.out (by decide)) (fun _ hk => hk.2) (.slice Ao26 t516.length co26)) (fun _ hk => ⟨hk.1.1.1.2, ⟨hk.1.2, hk.1.1.2⟩⟩)⟩, ⟨by (with_reducible repeat (first | apply Kd.R_alloc | apply Kd.R_drewN | apply Kd.R_drew)); exact Kd.R_mono (Kd.R_far (p := ⟨gb520, 0, none⟩) (Kd.R_types HO518.out BK520.out (by decide)) (fun _ hk => hk.2) (.slice Ao26 t516.length co26)) (fun _ hk => ⟨hk.1.1.1.2, ⟨hk.1.1.2, hk.1.2⟩⟩)⟩, ⟨bc_ BK509⟩, ⟨bc_ BK510⟩, ⟨bc_ BK515⟩, ⟨by refine bd_ ?_; refine blk_put (cs := #[.slice none 0 0]) ?_ 0 _ rfl; refine bd_ ?_; exact BK520.out⟩, ⟨bw112_⟩⟩
 case round =>
  clear H'
  try clear c1
  try clear c2
  try clear p2
  try clear c3
  try clear c6
  try clear c8
  try clear c13
  try clear c19
  try clear c20
  try clear c27
  try clear c28
  try clear c29
  try clear hcz14_0
  try clear hcz15_0
  try clear hcz15_1
  try clear hcz15_2
  try clear hcz21_0
  try clear hcz22_0
  try clear hcz23_0
  try clear hcz23_1
  try clear hcz23_2
  try clear hcz30_0
  try clear hfz14_0
  try clear hfz15_0
  try clear hfz15_1
  try clear hfz15_2
  try clear hfz21_0
  try clear hfz22_0
  try clear hfz23_0
  try clear hfz23_1
  try clear hfz23_2
  try clear hfz30_0
  obtain ⟨x9_1, x10_1, rfl, rfl, HA, HK1, HO_510000, HO_516000, HO_521000, BK509, BK510, BK515, BK520, HB⟩ := hrel
  cases gk with
  | zero => exact absurd HA.out (by simp [laws_FnRoutes.l0])
  | succ k1 =>
   have H := HA.out
   clear HA
   simp only [laws_FnRoutes.l0] at H
   by_cases c31 : x10_1 < (t503.length : Int)
   ·rw [if_pos c31] at H
    have c31b0 : decide (x10_1 < (t503.length : Int)) = true := decide_eq_true c31
    clear c31
    obtain ⟨c32b0, H⟩ := iq_ H
    by_cases c33 : (((rd_T30 t503 x10_1).f0.f0) == t506 && (((rd_T30 t503 x10_1).f0.f1) == t507)) = true
    ·rw [if_pos c33] at H
     have c33b0 : (((rd_T30 t503 x10_1).f0.f0) == t506 && (((rd_T30 t503 x10_1).f0.f1) == t507)) = true := c33
     (try (have c33b1 : decide (((rd_T30 t503 x10_1).f0.f0) = t506 && (((rd_T30 t503 x10_1).f0.f1) == t507)) = true := by simpa using c33))
     (try (have c33b2 : (((rd_T30 t503 x10_1).f0.f0) == t506 && (((rd_T30 t503 x10_1).f0.f1) == t507)) = true := by simpa using c33))
     clear c33
     have H' := Aside0.mk H
     clear H
     have hnb34 := NB509_510.out
     have hnc34 := NB510_509.out
     have hnb35 := NB509_515.out
     have hnc35 := NB515_509.out
     have hnb36 := NB509_520.out
     have hnc36 := NB520_509.out
     have hcz37_0 := cz_ BK509 0 (.slice Ao12 t503.length co12)
     have hfz37_0 := fz_ BK509 0
     have p521 : 0 ≤ (x10_1 : Int) := oa_
     have q521 : x10_1 < (t503.length : Int) := oa_
     obtain ⟨ad521, e521, hx521_0, hx521_1, hx521_2⟩ := at_T30 (Kd.R_reads' HO_510000.out).2.2 x10_1 p521 q521
     cases e521
     replace p521 := eq_true p521
     replace q521 := eq_true q521
     have hnb38 := NB510_515.out
     have hnc38 := NB515_510.out
     have hnb39 := NB510_520.out
     have hnc39 := NB520_510.out
     have hcz40_0 := cz_ BK510 0 (.int .i64 t506)
     have hcz40_1 := cz_ BK510 1 (.int .i64 t507)
     have hcz40_2 := cz_ BK510 2 (.int .i64 t508)
     have hfz40_0 := fz_ BK510 0
     have hfz40_1 := fz_ BK510 1
     have hfz40_2 := fz_ BK510 2
     go_wp2
     repeat (go_quiet (fail); try go_wp2)
     go_roundg k1
     case measure => have := HK1.out; omega
     case rel => exact ⟨(false), (wrap64 (x10_1 + 1)), er_, er_, H', ⟨by have := HK1.out; omega⟩, ⟨hd_ HO_510000⟩, ⟨hd_ HO_516000⟩, ⟨hd_ HO_521000⟩, ⟨bx_ BK509⟩, ⟨bx_ BK510⟩, ⟨bx_ BK515⟩, ⟨bx_ BK520⟩, ⟨bw112_⟩⟩
    rw [if_neg c33] at H
    have c33b0 : (((rd_T30 t503 x10_1).f0.f0) == t506 && (((rd_T30 t503 x10_1).f0.f1) == t507)) = false := by simpa using c33
    (try (have c33b1 : decide (((rd_T30 t503 x10_1).f0.f0) = t506 && (((rd_T30 t503 x10_1).f0.f1) == t507)) = false := by simpa using c33))
    (try (have c33b2 : (((rd_T30 t503 x10_1).f0.f0) == t506 && (((rd_T30 t503 x10_1).f0.f1) == t507)) = false := by simpa using c33))
    (try (have c33b3 : ¬ (((rd_T30 t503 x10_1).f0.f0) = t506 && (((rd_T30 t503 x10_1).f0.f1) == t507)) := by simpa using c33))
    clear c33
    have H' := Aside0.mk H
    clear H
    have hnb41 := NB509_510.out
    have hnc41 := NB510_509.out
    have hnb42 := NB509_515.out
    have hnc42 := NB515_509.out
    have hnb43 := NB509_520.out
    have hnc43 := NB520_509.out
    have hcz44_0 := cz_ BK509 0 (.slice Ao12 t503.length co12)
    have hfz44_0 := fz_ BK509 0
    have p521 : 0 ≤ (x10_1 : Int) := oa_
    have q521 : x10_1 < (t503.length : Int) := oa_
    obtain ⟨ad521, e521, hx521_0, hx521_1, hx521_2⟩ := at_T30 (Kd.R_reads' HO_510000.out).2.2 x10_1 p521 q521
    cases e521
    replace p521 := eq_true p521
    replace q521 := eq_true q521
    have hnb45 := NB510_515.out
    have hnc45 := NB515_510.out
    have hnb46 := NB510_520.out
    have hnc46 := NB520_510.out
    have hcz47_0 := cz_ BK510 0 (.int .i64 t506)
    have hcz47_1 := cz_ BK510 1 (.int .i64 t507)
    have hcz47_2 := cz_ BK510 2 (.int .i64 t508)
    have hfz47_0 := fz_ BK510 0
    have hfz47_1 := fz_ BK510 1
    have hfz47_2 := fz_ BK510 2
    go_wp2
    repeat (go_quiet (fail); try go_wp2)
    go_roundg k1
    case measure => have := HK1.out; omega
    case rel => exact ⟨(x9_1), (wrap64 (x10_1 + 1)), er_, er_, H', ⟨by have := HK1.out; omega⟩, ⟨hd_ HO_510000⟩, ⟨hd_ HO_516000⟩, ⟨hd_ HO_521000⟩, ⟨bx_ BK509⟩, ⟨bx_ BK510⟩, ⟨bx_ BK515⟩, ⟨bx_ BK520⟩, ⟨bw112_⟩⟩
   rw [if_neg c31] at H
   have c31b0 : decide (x10_1 < (t503.length : Int)) = false := decide_eq_false c31
   clear c31
   replace H := Option.bind_eq_some_iff.mp H
   obtain ⟨⟨t522, t525⟩, A480, H⟩ := H
   have A48 := Aside0.mk A480
   clear A480
   have HC49 := Aside0.mk H
   clear H
   have hnb50 := NB509_510.out
   have hnc50 := NB510_509.out
   have hnb51 := NB509_515.out
   have hnc51 := NB515_509.out
   have hnb52 := NB509_520.out
   have hnc52 := NB520_509.out
   have hcz53_0 := cz_ BK509 0 (.slice Ao12 t503.length co12)
   have hfz53_0 := fz_ BK509 0
   have hnb54 := NB520_510.out
   have hnc54 := NB510_520.out
   have hnb55 := NB520_515.out
   have hnc55 := NB515_520.out
   have hcz56_0 := cz_ BK520 0 (.slice Ao26 t516.length co26)
   have hfz56_0 := fz_ BK520 0
   have hnb57 := NB510_515.out
   have hnc57 := NB515_510.out
   have hcz58_0 := cz_ BK510 0 (.int .i64 t506)
   have hcz58_1 := cz_ BK510 1 (.int .i64 t507)
   have hcz58_2 := cz_ BK510 2 (.int .i64 t508)
   have hfz58_0 := fz_ BK510 0
   have hfz58_1 := fz_ BK510 1
   have hfz58_2 := fz_ BK510 2
   go_upto_region 17 with (first | (go_at_call 12; (with_reducible refine (impl_DropRoute.calls k1 _ _ t516 t506 t507 t522 t525 _ ?side1 ?side2 A48.out).mono ?_); (case side1 => exact rc_ HO_521000); (case side2 => exact (Kd.R_reads' HO_521000.out).2.1); rintro e w59 ⟨v523, rfl, ho0, hb⟩; have HO524 := Aside0.mk (Kd.R_lower (Kd.R_newB (Kd.R_new' (Kd.R_new' (Kd.R_new' ho0 (Kd.R_lt (hd_ HO_510000))) (Kd.R_lt (hd_ HO_516000))) (Kd.R_lt (hd_ HO_521000))) (g := gb510) (o := .cells #[.int .i64 t506, .int .i64 t507, .int .i64 t508] 30 (0, 0)) (bx_ BK510)) (bz_ HB)); replace HO_510000 := Aside0.mk (Kd.R_elder' (hd_ HO_510000) (Kd.R_base ho0) hb); replace HO_516000 := Aside0.mk (Kd.R_elder' (hd_ HO_516000) (Kd.R_base ho0) hb); replace HO_521000 := Aside0.mk (Kd.R_elder' (hd_ HO_521000) (Kd.R_base ho0) hb); replace BK509 := ab_ BK509 hb; replace BK510 := ab_ BK510 hb; replace BK515 := ab_ BK515 hb; replace BK520 := ab_ BK520 hb; replace HB := at_ HB hb; (try clear hb); (try clear hb2); (try clear hk); (try clear hi); (try clear ho0)) | ((with_reducible refine gate_dst (N := 11) rfl ?_); refine box_event ?hg (N := 11) ?hd (cs := #[.slice none 0 0]) (t := 26) ?hr ?_; (case hd => rfl); (case hg => rfl); (case hr => first | (go_simp; done) | (go_simp; rfl)); intro gb526 hg w60 hbox hb; have BK526 := Aside0.mk hbox; have GW526 := ge_ HB hg; have GE526 := ge_ HB hg; have NB509_526 := nl_ BK509 hg; have NB526_509 := ng_ BK509 hg; have NB510_526 := nl_ BK510 hg; have NB526_510 := ng_ BK510 hg; have NB515_526 := nl_ BK515 hg; have NB526_515 := ng_ BK515 hg; have NB520_526 := nl_ BK520 hg; have NB526_520 := ng_ BK520 hg; replace HO_510000 := rb_ HO_510000 hb; replace HO_516000 := rb_ HO_516000 hb; replace HO_521000 := rb_ HO_521000 hb; replace HO524 := rb_ HO524 hb; replace HB := at_ HB hb; replace BK509 := ab_ BK509 hb; replace BK510 := ab_ BK510 hb; replace BK515 := ab_ BK515 hb; replace BK520 := ab_ BK520 hb; clear hb hbox hg; obtain ⟨Ao61, co61, eo61⟩ := Kd.R_slice HO524.out; subst eo61; have hnb62 := NB526_509.out; have hnc62 := NB509_526.out; have hnb63 := NB526_510.out; have hnc63 := NB510_526.out; have hnb64 := NB526_515.out; have hnc64 := NB515_526.out; have hnb65 := NB526_520.out; have hnc65 := NB520_526.out; have hcz66_0 := cz_ BK526 0 (.slice none 0 0); have hfz66_0 := fz_ BK526 0))
   (try simp only [Act.put, List.setIfInBounds_toArray, List.set_cons_zero, List.set_cons_succ])
   go_cut [78] (fun v78 wc => ∃ (kq : Nat) (x78_48 : Bool), v78 = .bool x78_48 ∧ Aside0 (laws_FnRoutes.j1 kq l0 x9_1 x78_48 t503 t506 t507 t508 t516 t522 = some r) ∧ Aside0 (kq ≤ k1) ∧ Aside0 (Kd.R k30 30 wc w.heap.size (fun k_ => some k_ ≠ ((.slice Ao18 t511.length co18) : Value).ownBlock ∧ some k_ ≠ ((.slice Ao26 t516.length co26) : Value).ownBlock ∧ some k_ ≠ ((.slice Ao61 t522.length co61) : Value).ownBlock ∧ k_ ≠ gb510) (.slice Ao12 t503.length co12) t503) ∧ Aside0 (Kd.R k30 30 wc w.heap.size (fun k_ => some k_ ≠ ((.slice Ao12 t503.length co12) : Value).ownBlock ∧ some k_ ≠ ((.slice Ao26 t516.length co26) : Value).ownBlock ∧ some k_ ≠ ((.slice Ao61 t522.length co61) : Value).ownBlock ∧ k_ ≠ gb510) (.slice Ao18 t511.length co18) t511) ∧ Aside0 (Kd.R k30 30 wc w.heap.size (fun k_ => some k_ ≠ ((.slice Ao12 t503.length co12) : Value).ownBlock ∧ some k_ ≠ ((.slice Ao18 t511.length co18) : Value).ownBlock ∧ some k_ ≠ ((.slice Ao61 t522.length co61) : Value).ownBlock ∧ k_ ≠ gb510) (.slice Ao26 t516.length co26) t516) ∧ Aside0 (Kd.R k30 30 wc w.heap.size (fun k_ => some k_ ≠ ((.slice Ao12 t503.length co12) : Value).ownBlock ∧ some k_ ≠ ((.slice Ao18 t511.length co18) : Value).ownBlock ∧ some k_ ≠ ((.slice Ao26 t516.length co26) : Value).ownBlock ∧ k_ ≠ gb510) (.slice Ao61 t522.length co61) t522) ∧ Aside0 (wc.heap[gb509]? = some (.cells #[(.slice Ao12 t503.length co12)] 26 (0, 0))) ∧ Aside0 (wc.heap[gb510]? = some (.cells #[.int .i64 t506, .int .i64 t507, .int .i64 t508] 30 (0, 0))) ∧ Aside0 (wc.heap[gb515]? = some (.cells #[(.slice Ao18 t511.length co18)] 26 (0, 0))) ∧ Aside0 (wc.heap[gb520]? = some (.cells #[(.slice Ao26 t516.length co26)] 26 (0, 0))) ∧ Aside0 (wc.heap[gb526]? = some (.cells #[(.slice Ao61 t522.length co61)] 26 (0, 0))) ∧ Aside0 (Below w.heap.size w wc))
   case first =>
    have H := HC49.out
    clear HC49
    by_cases c67 : t525 = true
    rotate_left
    ·replace c67 := Bool.eq_false_iff.mpr c67
     subst c67
     rw [if_neg (show ¬ (false = true) by decide)] at H
     have H' := Aside0.mk H
     clear H
     go_wp2
     repeat (go_quiet (fail); try go_wp2)
     go_meet
     case rel => exact ⟨_, (true), er_, H', ⟨by have := HK1.out; first | omega | exact Nat.le_refl _⟩, ⟨by (with_reducible repeat (first | apply Kd.R_alloc | apply Kd.R_drewN | apply Kd.R_drew)); exact Kd.R_mono (Kd.R_far (p := ⟨gb526, 0, none⟩) (Kd.R_types HO_510000.out BK526.out (by decide)) (fun _ hk => hk.2) (.slice Ao61 t522.length co61)) (fun _ hk => ⟨hk.1.1.1, ⟨hk.1.1.2.1, ⟨hk.1.2, hk.1.1.2.2⟩⟩⟩)⟩, ⟨by (with_reducible repeat (first | apply Kd.R_alloc | apply Kd.R_drewN | apply Kd.R_drew)); exact Kd.R_mono (Kd.R_far (p := ⟨gb526, 0, none⟩) (Kd.R_types HO_516000.out BK526.out (by decide)) (fun _ hk => hk.2) (.slice Ao61 t522.length co61)) (fun _ hk => ⟨hk.1.1.1, ⟨hk.1.1.2.1, ⟨hk.1.2, hk.1.1.2.2⟩⟩⟩)⟩, ⟨by (with_reducible repeat (first | apply Kd.R_alloc | apply Kd.R_drewN | apply Kd.R_drew)); exact Kd.R_mono (Kd.R_far (p := ⟨gb526, 0, none⟩) (Kd.R_types HO_521000.out BK526.out (by decide)) (fun _ hk => hk.2) (.slice Ao61 t522.length co61)) (fun _ hk => ⟨hk.1.1.1, ⟨hk.1.1.2.1, ⟨hk.1.2, hk.1.1.2.2⟩⟩⟩)⟩, ⟨by (with_reducible repeat (first | apply Kd.R_alloc | apply Kd.R_drewN | apply Kd.R_drew)); exact Kd.R_mono (Kd.R_far (p := ⟨gb526, 0, none⟩) (Kd.R_types HO524.out BK526.out (by decide)) (fun _ hk => hk.2) (.slice Ao61 t522.length co61)) (fun _ hk => ⟨hk.1.1.1.1.2, ⟨hk.1.1.1.2, ⟨hk.1.1.2, hk.1.2⟩⟩⟩)⟩, ⟨bc_ BK509⟩, ⟨bc_ BK510⟩, ⟨bc_ BK515⟩, ⟨bc_ BK520⟩, ⟨by refine bd_ ?_; refine blk_put (cs := #[.slice none 0 0]) ?_ 0 _ rfl; refine bd_ ?_; exact BK526.out⟩, ⟨bw112_⟩⟩
    subst c67
    rw [if_pos rfl] at H
    by_cases c68 : x9_1 = true
    rotate_left
    ·replace c68 := Bool.eq_false_iff.mpr c68
     subst c68
     rw [if_neg (show ¬ (false = true) by decide)] at H
     have H' := Aside0.mk H
     clear H
     go_wp2
     repeat (go_quiet (fail); try go_wp2)
     go_meet
     case rel => exact ⟨_, (false), er_, H', ⟨by have := HK1.out; first | omega | exact Nat.le_refl _⟩, ⟨by (with_reducible repeat (first | apply Kd.R_alloc | apply Kd.R_drewN | apply Kd.R_drew)); exact Kd.R_mono (Kd.R_far (p := ⟨gb526, 0, none⟩) (Kd.R_types HO_510000.out BK526.out (by decide)) (fun _ hk => hk.2) (.slice Ao61 t522.length co61)) (fun _ hk => ⟨hk.1.1.1, ⟨hk.1.1.2.1, ⟨hk.1.2, hk.1.1.2.2⟩⟩⟩)⟩, ⟨by (with_reducible repeat (first | apply Kd.R_alloc | apply Kd.R_drewN | apply Kd.R_drew)); exact Kd.R_mono (Kd.R_far (p := ⟨gb526, 0, none⟩) (Kd.R_types HO_516000.out BK526.out (by decide)) (fun _ hk => hk.2) (.slice Ao61 t522.length co61)) (fun _ hk => ⟨hk.1.1.1, ⟨hk.1.1.2.1, ⟨hk.1.2, hk.1.1.2.2⟩⟩⟩)⟩, ⟨by (with_reducible repeat (first | apply Kd.R_alloc | apply Kd.R_drewN | apply Kd.R_drew)); exact Kd.R_mono (Kd.R_far (p := ⟨gb526, 0, none⟩) (Kd.R_types HO_521000.out BK526.out (by decide)) (fun _ hk => hk.2) (.slice Ao61 t522.length co61)) (fun _ hk => ⟨hk.1.1.1, ⟨hk.1.1.2.1, ⟨hk.1.2, hk.1.1.2.2⟩⟩⟩)⟩, ⟨by (with_reducible repeat (first | apply Kd.R_alloc | apply Kd.R_drewN | apply Kd.R_drew)); exact Kd.R_mono (Kd.R_far (p := ⟨gb526, 0, none⟩) (Kd.R_types HO524.out BK526.out (by decide)) (fun _ hk => hk.2) (.slice Ao61 t522.length co61)) (fun _ hk => ⟨hk.1.1.1.1.2, ⟨hk.1.1.1.2, ⟨hk.1.1.2, hk.1.2⟩⟩⟩)⟩, ⟨bc_ BK509⟩, ⟨bc_ BK510⟩, ⟨bc_ BK515⟩, ⟨bc_ BK520⟩, ⟨by refine bd_ ?_; refine blk_put (cs := #[.slice none 0 0]) ?_ 0 _ rfl; refine bd_ ?_; exact BK526.out⟩, ⟨bw112_⟩⟩
    subst c68
    rw [if_pos rfl] at H
    have H' := Aside0.mk H
    clear H
    have hnb69 := NB526_509.out
    have hnc69 := NB509_526.out
    have hnb70 := NB526_510.out
    have hnc70 := NB510_526.out
    have hnb71 := NB526_515.out
    have hnc71 := NB515_526.out
    have hnb72 := NB526_520.out
    have hnc72 := NB520_526.out
    have hcz73_0 := cz_ BK526 0 (.slice none 0 0)
    have hfz73_0 := fz_ BK526 0
    have hnb74 := NB509_510.out
    have hnc74 := NB510_509.out
    have hnb75 := NB509_515.out
    have hnc75 := NB515_509.out
    have hnb76 := NB509_520.out
    have hnc76 := NB520_509.out
    have hcz77_0 := cz_ BK509 0 (.slice Ao12 t503.length co12)
    have hfz77_0 := fz_ BK509 0
    go_wp2
    repeat (go_quiet (fail); try go_wp2)
    go_meet
    case rel => exact ⟨_, (((t522.length : Int) != (t503.length : Int))), er_, H', ⟨by have := HK1.out; first | omega | exact Nat.le_refl _⟩, ⟨by (with_reducible repeat (first | apply Kd.R_alloc | apply Kd.R_drewN | apply Kd.R_drew)); exact Kd.R_mono (Kd.R_far (p := ⟨gb526, 0, none⟩) (Kd.R_types HO_510000.out BK526.out (by decide)) (fun _ hk => hk.2) (.slice Ao61 t522.length co61)) (fun _ hk => ⟨hk.1.1.1, ⟨hk.1.1.2.1, ⟨hk.1.2, hk.1.1.2.2⟩⟩⟩)⟩, ⟨by (with_reducible repeat (first | apply Kd.R_alloc | apply Kd.R_drewN | apply Kd.R_drew)); exact Kd.R_mono (Kd.R_far (p := ⟨gb526, 0, none⟩) (Kd.R_types HO_516000.out BK526.out (by decide)) (fun _ hk => hk.2) (.slice Ao61 t522.length co61)) (fun _ hk => ⟨hk.1.1.1, ⟨hk.1.1.2.1, ⟨hk.1.2, hk.1.1.2.2⟩⟩⟩)⟩, ⟨by (with_reducible repeat (first | apply Kd.R_alloc | apply Kd.R_drewN | apply Kd.R_drew)); exact Kd.R_mono (Kd.R_far (p := ⟨gb526, 0, none⟩) (Kd.R_types HO_521000.out BK526.out (by decide)) (fun _ hk => hk.2) (.slice Ao61 t522.length co61)) (fun _ hk => ⟨hk.1.1.1, ⟨hk.1.1.2.1, ⟨hk.1.2, hk.1.1.2.2⟩⟩⟩)⟩, ⟨by (with_reducible repeat (first | apply Kd.R_alloc | apply Kd.R_drewN | apply Kd.R_drew)); exact Kd.R_mono (Kd.R_far (p := ⟨gb526, 0, none⟩) (Kd.R_types HO524.out BK526.out (by decide)) (fun _ hk => hk.2) (.slice Ao61 t522.length co61)) (fun _ hk => ⟨hk.1.1.1.1.2, ⟨hk.1.1.1.2, ⟨hk.1.1.2, hk.1.2⟩⟩⟩)⟩, ⟨bc_ BK509⟩, ⟨bc_ BK510⟩, ⟨bc_ BK515⟩, ⟨bc_ BK520⟩, ⟨by refine bd_ ?_; refine blk_put (cs := #[.slice none 0 0]) ?_ 0 _ rfl; refine bd_ ?_; exact BK526.out⟩, ⟨bw112_⟩⟩
   case rest =>
    clear HC49
    try clear c1
    try clear c2
    try clear p2
    try clear c3
    try clear c4
    try clear c5
    try clear p5
    try clear q5
    try clear hx5
    try clear c6
    try clear p6
    try clear c7
    try clear c8
    try clear c13
    try clear c19
    try clear c20
    try clear c27
    try clear c28
    try clear c29
    try clear c31
    try clear c31b0
    try clear c32
    try clear c32b0
    try clear c33
    try clear c33b0
    try clear c33b1
    try clear c33b2
    try clear c34
    try clear c35
    try clear c36
    try clear c38
    try clear c39
    try clear c41
    try clear c42
    try clear c43
    try clear c45
    try clear c46
    try clear c50
    try clear c51
    try clear c52
    try clear p52
    try clear q52
    try clear hx52
    try clear c54
    try clear c55
    try clear c57
    try clear c62
    try clear c63
    try clear c64
    try clear p64
    try clear c65
    try clear c67
    try clear c68
    try clear c69
    try clear c70
    try clear c71
    try clear c72
    try clear c74
    try clear c75
    try clear c76
    try clear hcz14_0
    try clear hcz15_0
    try clear hcz15_1
    try clear hcz15_2
    try clear hcz21_0
    try clear hcz22_0
    try clear hcz23_0
    try clear hcz23_1
    try clear hcz23_2
    try clear hcz30_0
    try clear hcz37_0
    try clear hcz40_0
    try clear hcz40_1
    try clear hcz40_2
    try clear hcz44_0
    try clear hcz47_0
    try clear hcz47_1
    try clear hcz47_2
    try clear hcz53_0
    try clear hcz56_0
    try clear hcz58_0
    try clear hcz58_1
    try clear hcz58_2
    try clear hcz66_0
    try clear hcz73_0
    try clear hcz77_0
    try clear hfz14_0
    try clear hfz15_0
    try clear hfz15_1
    try clear hfz15_2
    try clear hfz21_0
    try clear hfz22_0
    try clear hfz23_0
    try clear hfz23_1
    try clear hfz23_2
    try clear hfz30_0
    try clear hfz37_0
    try clear hfz40_0
    try clear hfz40_1
    try clear hfz40_2
    try clear hfz44_0
    try clear hfz47_0
    try clear hfz47_1
    try clear hfz47_2
    try clear hfz53_0
    try clear hfz56_0
    try clear hfz58_0
    try clear hfz58_1
    try clear hfz58_2
    try clear hfz66_0
    try clear hfz73_0
    try clear hfz77_0
    try clear hx521_0
    try clear hx521_1
    try clear hx521_2
    try clear p2
    try clear p521
    try clear q521
    obtain ⟨kq, x78_48, rfl, HA, HJ48, HO_510000, HO_516000, HO_521000, HO_527000, BK509, BK510, BK515, BK520, BK526, HB⟩ := hcut
    cases kq with
    | zero => exact absurd HA.out (by simp [laws_FnRoutes.j1])
    | succ kj48 =>
     have H := HA.out
     clear HA
     simp only [laws_FnRoutes.j1] at H
     by_cases c78 : x78_48 = true
     ·subst c78
      rw [if_pos rfl] at H
      obtain rfl := Option.some.inj H
      go_wp2
      repeat (go_quiet (fail); try go_wp2)
      go_ret
      exact ⟨by first | rfl | (simp [errW_none, errW_some] <;> rfl) | (simp [*, errW_none, errW_some] <;> rfl), bw112_⟩
     replace c78 := Bool.eq_false_iff.mpr c78
     subst c78
     rw [if_neg (show ¬ (false = true) by decide)] at H
     have H' := Aside0.mk H
     clear H
     go_wp2
     repeat (go_quiet (fail); try go_wp2)
     go_loopg [13] kj48 (fun kq v13 w' => ∃ (x13_3 : Int), v13 = .int .i64 x13_3 ∧ Aside0 (laws_FnRoutes.l1 kq l0 x9_1 x13_3 t503 t506 t507 t508 t516 t522 = some r) ∧ Aside0 (kq ≤ kj48) ∧ Aside0 (Kd.R k30 30 w' w.heap.size (fun k_ => some k_ ≠ ((.slice Ao18 t511.length co18) : Value).ownBlock ∧ some k_ ≠ ((.slice Ao26 t516.length co26) : Value).ownBlock ∧ some k_ ≠ ((.slice Ao61 t522.length co61) : Value).ownBlock ∧ k_ ≠ gb510) (.slice Ao12 t503.length co12) t503) ∧ Aside0 (Kd.R k30 30 w' w.heap.size (fun k_ => some k_ ≠ ((.slice Ao12 t503.length co12) : Value).ownBlock ∧ some k_ ≠ ((.slice Ao26 t516.length co26) : Value).ownBlock ∧ some k_ ≠ ((.slice Ao61 t522.length co61) : Value).ownBlock ∧ k_ ≠ gb510) (.slice Ao18 t511.length co18) t511) ∧ Aside0 (Kd.R k30 30 w' w.heap.size (fun k_ => some k_ ≠ ((.slice Ao12 t503.length co12) : Value).ownBlock ∧ some k_ ≠ ((.slice Ao18 t511.length co18) : Value).ownBlock ∧ some k_ ≠ ((.slice Ao61 t522.length co61) : Value).ownBlock ∧ k_ ≠ gb510) (.slice Ao26 t516.length co26) t516) ∧ Aside0 (Kd.R k30 30 w' w.heap.size (fun k_ => some k_ ≠ ((.slice Ao12 t503.length co12) : Value).ownBlock ∧ some k_ ≠ ((.slice Ao18 t511.length co18) : Value).ownBlock ∧ some k_ ≠ ((.slice Ao26 t516.length co26) : Value).ownBlock ∧ k_ ≠ gb510) (.slice Ao61 t522.length co61) t522) ∧ Aside0 (w'.heap[gb509]? = some (.cells #[(.slice Ao12 t503.length co12)] 26 (0, 0))) ∧ Aside0 (w'.heap[gb510]? = some (.cells #[.int .i64 t506, .int .i64 t507, .int .i64 t508] 30 (0, 0))) ∧ Aside0 (w'.heap[gb515]? = some (.cells #[(.slice Ao18 t511.length co18)] 26 (0, 0))) ∧ Aside0 (w'.heap[gb520]? = some (.cells #[(.slice Ao26 t516.length co26)] 26 (0, 0))) ∧ Aside0 (w'.heap[gb526]? = some (.cells #[(.slice Ao61 t522.length co61)] 26 (0, 0))) ∧ Aside0 (Below w.heap.size w w'))
     case atStart => exact ⟨(0), er_, H', ⟨Nat.le_refl _⟩, ⟨hd_ HO_510000⟩, ⟨hd_ HO_516000⟩, ⟨hd_ HO_521000⟩, ⟨hd_ HO_527000⟩, ⟨bx_ BK509⟩, ⟨bx_ BK510⟩, ⟨bx_ BK515⟩, ⟨bx_ BK520⟩, ⟨bx_ BK526⟩, ⟨bw112_⟩⟩
     case round =>
      clear H'
      try clear c1
      try clear c2
      try clear p2
      try clear c3
      try clear c4
      try clear c5
      try clear p5
      try clear q5
      try clear hx5
      try clear c6
      try clear p6
      try clear c7
      try clear c8
      try clear c13
      try clear c19
      try clear c20
      try clear c27
      try clear c28
      try clear c29
      try clear c31
      try clear c31b0
      try clear c32
      try clear c32b0
      try clear c33
      try clear c33b0
      try clear c33b1
      try clear c33b2
      try clear c34
      try clear c35
      try clear c36
      try clear c38
      try clear c39
      try clear c41
      try clear c42
      try clear c43
      try clear c45
      try clear c46
      try clear c50
      try clear c51
      try clear c52
      try clear p52
      try clear q52
      try clear hx52
      try clear c54
      try clear c55
      try clear c57
      try clear c62
      try clear c63
      try clear c64
      try clear p64
      try clear c65
      try clear c67
      try clear c68
      try clear c69
      try clear c70
      try clear c71
      try clear c72
      try clear c74
      try clear c75
      try clear c76
      try clear c78
      try clear hcz14_0
      try clear hcz15_0
      try clear hcz15_1
      try clear hcz15_2
      try clear hcz21_0
      try clear hcz22_0
      try clear hcz23_0
      try clear hcz23_1
      try clear hcz23_2
      try clear hcz30_0
      try clear hcz37_0
      try clear hcz40_0
      try clear hcz40_1
      try clear hcz40_2
      try clear hcz44_0
      try clear hcz47_0
      try clear hcz47_1
      try clear hcz47_2
      try clear hcz53_0
      try clear hcz56_0
      try clear hcz58_0
      try clear hcz58_1
      try clear hcz58_2
      try clear hcz66_0
      try clear hcz73_0
      try clear hcz77_0
      try clear hfz14_0
      try clear hfz15_0
      try clear hfz15_1
      try clear hfz15_2
      try clear hfz21_0
      try clear hfz22_0
      try clear hfz23_0
      try clear hfz23_1
      try clear hfz23_2
      try clear hfz30_0
      try clear hfz37_0
      try clear hfz40_0
      try clear hfz40_1
      try clear hfz40_2
      try clear hfz44_0
      try clear hfz47_0
      try clear hfz47_1
      try clear hfz47_2
      try clear hfz53_0
      try clear hfz56_0
      try clear hfz58_0
      try clear hfz58_1
      try clear hfz58_2
      try clear hfz66_0
      try clear hfz73_0
      try clear hfz77_0
      try clear hx521_0
      try clear hx521_1
      try clear hx521_2
      try clear p2
      try clear p5
      try clear p52
      try clear p521
      try clear p6
      try clear p64
      try clear q5
      try clear q52
      try clear q521
      obtain ⟨x13_3, rfl, HA, HK3, HO_510000, HO_516000, HO_521000, HO_527000, BK509, BK510, BK515, BK520, BK526, HB⟩ := hrel
      cases gk with
      | zero => exact absurd HA.out (by simp [laws_FnRoutes.l1])
      | succ k3 =>
       have H := HA.out
       clear HA
       simp only [laws_FnRoutes.l1] at H
       by_cases c79 : x13_3 < 40
       rotate_left
       ·rw [if_neg c79] at H
        have c79b0 : decide (x13_3 < 40) = false := decide_eq_false c79
        clear c79
        obtain rfl := Option.some.inj H
        go_wp2
        repeat (go_quiet (fail); try go_wp2)
        go_ret
        exact ⟨by first | rfl | (simp [errW_none, errW_some] <;> rfl) | (simp [*, errW_none, errW_some] <;> rfl), bw112_⟩
       rw [if_pos c79] at H
       have c79b0 : decide (x13_3 < 40) = true := decide_eq_true c79
       clear c79
       replace H := Option.bind_eq_some_iff.mp H
       obtain ⟨t527, A800, H⟩ := H
       have A80 := Aside0.mk A800
       clear A800
       replace H := Option.bind_eq_some_iff.mp H
       obtain ⟨t528, A810, H⟩ := H
       have A81 := Aside0.mk A810
       clear A810
       replace H := Option.bind_eq_some_iff.mp H
       obtain ⟨t529, A820, H⟩ := H
       have A82 := Aside0.mk A820
       clear A820
       replace H := Option.bind_eq_some_iff.mp H
       obtain ⟨⟨t530, t531, t532, t533⟩, A830, H⟩ := H
       have A83 := Aside0.mk A830
       clear A830
       have HC84 := Aside0.mk H
       clear H
       have hnb85 := NB510_509.out
       have hnc85 := NB509_510.out
       have hnb86 := NB510_515.out
       have hnc86 := NB515_510.out
       have hnb87 := NB510_520.out
       have hnc87 := NB520_510.out
       have hnb88 := NB510_526.out
       have hnc88 := NB526_510.out
       have hcz89_0 := cz_ BK510 0 (.int .i64 t506)
       have hcz89_1 := cz_ BK510 1 (.int .i64 t507)
       have hcz89_2 := cz_ BK510 2 (.int .i64 t508)
       have hfz89_0 := fz_ BK510 0
       have hfz89_1 := fz_ BK510 1
       have hfz89_2 := fz_ BK510 2
       have hnb90 := NB509_515.out
       have hnc90 := NB515_509.out
       have hnb91 := NB509_520.out
       have hnc91 := NB520_509.out
       have hnb92 := NB509_526.out
       have hnc92 := NB526_509.out
       have hcz93_0 := cz_ BK509 0 (.slice Ao12 t503.length co12)
       have hfz93_0 := fz_ BK509 0
       go_upto_region 26 with (fail)
       repeat (go_quiet (first | (go_at_call 13; (with_reducible refine (laws_at.calls _ _ l0 x13_3 t527 _ ?side1 ?side2 A80.out).mono ?_); (case side1 => exact cb_ HR0 HB); (case side2 => exact HC0.out); rintro e w' ⟨rfl, ⟨nd, rfl⟩⟩; (try first | exact ⟨rfl, _, World.drewN_drewN _ _ _⟩ | exact ⟨rfl, _, Eq.trans (World.drewN_drewN _ _ _) (congrArg (World.drewN _) (Nat.add_assoc _ _ _))⟩)) | (go_at_call 13; (with_reducible refine (laws_at.calls _ _ l0 (wrap64 (x13_3 + 2)) t528 _ ?side1 ?side2 A81.out).mono ?_); (case side1 => exact cc_ HR0 HB); (case side2 => exact HC0.out); rintro e w' ⟨rfl, ⟨nd, rfl⟩⟩; (try first | exact ⟨rfl, _, World.drewN_drewN _ _ _⟩ | exact ⟨rfl, _, Eq.trans (World.drewN_drewN _ _ _) (congrArg (World.drewN _) (Nat.add_assoc _ _ _))⟩))); try go_upto_region 26 with (first | (go_at_call 14; (with_reducible refine (spec_FindHop.calls k3 _ _ t503 (Int.tmod (wrap64 ((wrap64 ((wrap64 (t506 + (wrap64 (t527 * t528)))) - 40)) + 65536)) 65536) t529 _ ?side1 ?side2 A82.out).mono ?_); (case side1 => exact rc_ HO_510000); (case side2 => exact (Kd.R_reads' HO_510000.out).2.1); rintro e w94 ⟨rfl, hb⟩; replace HO_510000 := rb_ HO_510000 hb; replace HO_516000 := rb_ HO_516000 hb; replace HO_521000 := rb_ HO_521000 hb; replace HO_527000 := rb_ HO_527000 hb; replace BK509 := ab_ BK509 hb; replace BK510 := ab_ BK510 hb; replace BK515 := ab_ BK515 hb; replace BK520 := ab_ BK520 hb; replace BK526 := ab_ BK526 hb; replace HB := at_ HB hb; (try clear hb); (try clear hb2); (try clear hk); (try clear hi); have hcz95_0 := cz_ BK509 0 (.slice Ao12 t503.length co12); have hfz95_0 := fz_ BK509 0) | (go_at_call 15; (with_reducible refine (spec_BestRoute.calls k3 _ _ t503 (Int.tmod (wrap64 ((wrap64 ((wrap64 (t506 + (wrap64 (t527 * t528)))) - 40)) + 65536)) 65536) t530 t531 t532 t533 _ ?side1 ?side2 A83.out).mono ?_); (case side1 => exact rc_ HO_510000); (case side2 => exact (Kd.R_reads' HO_510000.out).2.1); rintro e w96 ⟨rfl, hb⟩; replace HO_510000 := rb_ HO_510000 hb; replace HO_516000 := rb_ HO_516000 hb; replace HO_521000 := rb_ HO_521000 hb; replace HO_527000 := rb_ HO_527000 hb; replace BK509 := ab_ BK509 hb; replace BK510 := ab_ BK510 hb; replace BK515 := ab_ BK515 hb; replace BK520 := ab_ BK520 hb; replace BK526 := ab_ BK526 hb; replace HB := at_ HB hb; (try clear hb); (try clear hb2); (try clear hk); (try clear hi)) | ((with_reducible refine gate_dst (N := 16) rfl ?_); refine box_event ?hg (N := 16) ?hd (cs := #[.int .i64 0, .int .i64 0, .int .i64 0]) (t := 30) ?hr ?_; (case hd => rfl); (case hg => rfl); (case hr => first | (go_simp; done) | (go_simp; rfl)); intro gb534 hg w97 hbox hb; have BK534 := Aside0.mk hbox; have GW534 := ge_ HB hg; have GE534 := ge_ HB hg; have NB509_534 := nl_ BK509 hg; have NB534_509 := ng_ BK509 hg; have NB510_534 := nl_ BK510 hg; have NB534_510 := ng_ BK510 hg; have NB515_534 := nl_ BK515 hg; have NB534_515 := ng_ BK515 hg; have NB520_534 := nl_ BK520 hg; have NB534_520 := ng_ BK520 hg; have NB526_534 := nl_ BK526 hg; have NB534_526 := ng_ BK526 hg; replace HO_510000 := Aside0.mk (Kd.R_below (Kd.R_elderB (hd_ HO_510000) gb534 (Nat.le_of_eq hg.symm)) hb); replace HO_516000 := Aside0.mk (Kd.R_below (Kd.R_elderB (hd_ HO_516000) gb534 (Nat.le_of_eq hg.symm)) hb); replace HO_521000 := Aside0.mk (Kd.R_below (Kd.R_elderB (hd_ HO_521000) gb534 (Nat.le_of_eq hg.symm)) hb); replace HO_527000 := Aside0.mk (Kd.R_below (Kd.R_elderB (hd_ HO_527000) gb534 (Nat.le_of_eq hg.symm)) hb); replace HB := at_ HB hb; replace BK509 := ab_ BK509 hb; replace BK510 := ab_ BK510 hb; replace BK515 := ab_ BK515 hb; replace BK520 := ab_ BK520 hb; replace BK526 := ab_ BK526 hb; clear hb hbox hg; have hnb98 := NB534_509.out; have hnc98 := NB509_534.out; have hnb99 := NB534_510.out; have hnc99 := NB510_534.out; have hnb100 := NB534_515.out; have hnc100 := NB515_534.out; have hnb101 := NB534_520.out; have hnc101 := NB520_534.out; have hnb102 := NB534_526.out; have hnc102 := NB526_534.out; have hcz103_0 := cz_ BK534 0 (.int .i64 0); have hcz103_1 := cz_ BK534 1 (.int .i64 0); have hcz103_2 := cz_ BK534 2 (.int .i64 0); have hfz103_0 := fz_ BK534 0; have hfz103_1 := fz_ BK534 1; have hfz103_2 := fz_ BK534 2)))
       (try simp only [Act.put, List.setIfInBounds_toArray, List.set_cons_zero, List.set_cons_succ])
       go_cut [124] (fun v124 wc => ∃ (kq : Nat) (x124_83 : Bool), v124 = .bool x124_83 ∧ Aside0 (laws_FnRoutes.j3 kq l0 x9_1 x13_3 (Int.tmod (wrap64 ((wrap64 ((wrap64 (t506 + (wrap64 (t527 * t528)))) - 40)) + 65536)) 65536) t529 t529 x124_83 t503 t506 t507 t508 t516 t522 = some r) ∧ Aside0 (kq ≤ k3) ∧ Aside0 (Kd.R k30 30 wc w.heap.size (fun k_ => some k_ ≠ ((.slice Ao18 t511.length co18) : Value).ownBlock ∧ some k_ ≠ ((.slice Ao26 t516.length co26) : Value).ownBlock ∧ some k_ ≠ ((.slice Ao61 t522.length co61) : Value).ownBlock ∧ k_ ≠ gb510 ∧ k_ ≠ gb534) (.slice Ao12 t503.length co12) t503) ∧ Aside0 (Kd.R k30 30 wc w.heap.size (fun k_ => some k_ ≠ ((.slice Ao12 t503.length co12) : Value).ownBlock ∧ some k_ ≠ ((.slice Ao26 t516.length co26) : Value).ownBlock ∧ some k_ ≠ ((.slice Ao61 t522.length co61) : Value).ownBlock ∧ k_ ≠ gb510 ∧ k_ ≠ gb534) (.slice Ao18 t511.length co18) t511) ∧ Aside0 (Kd.R k30 30 wc w.heap.size (fun k_ => some k_ ≠ ((.slice Ao12 t503.length co12) : Value).ownBlock ∧ some k_ ≠ ((.slice Ao18 t511.length co18) : Value).ownBlock ∧ some k_ ≠ ((.slice Ao61 t522.length co61) : Value).ownBlock ∧ k_ ≠ gb510 ∧ k_ ≠ gb534) (.slice Ao26 t516.length co26) t516) ∧ Aside0 (Kd.R k30 30 wc w.heap.size (fun k_ => some k_ ≠ ((.slice Ao12 t503.length co12) : Value).ownBlock ∧ some k_ ≠ ((.slice Ao18 t511.length co18) : Value).ownBlock ∧ some k_ ≠ ((.slice Ao26 t516.length co26) : Value).ownBlock ∧ k_ ≠ gb510 ∧ k_ ≠ gb534) (.slice Ao61 t522.length co61) t522) ∧ Aside0 (wc.heap[gb509]? = some (.cells #[(.slice Ao12 t503.length co12)] 26 (0, 0))) ∧ Aside0 (wc.heap[gb510]? = some (.cells #[.int .i64 t506, .int .i64 t507, .int .i64 t508] 30 (0, 0))) ∧ Aside0 (wc.heap[gb515]? = some (.cells #[(.slice Ao18 t511.length co18)] 26 (0, 0))) ∧ Aside0 (wc.heap[gb520]? = some (.cells #[(.slice Ao26 t516.length co26)] 26 (0, 0))) ∧ Aside0 (wc.heap[gb526]? = some (.cells #[(.slice Ao61 t522.length co61)] 26 (0, 0))) ∧ Aside0 (wc.heap[gb534]? = some (.cells #[.int .i64 t530, .int .i64 t531, .int .i64 t532] 30 (0, 0))) ∧ Aside0 (Below w.heap.size w wc))
       case first =>
        have H := HC84.out
        clear HC84
        replace H := Option.bind_eq_some_iff.mp H
        obtain ⟨t535, A1040, H⟩ := H
        have A104 := Aside0.mk A1040
        clear A1040
        by_cases c105 : t535 = true
        rotate_left
        ·replace c105 := Bool.eq_false_iff.mpr c105
         subst c105
         rw [if_neg (show ¬ (false = true) by decide)] at H
         have H' := Aside0.mk H
         clear H
         have hnb127 := NB510_509.out
         have hnc127 := NB509_510.out
         have hnb128 := NB510_515.out
         have hnc128 := NB515_510.out
         have hnb129 := NB510_520.out
         have hnc129 := NB520_510.out
         have hnb130 := NB510_526.out
         have hnc130 := NB526_510.out
         have hnb131 := NB510_534.out
         have hnc131 := NB534_510.out
         have hcz132_0 := cz_ BK510 0 (.int .i64 t506)
         have hcz132_1 := cz_ BK510 1 (.int .i64 t507)
         have hcz132_2 := cz_ BK510 2 (.int .i64 t508)
         have hfz132_0 := fz_ BK510 0
         have hfz132_1 := fz_ BK510 1
         have hfz132_2 := fz_ BK510 2
         go_wp2_with (go_at_call 16; (with_reducible refine (spec_HasAddr.calls t506 t507 (Int.tmod (wrap64 ((wrap64 ((wrap64 (t506 + (wrap64 (t527 * t528)))) - 40)) + 65536)) 65536) false _ A104.out).mono ?_); rintro e w133 ⟨rfl, hb⟩; replace HO_510000 := Aside0.mk (Kd.R_below (by (with_reducible repeat (first | apply Kd.R_alloc | apply Kd.R_drewN | apply Kd.R_drew)); exact (Kd.R_mono (Kd.R_far (p := ⟨gb534, 2, none⟩) (Kd.R_far (p := ⟨gb534, 1, none⟩) (Kd.R_far (p := ⟨gb534, 0, none⟩) (Kd.R_mono HO_510000.out (fun k_ hk => (⟨hk, hk.2⟩ : _ ∧ k_ ≠ gb534))) (fun _ hk => hk.2) (.int .i64 t530)) (fun _ hk => hk.2) (.int .i64 t531)) (fun _ hk => hk.2) (.int .i64 t532)) (fun _ h_ => h_.1))) hb); replace HO_516000 := Aside0.mk (Kd.R_below (by (with_reducible repeat (first | apply Kd.R_alloc | apply Kd.R_drewN | apply Kd.R_drew)); exact (Kd.R_mono (Kd.R_far (p := ⟨gb534, 2, none⟩) (Kd.R_far (p := ⟨gb534, 1, none⟩) (Kd.R_far (p := ⟨gb534, 0, none⟩) (Kd.R_mono HO_516000.out (fun k_ hk => (⟨hk, hk.2⟩ : _ ∧ k_ ≠ gb534))) (fun _ hk => hk.2) (.int .i64 t530)) (fun _ hk => hk.2) (.int .i64 t531)) (fun _ hk => hk.2) (.int .i64 t532)) (fun _ h_ => h_.1))) hb); replace HO_521000 := Aside0.mk (Kd.R_below (by (with_reducible repeat (first | apply Kd.R_alloc | apply Kd.R_drewN | apply Kd.R_drew)); exact (Kd.R_mono (Kd.R_far (p := ⟨gb534, 2, none⟩) (Kd.R_far (p := ⟨gb534, 1, none⟩) (Kd.R_far (p := ⟨gb534, 0, none⟩) (Kd.R_mono HO_521000.out (fun k_ hk => (⟨hk, hk.2⟩ : _ ∧ k_ ≠ gb534))) (fun _ hk => hk.2) (.int .i64 t530)) (fun _ hk => hk.2) (.int .i64 t531)) (fun _ hk => hk.2) (.int .i64 t532)) (fun _ h_ => h_.1))) hb); replace HO_527000 := Aside0.mk (Kd.R_below (by (with_reducible repeat (first | apply Kd.R_alloc | apply Kd.R_drewN | apply Kd.R_drew)); exact (Kd.R_mono (Kd.R_far (p := ⟨gb534, 2, none⟩) (Kd.R_far (p := ⟨gb534, 1, none⟩) (Kd.R_far (p := ⟨gb534, 0, none⟩) (Kd.R_mono HO_527000.out (fun k_ hk => (⟨hk, hk.2⟩ : _ ∧ k_ ≠ gb534))) (fun _ hk => hk.2) (.int .i64 t530)) (fun _ hk => hk.2) (.int .i64 t531)) (fun _ hk => hk.2) (.int .i64 t532)) (fun _ h_ => h_.1))) hb); replace BK509 := bf_ BK509 NB509_534 hb; replace BK510 := bf_ BK510 NB510_534 hb; replace BK515 := bf_ BK515 NB515_534 hb; replace BK520 := bf_ BK520 NB520_534 hb; replace BK526 := bf_ BK526 NB526_534 hb; replace BK534 := Aside0.mk (blk_below (g := gb534) (o := .cells #[.int .i64 t530, .int .i64 t531, .int .i64 t532] 30 (0, 0)) (by refine bd_ ?_; refine blk_put (cs := #[.int .i64 t530, .int .i64 t531, .int .i64 0]) ?_ 2 _ rfl; refine bd_ ?_; refine blk_put (cs := #[.int .i64 t530, .int .i64 0, .int .i64 0]) ?_ 1 _ rfl; refine bd_ ?_; refine blk_put (cs := #[.int .i64 0, .int .i64 0, .int .i64 0]) ?_ 0 _ rfl; refine bd_ ?_; exact BK534.out) hb); replace HB := at_ HB hb; (try clear hb); (try clear hb2); (try clear hk); (try clear hi))
         go_meet
         case rel => exact ⟨_, (false), er_, H', ⟨by have := HK1.out; have := HJ48.out; have := HK3.out; first | omega | exact Nat.le_refl _⟩, ⟨by (with_reducible repeat (first | apply Kd.R_alloc | apply Kd.R_drewN | apply Kd.R_drew)); exact Kd.R_mono HO_510000.out (fun _ hk => ⟨hk.1.1, ⟨hk.1.2.1, ⟨hk.1.2.2.1, ⟨hk.1.2.2.2, hk.2⟩⟩⟩⟩)⟩, ⟨by (with_reducible repeat (first | apply Kd.R_alloc | apply Kd.R_drewN | apply Kd.R_drew)); exact Kd.R_mono HO_516000.out (fun _ hk => ⟨hk.1.1, ⟨hk.1.2.1, ⟨hk.1.2.2.1, ⟨hk.1.2.2.2, hk.2⟩⟩⟩⟩)⟩, ⟨by (with_reducible repeat (first | apply Kd.R_alloc | apply Kd.R_drewN | apply Kd.R_drew)); exact Kd.R_mono HO_521000.out (fun _ hk => ⟨hk.1.1, ⟨hk.1.2.1, ⟨hk.1.2.2.1, ⟨hk.1.2.2.2, hk.2⟩⟩⟩⟩)⟩, ⟨by (with_reducible repeat (first | apply Kd.R_alloc | apply Kd.R_drewN | apply Kd.R_drew)); exact Kd.R_mono HO_527000.out (fun _ hk => ⟨hk.1.1, ⟨hk.1.2.1, ⟨hk.1.2.2.1, ⟨hk.1.2.2.2, hk.2⟩⟩⟩⟩)⟩, ⟨bx_ BK509⟩, ⟨bx_ BK510⟩, ⟨bx_ BK515⟩, ⟨bx_ BK520⟩, ⟨bx_ BK526⟩, ⟨bx_ BK534⟩, ⟨bw112_⟩⟩
        subst c105
        rw [if_pos rfl] at H
        by_cases c106 : t533 = true
        ·subst c106
         rw [if_pos rfl] at H
         have H' := Aside0.mk H
         clear H
         have hnb107 := NB510_509.out
         have hnc107 := NB509_510.out
         have hnb108 := NB510_515.out
         have hnc108 := NB515_510.out
         have hnb109 := NB510_520.out
         have hnc109 := NB520_510.out
         have hnb110 := NB510_526.out
         have hnc110 := NB526_510.out
         have hnb111 := NB510_534.out
         have hnc111 := NB534_510.out
         have hcz112_0 := cz_ BK510 0 (.int .i64 t506)
         have hcz112_1 := cz_ BK510 1 (.int .i64 t507)
         have hcz112_2 := cz_ BK510 2 (.int .i64 t508)
         have hfz112_0 := fz_ BK510 0
         have hfz112_1 := fz_ BK510 1
         have hfz112_2 := fz_ BK510 2
         go_wp2_with (go_at_call 16; (with_reducible refine (spec_HasAddr.calls t506 t507 (Int.tmod (wrap64 ((wrap64 ((wrap64 (t506 + (wrap64 (t527 * t528)))) - 40)) + 65536)) 65536) true _ A104.out).mono ?_); rintro e w113 ⟨rfl, hb⟩; replace HO_510000 := Aside0.mk (Kd.R_below (by (with_reducible repeat (first | apply Kd.R_alloc | apply Kd.R_drewN | apply Kd.R_drew)); exact (Kd.R_mono (Kd.R_far (p := ⟨gb534, 2, none⟩) (Kd.R_far (p := ⟨gb534, 1, none⟩) (Kd.R_far (p := ⟨gb534, 0, none⟩) (Kd.R_mono HO_510000.out (fun k_ hk => (⟨hk, hk.2⟩ : _ ∧ k_ ≠ gb534))) (fun _ hk => hk.2) (.int .i64 t530)) (fun _ hk => hk.2) (.int .i64 t531)) (fun _ hk => hk.2) (.int .i64 t532)) (fun _ h_ => h_.1))) hb); replace HO_516000 := Aside0.mk (Kd.R_below (by (with_reducible repeat (first | apply Kd.R_alloc | apply Kd.R_drewN | apply Kd.R_drew)); exact (Kd.R_mono (Kd.R_far (p := ⟨gb534, 2, none⟩) (Kd.R_far (p := ⟨gb534, 1, none⟩) (Kd.R_far (p := ⟨gb534, 0, none⟩) (Kd.R_mono HO_516000.out (fun k_ hk => (⟨hk, hk.2⟩ : _ ∧ k_ ≠ gb534))) (fun _ hk => hk.2) (.int .i64 t530)) (fun _ hk => hk.2) (.int .i64 t531)) (fun _ hk => hk.2) (.int .i64 t532)) (fun _ h_ => h_.1))) hb); replace HO_521000 := Aside0.mk (Kd.R_below (by (with_reducible repeat (first | apply Kd.R_alloc | apply Kd.R_drewN | apply Kd.R_drew)); exact (Kd.R_mono (Kd.R_far (p := ⟨gb534, 2, none⟩) (Kd.R_far (p := ⟨gb534, 1, none⟩) (Kd.R_far (p := ⟨gb534, 0, none⟩) (Kd.R_mono HO_521000.out (fun k_ hk => (⟨hk, hk.2⟩ : _ ∧ k_ ≠ gb534))) (fun _ hk => hk.2) (.int .i64 t530)) (fun _ hk => hk.2) (.int .i64 t531)) (fun _ hk => hk.2) (.int .i64 t532)) (fun _ h_ => h_.1))) hb); replace HO_527000 := Aside0.mk (Kd.R_below (by (with_reducible repeat (first | apply Kd.R_alloc | apply Kd.R_drewN | apply Kd.R_drew)); exact (Kd.R_mono (Kd.R_far (p := ⟨gb534, 2, none⟩) (Kd.R_far (p := ⟨gb534, 1, none⟩) (Kd.R_far (p := ⟨gb534, 0, none⟩) (Kd.R_mono HO_527000.out (fun k_ hk => (⟨hk, hk.2⟩ : _ ∧ k_ ≠ gb534))) (fun _ hk => hk.2) (.int .i64 t530)) (fun _ hk => hk.2) (.int .i64 t531)) (fun _ hk => hk.2) (.int .i64 t532)) (fun _ h_ => h_.1))) hb); replace BK509 := bf_ BK509 NB509_534 hb; replace BK510 := bf_ BK510 NB510_534 hb; replace BK515 := bf_ BK515 NB515_534 hb; replace BK520 := bf_ BK520 NB520_534 hb; replace BK526 := bf_ BK526 NB526_534 hb; replace BK534 := Aside0.mk (blk_below (g := gb534) (o := .cells #[.int .i64 t530, .int .i64 t531, .int .i64 t532] 30 (0, 0)) (by refine bd_ ?_; refine blk_put (cs := #[.int .i64 t530, .int .i64 t531, .int .i64 0]) ?_ 2 _ rfl; refine bd_ ?_; refine blk_put (cs := #[.int .i64 t530, .int .i64 0, .int .i64 0]) ?_ 1 _ rfl; refine bd_ ?_; refine blk_put (cs := #[.int .i64 0, .int .i64 0, .int .i64 0]) ?_ 0 _ rfl; refine bd_ ?_; exact BK534.out) hb); replace HB := at_ HB hb; (try clear hb); (try clear hb2); (try clear hk); (try clear hi); have hnb114 := NB534_509.out; have hnc114 := NB509_534.out; have hnb115 := NB534_515.out; have hnc115 := NB515_534.out; have hnb116 := NB534_520.out; have hnc116 := NB520_534.out; have hnb117 := NB534_526.out; have hnc117 := NB526_534.out; have hcz118_0 := cz_ BK534 0 (.int .i64 t530); have hcz118_1 := cz_ BK534 1 (.int .i64 t531); have hcz118_2 := cz_ BK534 2 (.int .i64 t532); have hfz118_0 := fz_ BK534 0; have hfz118_1 := fz_ BK534 1; have hfz118_2 := fz_ BK534 2; have hcz119_0 := cz_ BK510 0 (.int .i64 t506); have hcz119_1 := cz_ BK510 1 (.int .i64 t507); have hcz119_2 := cz_ BK510 2 (.int .i64 t508); have hfz119_0 := fz_ BK510 0; have hfz119_1 := fz_ BK510 1; have hfz119_2 := fz_ BK510 2)
         go_meet
         case rel => exact ⟨_, (decide (t531 ≤ t507)), er_, H', ⟨by have := HK1.out; have := HJ48.out; have := HK3.out; first | omega | exact Nat.le_refl _⟩, ⟨by (with_reducible repeat (first | apply Kd.R_alloc | apply Kd.R_drewN | apply Kd.R_drew)); exact Kd.R_mono HO_510000.out (fun _ hk => ⟨hk.1.1, ⟨hk.1.2.1, ⟨hk.1.2.2.1, ⟨hk.1.2.2.2, hk.2⟩⟩⟩⟩)⟩, ⟨by (with_reducible repeat (first | apply Kd.R_alloc | apply Kd.R_drewN | apply Kd.R_drew)); exact Kd.R_mono HO_516000.out (fun _ hk => ⟨hk.1.1, ⟨hk.1.2.1, ⟨hk.1.2.2.1, ⟨hk.1.2.2.2, hk.2⟩⟩⟩⟩)⟩, ⟨by (with_reducible repeat (first | apply Kd.R_alloc | apply Kd.R_drewN | apply Kd.R_drew)); exact Kd.R_mono HO_521000.out (fun _ hk => ⟨hk.1.1, ⟨hk.1.2.1, ⟨hk.1.2.2.1, ⟨hk.1.2.2.2, hk.2⟩⟩⟩⟩)⟩, ⟨by (with_reducible repeat (first | apply Kd.R_alloc | apply Kd.R_drewN | apply Kd.R_drew)); exact Kd.R_mono HO_527000.out (fun _ hk => ⟨hk.1.1, ⟨hk.1.2.1, ⟨hk.1.2.2.1, ⟨hk.1.2.2.2, hk.2⟩⟩⟩⟩)⟩, ⟨bx_ BK509⟩, ⟨bx_ BK510⟩, ⟨bx_ BK515⟩, ⟨bx_ BK520⟩, ⟨bx_ BK526⟩, ⟨bx_ BK534⟩, ⟨bw112_⟩⟩
        replace c106 := Bool.eq_false_iff.mpr c106
        subst c106
        rw [if_neg (show ¬ (false = true) by decide)] at H
        have H' := Aside0.mk H
        clear H
        have hnb120 := NB510_509.out
        have hnc120 := NB509_510.out
        have hnb121 := NB510_515.out
        have hnc121 := NB515_510.out
        have hnb122 := NB510_520.out
        have hnc122 := NB520_510.out
        have hnb123 := NB510_526.out
        have hnc123 := NB526_510.out
        have hnb124 := NB510_534.out
        have hnc124 := NB534_510.out
        have hcz125_0 := cz_ BK510 0 (.int .i64 t506)
        have hcz125_1 := cz_ BK510 1 (.int .i64 t507)
        have hcz125_2 := cz_ BK510 2 (.int .i64 t508)
        have hfz125_0 := fz_ BK510 0
        have hfz125_1 := fz_ BK510 1
        have hfz125_2 := fz_ BK510 2
        go_wp2_with (go_at_call 16; (with_reducible refine (spec_HasAddr.calls t506 t507 (Int.tmod (wrap64 ((wrap64 ((wrap64 (t506 + (wrap64 (t527 * t528)))) - 40)) + 65536)) 65536) true _ A104.out).mono ?_); rintro e w126 ⟨rfl, hb⟩; replace HO_510000 := Aside0.mk (Kd.R_below (by (with_reducible repeat (first | apply Kd.R_alloc | apply Kd.R_drewN | apply Kd.R_drew)); exact (Kd.R_mono (Kd.R_far (p := ⟨gb534, 2, none⟩) (Kd.R_far (p := ⟨gb534, 1, none⟩) (Kd.R_far (p := ⟨gb534, 0, none⟩) (Kd.R_mono HO_510000.out (fun k_ hk => (⟨hk, hk.2⟩ : _ ∧ k_ ≠ gb534))) (fun _ hk => hk.2) (.int .i64 t530)) (fun _ hk => hk.2) (.int .i64 t531)) (fun _ hk => hk.2) (.int .i64 t532)) (fun _ h_ => h_.1))) hb); replace HO_516000 := Aside0.mk (Kd.R_below (by (with_reducible repeat (first | apply Kd.R_alloc | apply Kd.R_drewN | apply Kd.R_drew)); exact (Kd.R_mono (Kd.R_far (p := ⟨gb534, 2, none⟩) (Kd.R_far (p := ⟨gb534, 1, none⟩) (Kd.R_far (p := ⟨gb534, 0, none⟩) (Kd.R_mono HO_516000.out (fun k_ hk => (⟨hk, hk.2⟩ : _ ∧ k_ ≠ gb534))) (fun _ hk => hk.2) (.int .i64 t530)) (fun _ hk => hk.2) (.int .i64 t531)) (fun _ hk => hk.2) (.int .i64 t532)) (fun _ h_ => h_.1))) hb); replace HO_521000 := Aside0.mk (Kd.R_below (by (with_reducible repeat (first | apply Kd.R_alloc | apply Kd.R_drewN | apply Kd.R_drew)); exact (Kd.R_mono (Kd.R_far (p := ⟨gb534, 2, none⟩) (Kd.R_far (p := ⟨gb534, 1, none⟩) (Kd.R_far (p := ⟨gb534, 0, none⟩) (Kd.R_mono HO_521000.out (fun k_ hk => (⟨hk, hk.2⟩ : _ ∧ k_ ≠ gb534))) (fun _ hk => hk.2) (.int .i64 t530)) (fun _ hk => hk.2) (.int .i64 t531)) (fun _ hk => hk.2) (.int .i64 t532)) (fun _ h_ => h_.1))) hb); replace HO_527000 := Aside0.mk (Kd.R_below (by (with_reducible repeat (first | apply Kd.R_alloc | apply Kd.R_drewN | apply Kd.R_drew)); exact (Kd.R_mono (Kd.R_far (p := ⟨gb534, 2, none⟩) (Kd.R_far (p := ⟨gb534, 1, none⟩) (Kd.R_far (p := ⟨gb534, 0, none⟩) (Kd.R_mono HO_527000.out (fun k_ hk => (⟨hk, hk.2⟩ : _ ∧ k_ ≠ gb534))) (fun _ hk => hk.2) (.int .i64 t530)) (fun _ hk => hk.2) (.int .i64 t531)) (fun _ hk => hk.2) (.int .i64 t532)) (fun _ h_ => h_.1))) hb); replace BK509 := bf_ BK509 NB509_534 hb; replace BK510 := bf_ BK510 NB510_534 hb; replace BK515 := bf_ BK515 NB515_534 hb; replace BK520 := bf_ BK520 NB520_534 hb; replace BK526 := bf_ BK526 NB526_534 hb; replace BK534 := Aside0.mk (blk_below (g := gb534) (o := .cells #[.int .i64 t530, .int .i64 t531, .int .i64 t532] 30 (0, 0)) (by refine bd_ ?_; refine blk_put (cs := #[.int .i64 t530, .int .i64 t531, .int .i64 0]) ?_ 2 _ rfl; refine bd_ ?_; refine blk_put (cs := #[.int .i64 t530, .int .i64 0, .int .i64 0]) ?_ 1 _ rfl; refine bd_ ?_; refine blk_put (cs := #[.int .i64 0, .int .i64 0, .int .i64 0]) ?_ 0 _ rfl; refine bd_ ?_; exact BK534.out) hb); replace HB := at_ HB hb; (try clear hb); (try clear hb2); (try clear hk); (try clear hi))
        go_meet
        case rel => exact ⟨_, (true), er_, H', ⟨by have := HK1.out; have := HJ48.out; have := HK3.out; first | omega | exact Nat.le_refl _⟩, ⟨by (with_reducible repeat (first | apply Kd.R_alloc | apply Kd.R_drewN | apply Kd.R_drew)); exact Kd.R_mono HO_510000.out (fun _ hk => ⟨hk.1.1, ⟨hk.1.2.1, ⟨hk.1.2.2.1, ⟨hk.1.2.2.2, hk.2⟩⟩⟩⟩)⟩, ⟨by (with_reducible repeat (first | apply Kd.R_alloc | apply Kd.R_drewN | apply Kd.R_drew)); exact Kd.R_mono HO_516000.out (fun _ hk => ⟨hk.1.1, ⟨hk.1.2.1, ⟨hk.1.2.2.1, ⟨hk.1.2.2.2, hk.2⟩⟩⟩⟩)⟩, ⟨by (with_reducible repeat (first | apply Kd.R_alloc | apply Kd.R_drewN | apply Kd.R_drew)); exact Kd.R_mono HO_521000.out (fun _ hk => ⟨hk.1.1, ⟨hk.1.2.1, ⟨hk.1.2.2.1, ⟨hk.1.2.2.2, hk.2⟩⟩⟩⟩)⟩, ⟨by (with_reducible repeat (first | apply Kd.R_alloc | apply Kd.R_drewN | apply Kd.R_drew)); exact Kd.R_mono HO_527000.out (fun _ hk => ⟨hk.1.1, ⟨hk.1.2.1, ⟨hk.1.2.2.1, ⟨hk.1.2.2.2, hk.2⟩⟩⟩⟩)⟩, ⟨bx_ BK509⟩, ⟨bx_ BK510⟩, ⟨bx_ BK515⟩, ⟨bx_ BK520⟩, ⟨bx_ BK526⟩, ⟨bx_ BK534⟩, ⟨bw112_⟩⟩
       case rest =>
        clear HC84
        try clear c1
        try clear c2
        try clear p2
        try clear c3
        try clear c4
        try clear c5
        try clear p5
        try clear q5
        try clear hx5
        try clear c6
        try clear p6
        try clear c7
        try clear c8
        try clear c9
        try clear c10
        try clear c11
        try clear c12
        try clear c13
        try clear c19
        try clear c20
        try clear c27
        try clear c28
        try clear c29
        try clear c31
        try clear c31b0
        try clear c32
        try clear c32b0
        try clear c33
        try clear c33b0
        try clear c33b1
        try clear c33b2
        try clear c34
        try clear c35
        try clear c36
        try clear c38
        try clear c39
        try clear c41
        try clear c42
        try clear c43
        try clear c45
        try clear c46
        try clear c50
        try clear c51
        try clear c52
        try clear p52
        try clear q52
        try clear hx52
        try clear c54
        try clear c55
        try clear c57
        try clear c62
        try clear c63
        try clear c64
        try clear p64
        try clear c65
        try clear c67
        try clear c68
        try clear c69
        try clear c70
        try clear c71
        try clear c72
        try clear c74
        try clear c75
        try clear c76
        try clear c78
        try clear c79
        try clear c79b0
        try clear c85
        try clear c86
        try clear c87
        try clear c88
        try clear c90
        try clear c91
        try clear c92
        try clear c98
        try clear c99
        try clear c100
        try clear c101
        try clear c102
        try clear c105
        try clear c106
        try clear c107
        try clear c108
        try clear c109
        try clear c110
        try clear c111
        try clear c114
        try clear c115
        try clear c116
        try clear c117
        try clear c120
        try clear c121
        try clear c122
        try clear c123
        try clear c124
        try clear c127
        try clear c128
        try clear c129
        try clear c130
        try clear c131
        try clear hcz103_0
        try clear hcz103_1
        try clear hcz103_2
        try clear hcz112_0
        try clear hcz112_1
        try clear hcz112_2
        try clear hcz118_0
        try clear hcz118_1
        try clear hcz118_2
        try clear hcz119_0
        try clear hcz119_1
        try clear hcz119_2
        try clear hcz125_0
        try clear hcz125_1
        try clear hcz125_2
        try clear hcz132_0
        try clear hcz132_1
        try clear hcz132_2
        try clear hcz14_0
        try clear hcz15_0
        try clear hcz15_1
        try clear hcz15_2
        try clear hcz21_0
        try clear hcz22_0
        try clear hcz23_0
        try clear hcz23_1
        try clear hcz23_2
        try clear hcz30_0
        try clear hcz37_0
        try clear hcz40_0
        try clear hcz40_1
        try clear hcz40_2
        try clear hcz44_0
        try clear hcz47_0
        try clear hcz47_1
        try clear hcz47_2
        try clear hcz53_0
        try clear hcz56_0
        try clear hcz58_0
        try clear hcz58_1
        try clear hcz58_2
        try clear hcz66_0
        try clear hcz73_0
        try clear hcz77_0
        try clear hcz89_0
        try clear hcz89_1
        try clear hcz89_2
        try clear hcz93_0
        try clear hcz95_0
        try clear hfz103_0
        try clear hfz103_1
        try clear hfz103_2
        try clear hfz112_0
        try clear hfz112_1
        try clear hfz112_2
        try clear hfz118_0
        try clear hfz118_1
        try clear hfz118_2
        try clear hfz119_0
        try clear hfz119_1
        try clear hfz119_2
        try clear hfz125_0
        try clear hfz125_1
        try clear hfz125_2
        try clear hfz132_0
        try clear hfz132_1
        try clear hfz132_2
        try clear hfz14_0
        try clear hfz15_0
        try clear hfz15_1
        try clear hfz15_2
        try clear hfz21_0
        try clear hfz22_0
        try clear hfz23_0
        try clear hfz23_1
        try clear hfz23_2
        try clear hfz30_0
        try clear hfz37_0
        try clear hfz40_0
        try clear hfz40_1
        try clear hfz40_2
        try clear hfz44_0
        try clear hfz47_0
        try clear hfz47_1
        try clear hfz47_2
        try clear hfz53_0
        try clear hfz56_0
        try clear hfz58_0
        try clear hfz58_1
        try clear hfz58_2
        try clear hfz66_0
        try clear hfz73_0
        try clear hfz77_0
        try clear hfz89_0
        try clear hfz89_1
        try clear hfz89_2
        try clear hfz93_0
        try clear hfz95_0
        try clear hx521_0
        try clear hx521_1
        try clear hx521_2
        try clear p2
        try clear p5
        try clear p52
        try clear p521
        try clear p6
        try clear p64
        try clear q5
        try clear q52
        try clear q521
        obtain ⟨kq, x124_83, rfl, HA, HJ83, HO_510000, HO_516000, HO_521000, HO_527000, BK509, BK510, BK515, BK520, BK526, BK534, HB⟩ := hcut
        cases kq with
        | zero => exact absurd HA.out (by simp [laws_FnRoutes.j3])
        | succ kj83 =>
         have H := HA.out
         clear HA
         simp only [laws_FnRoutes.j3] at H
         have HC134 := Aside0.mk H
         clear H
         go_upto_if 124 with (fail)
         repeat (go_quiet (fail); go_upto_if 124 with (fail))
         go_cut [18] (fun v18 wc => ∃ (kq : Nat) (x18_133 : Int), v18 = .int .i64 x18_133 ∧ Aside0 (laws_FnRoutes.j4 kq l0 x9_1 x13_3 (Int.tmod (wrap64 ((wrap64 ((wrap64 (t506 + (wrap64 (t527 * t528)))) - 40)) + 65536)) 65536) t529 x18_133 t503 t506 t507 t508 t516 t522 = some r) ∧ Aside0 (kq ≤ kj83) ∧ Aside0 (Kd.R k30 30 wc w.heap.size (fun k_ => some k_ ≠ ((.slice Ao18 t511.length co18) : Value).ownBlock ∧ some k_ ≠ ((.slice Ao26 t516.length co26) : Value).ownBlock ∧ some k_ ≠ ((.slice Ao61 t522.length co61) : Value).ownBlock ∧ k_ ≠ gb510 ∧ k_ ≠ gb534) (.slice Ao12 t503.length co12) t503) ∧ Aside0 (Kd.R k30 30 wc w.heap.size (fun k_ => some k_ ≠ ((.slice Ao12 t503.length co12) : Value).ownBlock ∧ some k_ ≠ ((.slice Ao26 t516.length co26) : Value).ownBlock ∧ some k_ ≠ ((.slice Ao61 t522.length co61) : Value).ownBlock ∧ k_ ≠ gb510 ∧ k_ ≠ gb534) (.slice Ao18 t511.length co18) t511) ∧ Aside0 (Kd.R k30 30 wc w.heap.size (fun k_ => some k_ ≠ ((.slice Ao12 t503.length co12) : Value).ownBlock ∧ some k_ ≠ ((.slice Ao18 t511.length co18) : Value).ownBlock ∧ some k_ ≠ ((.slice Ao61 t522.length co61) : Value).ownBlock ∧ k_ ≠ gb510 ∧ k_ ≠ gb534) (.slice Ao26 t516.length co26) t516) ∧ Aside0 (Kd.R k30 30 wc w.heap.size (fun k_ => some k_ ≠ ((.slice Ao12 t503.length co12) : Value).ownBlock ∧ some k_ ≠ ((.slice Ao18 t511.length co18) : Value).ownBlock ∧ some k_ ≠ ((.slice Ao26 t516.length co26) : Value).ownBlock ∧ k_ ≠ gb510 ∧ k_ ≠ gb534) (.slice Ao61 t522.length co61) t522) ∧ Aside0 (wc.heap[gb509]? = some (.cells #[(.slice Ao12 t503.length co12)] 26 (0, 0))) ∧ Aside0 (wc.heap[gb510]? = some (.cells #[.int .i64 t506, .int .i64 t507, .int .i64 t508] 30 (0, 0))) ∧ Aside0 (wc.heap[gb515]? = some (.cells #[(.slice Ao18 t511.length co18)] 26 (0, 0))) ∧ Aside0 (wc.heap[gb520]? = some (.cells #[(.slice Ao26 t516.length co26)] 26 (0, 0))) ∧ Aside0 (wc.heap[gb526]? = some (.cells #[(.slice Ao61 t522.length co61)] 26 (0, 0))) ∧ Aside0 (wc.heap[gb534]? = some (.cells #[.int .i64 t530, .int .i64 t531, .int .i64 t532] 30 (0, 0))) ∧ Aside0 (Below w.heap.size w wc))
         case first =>
          have H := HC134.out
          clear HC134
          by_cases c135 : x124_83 = true
          rotate_left
          ·replace c135 := Bool.eq_false_iff.mpr c135
           subst c135
           rw [if_neg (show ¬ (false = true) by decide)] at H
           have H' := Aside0.mk H
           clear H
           go_wp2
           repeat (go_quiet (fail); try go_wp2)
           go_meet
           case rel => exact ⟨_, (t529), er_, H', ⟨by have := HK1.out; have := HJ48.out; have := HK3.out; have := HJ83.out; first | omega | exact Nat.le_refl _⟩, ⟨hd_ HO_510000⟩, ⟨hd_ HO_516000⟩, ⟨hd_ HO_521000⟩, ⟨hd_ HO_527000⟩, ⟨bx_ BK509⟩, ⟨bx_ BK510⟩, ⟨bx_ BK515⟩, ⟨bx_ BK520⟩, ⟨bx_ BK526⟩, ⟨bx_ BK534⟩, ⟨bw112_⟩⟩
          subst c135
          rw [if_pos rfl] at H
          have H' := Aside0.mk H
          clear H
          have hnb136 := NB510_509.out
          have hnc136 := NB509_510.out
          have hnb137 := NB510_515.out
          have hnc137 := NB515_510.out
          have hnb138 := NB510_520.out
          have hnc138 := NB520_510.out
          have hnb139 := NB510_526.out
          have hnc139 := NB526_510.out
          have hnb140 := NB510_534.out
          have hnc140 := NB534_510.out
          have hcz141_0 := cz_ BK510 0 (.int .i64 t506)
          have hcz141_1 := cz_ BK510 1 (.int .i64 t507)
          have hcz141_2 := cz_ BK510 2 (.int .i64 t508)
          have hfz141_0 := fz_ BK510 0
          have hfz141_1 := fz_ BK510 1
          have hfz141_2 := fz_ BK510 2
          go_wp2
          repeat (go_quiet (fail); try go_wp2)
          go_meet
          case rel => exact ⟨_, (t508), er_, H', ⟨by have := HK1.out; have := HJ48.out; have := HK3.out; have := HJ83.out; first | omega | exact Nat.le_refl _⟩, ⟨hd_ HO_510000⟩, ⟨hd_ HO_516000⟩, ⟨hd_ HO_521000⟩, ⟨hd_ HO_527000⟩, ⟨bx_ BK509⟩, ⟨bx_ BK510⟩, ⟨bx_ BK515⟩, ⟨bx_ BK520⟩, ⟨bx_ BK526⟩, ⟨bx_ BK534⟩, ⟨bw112_⟩⟩
         case rest =>
          clear HC134
          try clear c1
          try clear c2
          try clear p2
          try clear c3
          try clear c4
          try clear c5
          try clear p5
          try clear q5
          try clear hx5
          try clear c6
          try clear p6
          try clear c7
          try clear c8
          try clear c9
          try clear c10
          try clear c11
          try clear c12
          try clear c13
          try clear c14
          try clear c19
          try clear c20
          try clear c27
          try clear c28
          try clear c29
          try clear c31
          try clear c31b0
          try clear c32
          try clear c32b0
          try clear c33
          try clear c33b0
          try clear c33b1
          try clear c33b2
          try clear c34
          try clear c35
          try clear c36
          try clear c38
          try clear c39
          try clear c41
          try clear c42
          try clear c43
          try clear c45
          try clear c46
          try clear c50
          try clear c51
          try clear c52
          try clear p52
          try clear q52
          try clear hx52
          try clear c54
          try clear c55
          try clear c57
          try clear c62
          try clear c63
          try clear c64
          try clear p64
          try clear c65
          try clear c67
          try clear c68
          try clear c69
          try clear c70
          try clear c71
          try clear c72
          try clear c74
          try clear c75
          try clear c76
          try clear c78
          try clear c79
          try clear c79b0
          try clear c85
          try clear c86
          try clear c87
          try clear c88
          try clear c90
          try clear c91
          try clear c92
          try clear c98
          try clear c99
          try clear c100
          try clear c101
          try clear c102
          try clear c105
          try clear c106
          try clear c107
          try clear c108
          try clear c109
          try clear c110
          try clear c111
          try clear c114
          try clear c115
          try clear c116
          try clear c117
          try clear c120
          try clear c121
          try clear c122
          try clear c123
          try clear c124
          try clear c127
          try clear c128
          try clear c129
          try clear c130
          try clear c131
          try clear c135
          try clear c136
          try clear c137
          try clear c138
          try clear c139
          try clear c140
          try clear hcz103_0
          try clear hcz103_1
          try clear hcz103_2
          try clear hcz112_0
          try clear hcz112_1
          try clear hcz112_2
          try clear hcz118_0
          try clear hcz118_1
          try clear hcz118_2
          try clear hcz119_0
          try clear hcz119_1
          try clear hcz119_2
          try clear hcz125_0
          try clear hcz125_1
          try clear hcz125_2
          try clear hcz132_0
          try clear hcz132_1
          try clear hcz132_2
          try clear hcz141_0
          try clear hcz141_1
          try clear hcz141_2
          try clear hcz14_0
          try clear hcz15_0
          try clear hcz15_1
          try clear hcz15_2
          try clear hcz21_0
          try clear hcz22_0
          try clear hcz23_0
          try clear hcz23_1
          try clear hcz23_2
          try clear hcz30_0
          try clear hcz37_0
          try clear hcz40_0
          try clear hcz40_1
          try clear hcz40_2
          try clear hcz44_0
          try clear hcz47_0
          try clear hcz47_1
          try clear hcz47_2
          try clear hcz53_0
          try clear hcz56_0
          try clear hcz58_0
          try clear hcz58_1
          try clear hcz58_2
          try clear hcz66_0
          try clear hcz73_0
          try clear hcz77_0
          try clear hcz89_0
          try clear hcz89_1
          try clear hcz89_2
          try clear hcz93_0
          try clear hcz95_0
          try clear hfz103_0
          try clear hfz103_1
          try clear hfz103_2
          try clear hfz112_0
          try clear hfz112_1
          try clear hfz112_2
          try clear hfz118_0
          try clear hfz118_1
          try clear hfz118_2
          try clear hfz119_0
          try clear hfz119_1
          try clear hfz119_2
          try clear hfz125_0
          try clear hfz125_1
          try clear hfz125_2
          try clear hfz132_0
          try clear hfz132_1
          try clear hfz132_2
          try clear hfz141_0
          try clear hfz141_1
          try clear hfz141_2
          try clear hfz14_0
          try clear hfz15_0
          try clear hfz15_1
          try clear hfz15_2
          try clear hfz21_0
          try clear hfz22_0
          try clear hfz23_0
          try clear hfz23_1
          try clear hfz23_2
          try clear hfz30_0
          try clear hfz37_0
          try clear hfz40_0
          try clear hfz40_1
          try clear hfz40_2
          try clear hfz44_0
          try clear hfz47_0
          try clear hfz47_1
          try clear hfz47_2
          try clear hfz53_0
          try clear hfz56_0
          try clear hfz58_0
          try clear hfz58_1
          try clear hfz58_2
          try clear hfz66_0
          try clear hfz73_0
          try clear hfz77_0
          try clear hfz89_0
          try clear hfz89_1
          try clear hfz89_2
          try clear hfz93_0
          try clear hfz95_0
          try clear hx521_0
          try clear hx521_1
          try clear hx521_2
          try clear p2
          try clear p5
          try clear p52
          try clear p521
          try clear p6
          try clear p64
          try clear q5
          try clear q52
          try clear q521
          obtain ⟨kq, x18_133, rfl, HA, HJ133, HO_510000, HO_516000, HO_521000, HO_527000, BK509, BK510, BK515, BK520, BK526, BK534, HB⟩ := hcut
          cases kq with
          | zero => exact absurd HA.out (by simp [laws_FnRoutes.j4])
          | succ kj133 =>
           have H := HA.out
           clear HA
           simp only [laws_FnRoutes.j4] at H
           replace H := Option.bind_eq_some_iff.mp H
           obtain ⟨t536, A1420, H⟩ := H
           have A142 := Aside0.mk A1420
           clear A1420
           by_cases c143 : t536 = x18_133
           rotate_left
           ·rw [if_neg c143] at H
            have c143b0 : (t536 == x18_133) = false := beq_eq_false_iff_ne.mpr c143
            have c143b1 : (t536 != x18_133) = true := bne_iff_ne.mpr c143
            obtain rfl := Option.some.inj H
            have hnb180 := NB520_509.out
            have hnc180 := NB509_520.out
            have hnb181 := NB520_510.out
            have hnc181 := NB510_520.out
            have hnb182 := NB520_515.out
            have hnc182 := NB515_520.out
            have hnb183 := NB520_526.out
            have hnc183 := NB526_520.out
            have hnb184 := NB520_534.out
            have hnc184 := NB534_520.out
            have hcz185_0 := cz_ BK520 0 (.slice Ao26 t516.length co26)
            have hfz185_0 := fz_ BK520 0
            go_wp2_with (go_at_call 17; (with_reducible refine (impl_FindHop.calls kj133 _ _ t516 (Int.tmod (wrap64 ((wrap64 ((wrap64 (t506 + (wrap64 (t527 * t528)))) - 40)) + 65536)) 65536) t536 _ ?side1 ?side2 A142.out).mono ?_); (case side1 => exact rc_ HO_521000); (case side2 => exact (Kd.R_reads' HO_521000.out).2.1); rintro e w186 ⟨rfl, hb⟩; replace HO_510000 := rb_ HO_510000 hb; replace HO_516000 := rb_ HO_516000 hb; replace HO_521000 := rb_ HO_521000 hb; replace HO_527000 := rb_ HO_527000 hb; replace BK509 := ab_ BK509 hb; replace BK510 := ab_ BK510 hb; replace BK515 := ab_ BK515 hb; replace BK520 := ab_ BK520 hb; replace BK526 := ab_ BK526 hb; replace BK534 := ab_ BK534 hb; replace HB := at_ HB hb; (try clear hb); (try clear hb2); (try clear hk); (try clear hi))
            go_ret
            exact ⟨by first | rfl | (simp [errW_none, errW_some] <;> rfl) | (simp [*, errW_none, errW_some] <;> rfl), bw112_⟩
           rw [if_pos c143] at H
           have c143b0 : (t536 == x18_133) = true := beq_iff_eq.mpr c143
           have c143b1 : (t536 != x18_133) = false := bne_eq_false_iff_eq.mpr c143
           clear c143
           by_cases c144 : x9_1 = true
           rotate_left
           ·replace c144 := Bool.eq_false_iff.mpr c144
            subst c144
            rw [if_neg (show ¬ (false = true) by decide)] at H
            have H' := Aside0.mk H
            clear H
            have hnb173 := NB520_509.out
            have hnc173 := NB509_520.out
            have hnb174 := NB520_510.out
            have hnc174 := NB510_520.out
            have hnb175 := NB520_515.out
            have hnc175 := NB515_520.out
            have hnb176 := NB520_526.out
            have hnc176 := NB526_520.out
            have hnb177 := NB520_534.out
            have hnc177 := NB534_520.out
            have hcz178_0 := cz_ BK520 0 (.slice Ao26 t516.length co26)
            have hfz178_0 := fz_ BK520 0
            go_wp2_with (go_at_call 17; (with_reducible refine (impl_FindHop.calls kj133 _ _ t516 (Int.tmod (wrap64 ((wrap64 ((wrap64 (t506 + (wrap64 (t527 * t528)))) - 40)) + 65536)) 65536) t536 _ ?side1 ?side2 A142.out).mono ?_); (case side1 => exact rc_ HO_521000); (case side2 => exact (Kd.R_reads' HO_521000.out).2.1); rintro e w179 ⟨rfl, hb⟩; replace HO_510000 := rb_ HO_510000 hb; replace HO_516000 := rb_ HO_516000 hb; replace HO_521000 := rb_ HO_521000 hb; replace HO_527000 := rb_ HO_527000 hb; replace BK509 := ab_ BK509 hb; replace BK510 := ab_ BK510 hb; replace BK515 := ab_ BK515 hb; replace BK520 := ab_ BK520 hb; replace BK526 := ab_ BK526 hb; replace BK534 := ab_ BK534 hb; replace HB := at_ HB hb; (try clear hb); (try clear hb2); (try clear hk); (try clear hi))
            go_roundg kj133
            case measure => have := HK1.out; have := HJ48.out; have := HK3.out; have := HJ83.out; have := HJ133.out; omega
            case rel => exact ⟨(wrap64 (x13_3 + 1)), er_, H', ⟨by have := HK1.out; have := HJ48.out; have := HK3.out; have := HJ83.out; have := HJ133.out; omega⟩, ⟨by (with_reducible repeat (first | apply Kd.R_alloc | apply Kd.R_drewN | apply Kd.R_drew)); exact Kd.R_mono HO_510000.out (fun _ hk => ⟨hk.1, ⟨hk.2.1, ⟨hk.2.2.1, hk.2.2.2.1⟩⟩⟩)⟩, ⟨by (with_reducible repeat (first | apply Kd.R_alloc | apply Kd.R_drewN | apply Kd.R_drew)); exact Kd.R_mono HO_516000.out (fun _ hk => ⟨hk.1, ⟨hk.2.1, ⟨hk.2.2.1, hk.2.2.2.1⟩⟩⟩)⟩, ⟨by (with_reducible repeat (first | apply Kd.R_alloc | apply Kd.R_drewN | apply Kd.R_drew)); exact Kd.R_mono HO_521000.out (fun _ hk => ⟨hk.1, ⟨hk.2.1, ⟨hk.2.2.1, hk.2.2.2.1⟩⟩⟩)⟩, ⟨by (with_reducible repeat (first | apply Kd.R_alloc | apply Kd.R_drewN | apply Kd.R_drew)); exact Kd.R_mono HO_527000.out (fun _ hk => ⟨hk.1, ⟨hk.2.1, ⟨hk.2.2.1, hk.2.2.2.1⟩⟩⟩)⟩, ⟨bx_ BK509⟩, ⟨bx_ BK510⟩, ⟨bx_ BK515⟩, ⟨bx_ BK520⟩, ⟨bx_ BK526⟩, ⟨bw112_⟩⟩
           subst c144
           rw [if_pos rfl] at H
           replace H := Option.bind_eq_some_iff.mp H
           obtain ⟨t537, A1450, H⟩ := H
           have A145 := Aside0.mk A1450
           clear A1450
           by_cases c146 : t537 = t529
           rotate_left
           ·rw [if_neg c146] at H
            have c146b0 : (t537 == t529) = false := beq_eq_false_iff_ne.mpr c146
            have c146b1 : (t537 != t529) = true := bne_iff_ne.mpr c146
            obtain rfl := Option.some.inj H
            have hnb160 := NB520_509.out
            have hnc160 := NB509_520.out
            have hnb161 := NB520_510.out
            have hnc161 := NB510_520.out
            have hnb162 := NB520_515.out
            have hnc162 := NB515_520.out
            have hnb163 := NB520_526.out
            have hnc163 := NB526_520.out
            have hnb164 := NB520_534.out
            have hnc164 := NB534_520.out
            have hcz165_0 := cz_ BK520 0 (.slice Ao26 t516.length co26)
            have hfz165_0 := fz_ BK520 0
            go_wp2_with (first | (go_at_call 17; (with_reducible refine (impl_FindHop.calls kj133 _ _ t516 (Int.tmod (wrap64 ((wrap64 ((wrap64 (t506 + (wrap64 (t527 * t528)))) - 40)) + 65536)) 65536) t536 _ ?side1 ?side2 A142.out).mono ?_); (case side1 => exact rc_ HO_521000); (case side2 => exact (Kd.R_reads' HO_521000.out).2.1); rintro e w166 ⟨rfl, hb⟩; replace HO_510000 := rb_ HO_510000 hb; replace HO_516000 := rb_ HO_516000 hb; replace HO_521000 := rb_ HO_521000 hb; replace HO_527000 := rb_ HO_527000 hb; replace BK509 := ab_ BK509 hb; replace BK510 := ab_ BK510 hb; replace BK515 := ab_ BK515 hb; replace BK520 := ab_ BK520 hb; replace BK526 := ab_ BK526 hb; replace BK534 := ab_ BK534 hb; replace HB := at_ HB hb; (try clear hb); (try clear hb2); (try clear hk); (try clear hi); have hnb167 := NB526_509.out; have hnc167 := NB509_526.out; have hnb168 := NB526_510.out; have hnc168 := NB510_526.out; have hnb169 := NB526_515.out; have hnc169 := NB515_526.out; have hnb170 := NB526_534.out; have hnc170 := NB534_526.out; have hcz171_0 := cz_ BK526 0 (.slice Ao61 t522.length co61); have hfz171_0 := fz_ BK526 0) | (go_at_call 17; (with_reducible refine (impl_FindHop.calls kj133 _ _ t522 (Int.tmod (wrap64 ((wrap64 ((wrap64 (t506 + (wrap64 (t527 * t528)))) - 40)) + 65536)) 65536) t537 _ ?side1 ?side2 A145.out).mono ?_); (case side1 => exact rc_ HO_527000); (case side2 => exact (Kd.R_reads' HO_527000.out).2.1); rintro e w172 ⟨rfl, hb⟩; replace HO_510000 := rb_ HO_510000 hb; replace HO_516000 := rb_ HO_516000 hb; replace HO_521000 := rb_ HO_521000 hb; replace HO_527000 := rb_ HO_527000 hb; replace BK509 := ab_ BK509 hb; replace BK510 := ab_ BK510 hb; replace BK515 := ab_ BK515 hb; replace BK520 := ab_ BK520 hb; replace BK526 := ab_ BK526 hb; replace BK534 := ab_ BK534 hb; replace HB := at_ HB hb; (try clear hb); (try clear hb2); (try clear hk); (try clear hi)))
            go_ret
            exact ⟨by first | rfl | (simp [errW_none, errW_some] <;> rfl) | (simp [*, errW_none, errW_some] <;> rfl), bw112_⟩
           rw [if_pos c146] at H
           have c146b0 : (t537 == t529) = true := beq_iff_eq.mpr c146
           have c146b1 : (t537 != t529) = false := bne_eq_false_iff_eq.mpr c146
           clear c146
           have H' := Aside0.mk H
           clear H
           have hnb147 := NB520_509.out
           have hnc147 := NB509_520.out
           have hnb148 := NB520_510.out
           have hnc148 := NB510_520.out
           have hnb149 := NB520_515.out
           have hnc149 := NB515_520.out
           have hnb150 := NB520_526.out
           have hnc150 := NB526_520.out
           have hnb151 := NB520_534.out
           have hnc151 := NB534_520.out
           have hcz152_0 := cz_ BK520 0 (.slice Ao26 t516.length co26)
           have hfz152_0 := fz_ BK520 0
           go_wp2_with (first | (go_at_call 17; (with_reducible refine (impl_FindHop.calls kj133 _ _ t516 (Int.tmod (wrap64 ((wrap64 ((wrap64 (t506 + (wrap64 (t527 * t528)))) - 40)) + 65536)) 65536) t536 _ ?side1 ?side2 A142.out).mono ?_); (case side1 => exact rc_ HO_521000); (case side2 => exact (Kd.R_reads' HO_521000.out).2.1); rintro e w153 ⟨rfl, hb⟩; replace HO_510000 := rb_ HO_510000 hb; replace HO_516000 := rb_ HO_516000 hb; replace HO_521000 := rb_ HO_521000 hb; replace HO_527000 := rb_ HO_527000 hb; replace BK509 := ab_ BK509 hb; replace BK510 := ab_ BK510 hb; replace BK515 := ab_ BK515 hb; replace BK520 := ab_ BK520 hb; replace BK526 := ab_ BK526 hb; replace BK534 := ab_ BK534 hb; replace HB := at_ HB hb; (try clear hb); (try clear hb2); (try clear hk); (try clear hi); have hnb154 := NB526_509.out; have hnc154 := NB509_526.out; have hnb155 := NB526_510.out; have hnc155 := NB510_526.out; have hnb156 := NB526_515.out; have hnc156 := NB515_526.out; have hnb157 := NB526_534.out; have hnc157 := NB534_526.out; have hcz158_0 := cz_ BK526 0 (.slice Ao61 t522.length co61); have hfz158_0 := fz_ BK526 0) | (go_at_call 17; (with_reducible refine (impl_FindHop.calls kj133 _ _ t522 (Int.tmod (wrap64 ((wrap64 ((wrap64 (t506 + (wrap64 (t527 * t528)))) - 40)) + 65536)) 65536) t537 _ ?side1 ?side2 A145.out).mono ?_); (case side1 => exact rc_ HO_527000); (case side2 => exact (Kd.R_reads' HO_527000.out).2.1); rintro e w159 ⟨rfl, hb⟩; replace HO_510000 := rb_ HO_510000 hb; replace HO_516000 := rb_ HO_516000 hb; replace HO_521000 := rb_ HO_521000 hb; replace HO_527000 := rb_ HO_527000 hb; replace BK509 := ab_ BK509 hb; replace BK510 := ab_ BK510 hb; replace BK515 := ab_ BK515 hb; replace BK520 := ab_ BK520 hb; replace BK526 := ab_ BK526 hb; replace BK534 := ab_ BK534 hb; replace HB := at_ HB hb; (try clear hb); (try clear hb2); (try clear hk); (try clear hi)))
           go_roundg kj133
           case measure => have := HK1.out; have := HJ48.out; have := HK3.out; have := HJ83.out; have := HJ133.out; omega
           case rel => exact ⟨(wrap64 (x13_3 + 1)), er_, H', ⟨by have := HK1.out; have := HJ48.out; have := HK3.out; have := HJ83.out; have := HJ133.out; omega⟩, ⟨by (with_reducible repeat (first | apply Kd.R_alloc | apply Kd.R_drewN | apply Kd.R_drew)); exact Kd.R_mono HO_510000.out (fun _ hk => ⟨hk.1, ⟨hk.2.1, ⟨hk.2.2.1, hk.2.2.2.1⟩⟩⟩)⟩, ⟨by (with_reducible repeat (first | apply Kd.R_alloc | apply Kd.R_drewN | apply Kd.R_drew)); exact Kd.R_mono HO_516000.out (fun _ hk => ⟨hk.1, ⟨hk.2.1, ⟨hk.2.2.1, hk.2.2.2.1⟩⟩⟩)⟩, ⟨by (with_reducible repeat (first | apply Kd.R_alloc | apply Kd.R_drewN | apply Kd.R_drew)); exact Kd.R_mono HO_521000.out (fun _ hk => ⟨hk.1, ⟨hk.2.1, ⟨hk.2.2.1, hk.2.2.2.1⟩⟩⟩)⟩, ⟨by (with_reducible repeat (first | apply Kd.R_alloc | apply Kd.R_drewN | apply Kd.R_drew)); exact Kd.R_mono HO_527000.out (fun _ hk => ⟨hk.1, ⟨hk.2.1, ⟨hk.2.2.1, hk.2.2.2.1⟩⟩⟩)⟩, ⟨bx_ BK509⟩, ⟨bx_ BK510⟩, ⟨bx_ BK515⟩, ⟨bx_ BK520⟩, ⟨bx_ BK526⟩, ⟨bw112_⟩⟩

/-- THE ONE PURE STATEMENT of laws_FnRoutes: yours. -/
def laws_FnRoutes.Pure : Prop := ∀ (l0 : List Int), l0.length ≤ maxLen → l0.length * 1 ≤ 140737488351232 → (∀ x ∈ l0, (Lit.int .u8 x).wf = true) → ∃ k, laws_FnRoutes.f k l0 = some true
theorem laws_FnRoutes.walk (P : laws_FnRoutes.Pure) (a0 : Option Addr) (len0 cap0 : Nat) (z0 : List Int) (w : World) (w0 : (a0 = none ∧ len0 = 0 ∧ cap0 = 0 ∧ z0 = []) ∨ ∃ x, a0 = some x ∧ len0 ≤ cap0 ∧ cap0 ≤ maxLen ∧ z0.length = cap0 ∧ (∀ i, i < z0.length → w.cell? (x.add i) = some (.int .u8 (z0.getD i 0))) ∧ ∀ n ∈ z0, (Lit.int .u8 n).wf = true) (y0 : len0 * 1 ≤ 140737488351232) :
  Calls Try.prog 3 #[.slice a0 len0 cap0] w fun e w' => e = .returned (.bool true) ∧ Below w.heap.size w w' := by
 obtain ⟨l0, rfl, hr0, hm0, hw0, hc0⟩ := ReadsInt.ofRowC w0
 obtain ⟨k, h⟩ := P l0 hm0 y0 hw0
 refine (laws_FnRoutes.calls k _ _ l0 true w (Kd.C_of_reads (d := (0 : Int)) (h1 := fun _ => rfl) hr0) hc0 h).mono ?_
 rintro e w' ⟨rfl, hd⟩
 exact ⟨rfl, hd⟩

end Go.Proofs.Ytjepmdngbafonaa.QFnRoutes
