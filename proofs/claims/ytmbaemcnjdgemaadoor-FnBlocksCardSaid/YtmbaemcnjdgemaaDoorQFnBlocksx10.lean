/- Contracts of functions that the law reaches: what each call returns and what it leaves in memory. Made by this session over the print of the kit. -/
import Derived.Test.YtmbaemcnjdgemaaDoorQFnBlocksx0
import Derived.Test.YtmbaemcnjdgemaaDoorQFnBlocksx1
import Derived.Test.YtmbaemcnjdgemaaDoorQFnBlocksx2
import Derived.Test.YtmbaemcnjdgemaaDoorQFnBlocksx4
import Derived.Test.YtmbaemcnjdgemaaDoorQFnBlocksx8
import Derived.Test.YtmbaemcnjdgemaaDoorQFnBlocksx9
namespace Go.Proofs.YtmbaemcnjdgemaaDoor.QFnBlocks
open Go.RowKit Go.Proofs.YtmbaemcnjdgemaaDoorF.PrintWords Go.Proofs.YtmbaemcnjdgemaaDoorF.PrintLast Go.Proofs.YtmbaemcnjdgemaaDoorF.PrintMore
attribute [local go_sem] max2_int min2_int max_two min_two max_three min_three max_four min_four   -- for this text's walks alone
set_option linter.unusedVariables false
set_option linter.unusedSimpArgs false
def ba10_0 : Array Bool := #[false, false, false, false, false, false, false, false, false, false, false, false, false]
def ba10_1 : Array Bool := #[true, false, false, false, false, false, false, false, false, false, false, false, false]
def ba10_2 : Array Bool := #[true, false, true, false, false, false, false, false, false, false, false, false, false]
def ba10_3 : Array Bool := #[true, false, true, true, false, false, false, false, false, false, false, false, false]
def ba10_4 : Array Bool := #[true, false, true, true, false, true, false, false, false, false, false, false, false]
def ba10_5 : Array Bool := #[true, false, true, true, false, true, true, false, false, false, false, false, false]
def ba10_6 : Array Bool := #[true, false, true, true, false, true, true, true, false, false, false, false, false]
def ba10_7 : Array Bool := #[true, true, true, true, false, true, true, true, false, false, false, false, false]
def ba10_8 : Array Bool := #[true, true, true, true, true, true, true, true, false, false, false, false, false]
def ba10_9 : Array Bool := #[true, true, true, true, true, true, true, true, true, false, false, false, false]
def ba10_10 : Array Bool := #[true, true, true, true, true, true, true, true, true, true, false, false, false]
def ba10_11 : Array Bool := #[true, true, true, true, true, true, true, true, true, true, true, false, false]
def ba10_12 : Array Bool := #[true, true, true, true, true, true, true, true, true, true, true, true, false]
def ba10_13 : Array Bool := #[true, true, true, true, true, true, true, true, true, true, true, true, true]
def ba10_14 : Array Bool := #[false, false, false, false, false, false, false, false, false, false, false, false, false, false, false, false, false, false, false, false, false, false]
def ba10_15 : Array Bool := #[false, true, false, false, false, false, false, false, false, false, false, false, false, false, false, false, false, false, false, false, false, false]
def ba10_16 : Array Bool := #[false, true, false, false, true, false, false, false, false, false, false, false, false, false, false, false, false, false, false, false, false, false]
def ba10_17 : Array Bool := #[true, true, false, false, true, false, false, false, false, false, false, false, false, false, false, false, false, false, false, false, false, false]
def ba10_18 : Array Bool := #[true, true, false, true, true, false, false, false, false, false, false, false, false, false, false, false, false, false, false, false, false, false]
def ba10_19 : Array Bool := #[true, true, true, true, true, false, false, false, false, false, false, false, false, false, false, false, false, false, false, false, false, false]
def ba10_20 : Array Bool := #[true, true, true, true, true, true, false, false, false, false, false, false, false, false, false, false, false, false, false, false, false, false]
def ba10_21 : Array Bool := #[true, true, true, true, true, true, true, false, false, false, false, false, false, false, false, false, false, false, false, false, false, false]
def ba10_22 : Array Bool := #[true, true, true, true, true, true, true, true, false, false, false, false, false, false, false, false, false, false, false, false, false, false]
def ba10_23 : Array Bool := #[true, true, true, true, true, true, true, true, true, false, false, false, false, false, false, false, false, false, false, false, false, false]
def ba10_24 : Array Bool := #[true, true, true, true, true, true, true, true, true, true, false, false, false, false, false, false, false, false, false, false, false, false]
def ba10_25 : Array Bool := #[true, true, true, true, true, true, true, true, true, true, true, false, false, false, false, false, false, false, false, false, false, false]
def ba10_26 : Array Bool := #[true, true, true, true, true, true, true, true, true, true, true, true, false, false, false, false, false, false, false, false, false, false]
def ba10_27 : Array Bool := #[true, true, true, true, true, true, true, true, true, true, true, true, true, false, false, false, false, false, false, false, false, false]
def ba10_28 : Array Bool := #[true, true, true, true, true, true, true, true, true, true, true, true, true, true, false, false, false, false, false, false, false, false]
def ba10_29 : Array Bool := #[true, true, true, true, true, true, true, true, true, true, true, true, true, true, true, false, false, false, false, false, false, false]
def ba10_30 : Array Bool := #[true, true, true, true, true, true, true, true, true, true, true, true, true, true, true, true, false, false, false, false, false, false]
def ba10_31 : Array Bool := #[true, true, true, true, true, true, true, true, true, true, true, true, true, true, true, true, true, false, false, false, false, false]
def ba10_32 : Array Bool := #[true, true, true, true, true, true, true, true, true, true, true, true, true, true, true, true, true, true, false, false, false, false]
def ba10_33 : Array Bool := #[true, true, true, true, true, true, true, true, true, true, true, true, true, true, true, true, true, true, true, false, false, false]
def ba10_34 : Array Bool := #[true, true, true, true, true, true, true, true, true, true, true, true, true, true, true, true, true, true, true, true, false, false]
def ba10_35 : Array Bool := #[true, true, true, true, true, true, true, true, true, true, true, true, true, true, true, true, true, true, true, true, true, false]
def ba10_36 : Array Bool := #[true, true, true, true, true, true, true, true, true, true, true, true, true, true, true, true, true, true, true, true, true, true]
def ba10_37 : Array Bool := #[true, true, true, true, true, true, true, true, true, true, true, true, true, false, true, false, false, false, false, false, false, false]
def ba10_38 : Array Bool := #[true, true, true, true, true, true, true, true, true, true, true, true, true, true, true, true, true, false, true, false, false, false]
def ba10_39 : Array Bool := #[true, true, true, true, true, true, true, false, true, false, false, false, false, false, false, false, false, false, false, false, false, false]

attribute [local go_sem high] eqA25
/-! ### laws_FnBlocks: function 3 -/
mutual
def laws_FnBlocks.j0 : Nat → List Int → Bool → Int → Int → Option (Bool)
 | 0, _, _, _, _ => none
 | k + 1, x0, x32, x275000, x275001 => if x32 = true then (some false) else ((impl_Halves.f x275000 x275001).bind fun bt281 => (if x275001 = 16 then (some (!bt281.2.2.2.2)) else ((impl_Sibling.f bt281.1 bt281.2.1).bind fun bt288 => (if bt281.2.2.2.2 = true then (if bt288.2.2 = true then (if (!(bt288.1 == bt281.2.2.1) || (!(bt288.2.1 == bt281.2.2.2.1))) = true then (laws_FnBlocks.j1 k x0 true x275000 x275001 bt281.1 bt281.2.1 bt281.2.2.1 bt281.2.2.2.1) else ((impl_CoversPrefix.f x275000 x275001 bt281.1 bt281.2.1).bind fun t292 => (if t292 = true then ((impl_CoversPrefix.f x275000 x275001 bt281.2.2.1 bt281.2.2.2.1).bind fun t293 => (if t293 = true then ((impl_CoversPrefix.f bt281.1 bt281.2.1 x275000 x275001).bind fun t294 => (laws_FnBlocks.j1 k x0 t294 x275000 x275001 bt281.1 bt281.2.1 bt281.2.2.1 bt281.2.2.2.1)) else (laws_FnBlocks.j1 k x0 true x275000 x275001 bt281.1 bt281.2.1 bt281.2.2.1 bt281.2.2.2.1))) else (laws_FnBlocks.j1 k x0 true x275000 x275001 bt281.1 bt281.2.1 bt281.2.2.1 bt281.2.2.2.1)))) else (laws_FnBlocks.j1 k x0 true x275000 x275001 bt281.1 bt281.2.1 bt281.2.2.1 bt281.2.2.2.1)) else (laws_FnBlocks.j1 k x0 true x275000 x275001 bt281.1 bt281.2.1 bt281.2.2.1 bt281.2.2.2.1)))))
def laws_FnBlocks.j1 : Nat → List Int → Bool → Int → Int → Int → Int → Int → Int → Option (Bool)
 | 0, _, _, _, _, _, _, _, _ => none
 | k + 1, x0, x76, x275000, x275001, x287000, x287001, x288000, x288001 => if x76 = true then (some false) else (laws_FnBlocks.l0 k x0 0 x275000 x275001 x287000 x287001 x288000 x288001)
def laws_FnBlocks.l0 : Nat → List Int → Int → Int → Int → Int → Int → Int → Int → Option (Bool)
 | 0, _, _, _, _, _, _, _, _ => none
 | k + 1, x0, x11, x275000, x275001, x287000, x287001, x288000, x288001 => if x11 < 20 then ((laws_at.f x0 x11).bind fun t295 => ((laws_at.f x0 (wrap64 (x11 + 1))).bind fun t296 => ((impl_HasAddr.f x275000 x275001 (Int.tmod (wrap64 (x275000 + (wrap64 (t295 * t296)))) 65536)).bind fun t297 => ((impl_HasAddr.f x287000 x287001 (Int.tmod (wrap64 (x275000 + (wrap64 (t295 * t296)))) 65536)).bind fun t298 => (if t298 = true then (if (t297 != true) = true then (some false) else ((impl_HasAddr.f x287000 x287001 (Int.tmod (wrap64 (x275000 + (wrap64 (t295 * t296)))) 65536)).bind fun t299 => (if t299 = true then ((impl_HasAddr.f x288000 x288001 (Int.tmod (wrap64 (x275000 + (wrap64 (t295 * t296)))) 65536)).bind fun t300 => (if t300 = true then (some false) else (laws_FnBlocks.l0 k x0 (wrap64 (x11 + 1)) x275000 x275001 x287000 x287001 x288000 x288001))) else (laws_FnBlocks.l0 k x0 (wrap64 (x11 + 1)) x275000 x275001 x287000 x287001 x288000 x288001)))) else ((impl_HasAddr.f x288000 x288001 (Int.tmod (wrap64 (x275000 + (wrap64 (t295 * t296)))) 65536)).bind fun t301 => (if (t297 != t301) = true then (some false) else ((impl_HasAddr.f x287000 x287001 (Int.tmod (wrap64 (x275000 + (wrap64 (t295 * t296)))) 65536)).bind fun t302 => (if t302 = true then ((impl_HasAddr.f x288000 x288001 (Int.tmod (wrap64 (x275000 + (wrap64 (t295 * t296)))) 65536)).bind fun t303 => (if t303 = true then (some false) else (laws_FnBlocks.l0 k x0 (wrap64 (x11 + 1)) x275000 x275001 x287000 x287001 x288000 x288001))) else (laws_FnBlocks.l0 k x0 (wrap64 (x11 + 1)) x275000 x275001 x287000 x287001 x288000 x288001)))))))))) else (some true)
end
def laws_FnBlocks.f (k : Nat) (l0 : List Int) : Option (Bool) := (laws_big.f l0).bind fun t271 => (if t271 = true then (some true) else ((spec_DrawHalves.f k l0).bind fun bt272 => ((spec_PrefixOk.f bt272.1 bt272.2).bind fun t275 => (if t275 = true then ((impl_PrefixText.f bt272.1 bt272.2).bind fun t276 => ((impl_ParsePrefix.f t276).bind fun bt277 => (if bt277.2.2 = true then (laws_FnBlocks.j0 k l0 (!(bt277.1 == bt272.1) || (!(bt277.2.1 == bt272.2))) bt272.1 bt272.2) else (laws_FnBlocks.j0 k l0 true bt272.1 bt272.2)))) else (some true)))))
theorem laws_FnBlocks.mono_l : ∀ k, (∀ y0 y1 y2 y3, LeO (laws_FnBlocks.j0 k y0 y1 y2 y3) (laws_FnBlocks.j0 (k + 1) y0 y1 y2 y3)) ∧ (∀ y0 y1 y2 y3 y4 y5 y6 y7, LeO (laws_FnBlocks.j1 k y0 y1 y2 y3 y4 y5 y6 y7) (laws_FnBlocks.j1 (k + 1) y0 y1 y2 y3 y4 y5 y6 y7)) ∧ (∀ y0 y1 y2 y3 y4 y5 y6 y7, LeO (laws_FnBlocks.l0 k y0 y1 y2 y3 y4 y5 y6 y7) (laws_FnBlocks.l0 (k + 1) y0 y1 y2 y3 y4 y5 y6 y7))
 | 0 => ⟨fun _ _ _ _ r h => by simp [laws_FnBlocks.j0] at h, fun _ _ _ _ _ _ _ _ r h => by simp [laws_FnBlocks.j1] at h, fun _ _ _ _ _ _ _ _ r h => by simp [laws_FnBlocks.l0] at h⟩
 | k + 1 => by
  obtain ⟨ih0, ih1, ih2⟩ := laws_FnBlocks.mono_l k
  refine ⟨?_, ?_, ?_⟩
  ·intro y0 y1 y2 y3
   unfold laws_FnBlocks.j0
   repeat' first
   | (with_reducible exact ih0 _ _ _ _)
   | (with_reducible exact ih1 _ _ _ _ _ _ _ _)
   | (with_reducible exact ih2 _ _ _ _ _ _ _ _)
   | (with_reducible exact spec_DrawHalves.mono _ _)
   | (with_reducible exact LeO.refl _)
   | (with_reducible exact LeO.none _)
   | (with_reducible refine LeO.ite ?_ ?_)
   | (with_reducible refine LeO.bind ?_ (fun _ => ?_))
   | exact ih0 _ _ _ _
   | exact ih1 _ _ _ _ _ _ _ _
   | exact ih2 _ _ _ _ _ _ _ _
   | exact spec_DrawHalves.mono _ _
   | exact LeO.none _
   | refine LeO.ite ?_ ?_
   | refine LeO.bind ?_ (fun _ => ?_)
  ·intro y0 y1 y2 y3 y4 y5 y6 y7
   unfold laws_FnBlocks.j1
   repeat' first
   | (with_reducible exact ih0 _ _ _ _)
   | (with_reducible exact ih1 _ _ _ _ _ _ _ _)
   | (with_reducible exact ih2 _ _ _ _ _ _ _ _)
   | (with_reducible exact spec_DrawHalves.mono _ _)
   | (with_reducible exact LeO.refl _)
   | (with_reducible exact LeO.none _)
   | (with_reducible refine LeO.ite ?_ ?_)
   | (with_reducible refine LeO.bind ?_ (fun _ => ?_))
   | exact ih0 _ _ _ _
   | exact ih1 _ _ _ _ _ _ _ _
   | exact ih2 _ _ _ _ _ _ _ _
   | exact spec_DrawHalves.mono _ _
   | exact LeO.none _
   | refine LeO.ite ?_ ?_
   | refine LeO.bind ?_ (fun _ => ?_)
  ·intro y0 y1 y2 y3 y4 y5 y6 y7
   unfold laws_FnBlocks.l0
   repeat' first
   | (with_reducible exact ih0 _ _ _ _)
   | (with_reducible exact ih1 _ _ _ _ _ _ _ _)
   | (with_reducible exact ih2 _ _ _ _ _ _ _ _)
   | (with_reducible exact spec_DrawHalves.mono _ _)
   | (with_reducible exact LeO.refl _)
   | (with_reducible exact LeO.none _)
   | (with_reducible refine LeO.ite ?_ ?_)
   | (with_reducible refine LeO.bind ?_ (fun _ => ?_))
   | exact ih0 _ _ _ _
   | exact ih1 _ _ _ _ _ _ _ _
   | exact ih2 _ _ _ _ _ _ _ _
   | exact spec_DrawHalves.mono _ _
   | exact LeO.none _
   | refine LeO.ite ?_ ?_
   | refine LeO.bind ?_ (fun _ => ?_)
theorem laws_FnBlocks.mono : ∀ a0 k, LeO (laws_FnBlocks.f k a0) (laws_FnBlocks.f (k + 1) a0) := by
 intro a0 k
 obtain ⟨ih0, ih1, ih2⟩ := laws_FnBlocks.mono_l k
 unfold laws_FnBlocks.f
 repeat' first
   | (with_reducible exact ih0 _ _ _ _)
   | (with_reducible exact ih1 _ _ _ _ _ _ _ _)
   | (with_reducible exact ih2 _ _ _ _ _ _ _ _)
   | (with_reducible exact spec_DrawHalves.mono _ _)
   | (with_reducible exact LeO.refl _)
   | (with_reducible exact LeO.none _)
   | (with_reducible refine LeO.ite ?_ ?_)
   | (with_reducible refine LeO.bind ?_ (fun _ => ?_))
   | exact ih0 _ _ _ _
   | exact ih1 _ _ _ _ _ _ _ _
   | exact ih2 _ _ _ _ _ _ _ _
   | exact spec_DrawHalves.mono _ _
   | exact LeO.none _
   | refine LeO.ite ?_ ?_
   | refine LeO.bind ?_ (fun _ => ?_)
def laws_FnBlocks.T18 : Bool × List (List Nat × List Nat) := (true, [([], []), ([0], [0]), ([], []), ([], []), ([2, 3], [2, 3]), ([], []), ([], []), ([6], [6]), ([5, 7, 4], [5, 7]), ([4, 8], [4, 8]), ([1, 9], [1, 9]), ([10], [10]), ([11, 8, 0, 1, 2, 3, 4, 5, 6, 7, 8, 9, 10, 11], [11])])
def laws_FnBlocks.B18 : List Nat := [0, 1, 0, 0, 12, 0, 0, 64, 252, 508, 1023, 2047, 4095]
theorem laws_FnBlocks.tab18 : rtab .any (opsOf Tryd.f3 18) = laws_FnBlocks.T18 := by kernel_rfl
theorem laws_FnBlocks.bits18 : waitsOk laws_FnBlocks.T18.2 laws_FnBlocks.B18 = true := by kernel_rfl
def laws_FnBlocks.T19 : Bool × List (List Nat × List Nat) := (true, [([], []), ([], []), ([0, 1], [0, 1]), ([], []), ([], []), ([3, 4, 2], [3, 4]), ([5, 5], [5]), ([6], [6]), ([6], [6]), ([7, 8, 6, 6], [6, 7, 8]), ([6, 9], [6, 9]), ([2, 10], [2, 10]), ([11, 9], [11]), ([12], [12]), ([12], [12]), ([13, 14, 12, 12], [12, 13, 14]), ([15, 15, 12], [12, 15]), ([16], [16]), ([16], [16]), ([17, 18, 16, 16], [16, 17, 18]), ([16, 19, 12], [12, 16, 19]), ([12, 20], [12, 20])])
def laws_FnBlocks.B19 : List Nat := [0, 0, 3, 0, 0, 31, 63, 127, 127, 511, 1023, 2047, 4095, 8191, 8191, 32767, 65535, 131071, 131071, 524287, 1048575, 2097151]
theorem laws_FnBlocks.tab19 : rtab .any (opsOf Tryd.f3 19) = laws_FnBlocks.T19 := by kernel_rfl
theorem laws_FnBlocks.bits19 : waitsOk laws_FnBlocks.T19.2 laws_FnBlocks.B19 = true := by kernel_rfl
set_option maxHeartbeats 8000000 in
set_option maxRecDepth 100000 in
theorem laws_FnBlocks.calls (k : Nat) (A0 : Option Addr) (c0 : Nat) (l0 : List Int) (r : Bool) (w : World) (hT : ParOk w) (hr0 : Kd.C (Kd.int .u8) w A0 l0.length l0) (hc0 : l0.length ≤ c0) (h : laws_FnBlocks.f k l0 = some r) :
  Calls Tryd.prog 3 #[.slice A0 l0.length c0] w fun e w' => e = .returned (.bool r) ∧ Below w.heap.size w w' := by
 have hT1 : TabOk w := hT.1
 have hu25 := Tryd.underlying25
 have HR0 := Aside0.mk hr0
 have HC0 := Aside0.mk hc0
 clear hr0 hc0
 have HB := Aside0.mk (Below.refl w.heap.size w)
 have H : ((laws_big.f l0).bind fun t271 => (if t271 = true then (some true) else ((spec_DrawHalves.f k l0).bind fun bt272 => ((spec_PrefixOk.f bt272.1 bt272.2).bind fun t275 => (if t275 = true then ((impl_PrefixText.f bt272.1 bt272.2).bind fun t276 => ((impl_ParsePrefix.f t276).bind fun bt277 => (if bt277.2.2 = true then (laws_FnBlocks.j0 k l0 (!(bt277.1 == bt272.1) || (!(bt277.2.1 == bt272.2))) bt272.1 bt272.2) else (laws_FnBlocks.j0 k l0 true bt272.1 bt272.2)))) else (some true)))))) = some r := h
 clear h
 replace H := Option.bind_eq_some_iff.mp H
 obtain ⟨t271, A20, H⟩ := H
 have A2 := Aside0.mk A20
 clear A20
 by_cases c3 : t271 = true
 ·subst c3
  rw [if_pos rfl] at H
  obtain rfl := Option.some.inj H
  go_enter Tryd.func3, Tryd.ntmps3
  go_wp2_with (first | ((with_reducible refine gate_callee (f := 7) rfl ?_); refine gl_ (some 14) Tryd.func7 #[.slice A0 l0.length c0] ?_; (with_reducible refine (laws_big.calls _ _ l0 true _ ?side1 ?side2 A2.out).mono ?_); (case side1 => repeat (first | exact HR0.out | (with_reducible refine Kd.C_alloc ?_ _) | (with_reducible refine Kd.C_drewN ?_ _) | (with_reducible refine Kd.C_drew ?_))); (case side2 => exact HC0.out); rintro e w' ⟨rfl, ⟨nd, rfl⟩⟩; refine ⟨_, rfl, ?_⟩))
  go_ret
  exact ⟨by first | rfl | (simp [errW_none, errW_some] <;> rfl) | (simp [*, errW_none, errW_some] <;> rfl), by repeat (first | (with_reducible first | exact HB.out | apply below_alloc | apply pw_below_drewN | apply below_drew1) | exact HB.out)⟩
 ·replace c3 := Bool.eq_false_iff.mpr c3
  subst c3
  rw [if_neg (show ¬ (false = true) by decide)] at H
  replace H := Option.bind_eq_some_iff.mp H
  obtain ⟨⟨t272, t273⟩, A40, H⟩ := H
  have A4 := Aside0.mk A40
  clear A40
  replace H := Option.bind_eq_some_iff.mp H
  obtain ⟨t275, A50, H⟩ := H
  have A5 := Aside0.mk A50
  clear A50
  by_cases c6 : t275 = true
  ·subst c6
   rw [if_pos rfl] at H
   replace H := Option.bind_eq_some_iff.mp H
   obtain ⟨t276, A70, H⟩ := H
   have A7 := Aside0.mk A70
   clear A70
   replace H := Option.bind_eq_some_iff.mp H
   obtain ⟨⟨t277, t278, t279⟩, A80, H⟩ := H
   have A8 := Aside0.mk A80
   clear A80
   have HC9 := Aside0.mk H
   clear H
   go_enter Tryd.func3, Tryd.ntmps3
   go_upto_region 7 with (first | ((with_reducible refine gate_callee (f := 7) rfl ?_); refine gl_ (some 14) Tryd.func7 #[.slice A0 l0.length c0] ?_; (with_reducible refine (laws_big.calls _ _ l0 false _ ?side1 ?side2 A2.out).mono ?_); (case side1 => repeat (first | exact HR0.out | (with_reducible refine Kd.C_alloc ?_ _) | (with_reducible refine Kd.C_drewN ?_ _) | (with_reducible refine Kd.C_drew ?_))); (case side2 => exact HC0.out); rintro e w' ⟨rfl, ⟨nd, rfl⟩⟩; refine ⟨_, rfl, ?_⟩) | ((with_reducible refine gate_callee (f := 8) rfl ?_); refine gl_ (some 16) Tryd.func8 #[.slice A0 l0.length c0] ?_; (with_reducible refine (spec_DrawHalves.calls k _ _ l0 t272 t273 _ ?side1 ?side2 A4.out).mono ?_); (case side1 => repeat (first | exact HR0.out | (with_reducible refine Kd.C_alloc ?_ _) | (with_reducible refine Kd.C_drewN ?_ _) | (with_reducible refine Kd.C_drew ?_))); (case side2 => exact HC0.out); rintro e w10 ⟨rfl, hb⟩; refine ⟨_, rfl, ?_⟩; replace HB := Aside0.mk (bt_ HB hb); (try clear hb); (try clear hb2); (try clear hk); (try clear hi)) | ((with_reducible refine gate_dst (N := 3) rfl ?_); refine box_event ?hg (N := 3) ?hd (cs := #[.int .i64 0, .int .i64 0]) (t := 25) ?hr ?_; (case hd => rfl); (case hg => rfl); (case hr => first | (go_simp; done) | (go_simp; rfl)); intro gb274 hg w11 hbox hb; have BK274 := Aside0.mk hbox; have GW274 := ge_ HB hg; have GE274 := ge_ HB hg; replace HB := Aside0.mk (bt_ HB hb); clear hb hbox hg; have hcz12_0 := cz_ BK274 0 (.int .i64 0); have hcz12_1 := cz_ BK274 1 (.int .i64 0); have hfz12_0 := blk_frozen BK274.out 0; have hfz12_1 := blk_frozen BK274.out 1) | ((with_reducible refine gate_callee (f := 9) rfl ?_); refine gl_ (some 18) Tryd.func9 #[.agg #[.int .i64 t272, .int .i64 t273]] ?_; (with_reducible refine (spec_PrefixOk.calls t272 t273 true _ A5.out).mono ?_); rintro e w13 ⟨rfl, hb⟩; refine ⟨_, rfl, ?_⟩; replace BK274 := Aside0.mk (blk_below (g := gb274) (o := .cells #[.int .i64 t272, .int .i64 t273] 25 (0, 0)) (by (with_reducible repeat (first | refine blk_drewN ?_ _ | refine blk_drew ?_ | refine blk_alloc ?_ _)); refine blk_put (cs := #[.int .i64 t272, .int .i64 0]) ?_ 1 _ rfl; (with_reducible repeat (first | refine blk_drewN ?_ _ | refine blk_drew ?_ | refine blk_alloc ?_ _)); refine blk_put (cs := #[.int .i64 0, .int .i64 0]) ?_ 0 _ rfl; (with_reducible repeat (first | refine blk_drewN ?_ _ | refine blk_drew ?_ | refine blk_alloc ?_ _)); exact BK274.out) hb); replace HB := Aside0.mk (bt_ HB hb); (try clear hb); (try clear hb2); (try clear hk); (try clear hi); have hcz14_0 := cz_ BK274 0 (.int .i64 t272); have hcz14_1 := cz_ BK274 1 (.int .i64 t273); have hfz14_0 := blk_frozen BK274.out 0; have hfz14_1 := blk_frozen BK274.out 1) | ((with_reducible refine gate_callee (f := 11) rfl ?_); refine gl_ (some 22) Tryd.func11 #[.agg #[.int .i64 t272, .int .i64 t273]] ?_; (with_reducible refine (impl_PrefixText.calls t272 t273 t276 _ (tb_ hT1 HB) A7.out).mono ?_); rintro e w15 ⟨rfl, hb⟩; refine ⟨_, rfl, ?_⟩; replace BK274 := Aside0.mk (bb_ BK274 hb); replace HB := Aside0.mk (bt_ HB hb); (try clear hb); (try clear hb2); (try clear hk); (try clear hi)) | ((with_reducible refine gate_callee (f := 10) rfl ?_); refine gl_ (some 23) Tryd.func10 #[.string t276] ?_; (with_reducible refine (impl_ParsePrefix.calls t276 t277 t278 t279 _ (pb_ hT HB) A8.out).mono ?_); rintro e w16 ⟨rfl, hb⟩; refine ⟨_, rfl, ?_⟩; replace BK274 := Aside0.mk (bb_ BK274 hb); replace HB := Aside0.mk (bt_ HB hb); (try clear hb); (try clear hb2); (try clear hk); (try clear hi)) | ((with_reducible refine gate_dst (N := 4) rfl ?_); refine box_event ?hg (N := 4) ?hd (cs := #[.int .i64 0, .int .i64 0]) (t := 25) ?hr ?_; (case hd => rfl); (case hg => rfl); (case hr => first | (go_simp; done) | (go_simp; rfl)); intro gb280 hg w17 hbox hb; have BK280 := Aside0.mk hbox; have GW280 := ge_ HB hg; have GE280 := ge_ HB hg; have NB274_280 := nl_ BK274 hg; have NB280_274 := ng_ BK274 hg; replace HB := Aside0.mk (bt_ HB hb); replace BK274 := Aside0.mk (bb_ BK274 hb); clear hb hbox hg; have hnb18 := NB280_274.out; have hnc18 := NB274_280.out; have hcz19_0 := cz_ BK280 0 (.int .i64 0); have hcz19_1 := cz_ BK280 1 (.int .i64 0); have hfz19_0 := blk_frozen BK280.out 0; have hfz19_1 := blk_frozen BK280.out 1))
   (try simp only [Act.put, List.setIfInBounds_toArray, List.set_cons_zero, List.set_cons_succ])
   go_cut [32] (fun v32 wc => ∃ (kq : Nat) (x32_8 : Bool), v32 = .bool x32_8 ∧ Aside0 (laws_FnBlocks.j0 kq l0 x32_8 t272 t273 = some r) ∧ Aside0 (kq ≤ k) ∧ Aside0 (wc.heap[gb274]? = some (.cells #[.int .i64 t272, .int .i64 t273] 25 (0, 0))) ∧ Aside0 (wc.heap[gb280]? = some (.cells #[.int .i64 t277, .int .i64 t278] 25 (0, 0))) ∧ Aside0 (Below w.heap.size w wc))
   case first =>
    have H := HC9.out
    clear HC9
    by_cases c20 : t279 = true
    ·subst c20
     rw [if_pos rfl] at H
     have H' := Aside0.mk H
     clear H
     have hnb21 := NB280_274.out
     have hnc21 := NB274_280.out
     have hcz22_0 := cz_ BK280 0 (.int .i64 0)
     have hcz22_1 := cz_ BK280 1 (.int .i64 0)
     have hfz22_0 := blk_frozen BK280.out 0
     have hfz22_1 := blk_frozen BK280.out 1
     have hcz23_0 := cz_ BK274 0 (.int .i64 t272)
     have hcz23_1 := cz_ BK274 1 (.int .i64 t273)
     have hfz23_0 := blk_frozen BK274.out 0
     have hfz23_1 := blk_frozen BK274.out 1
     go_wp2
     go_meet
     case rel => exact ⟨_, ((!(t277 == t272) || (!(t278 == t273)))), (by first | rfl | (simp; done) | (simp [*]; done)), H', ⟨by first | omega | exact Nat.le_refl _⟩, ⟨by (with_reducible repeat (first | refine blk_drewN ?_ _ | refine blk_drew ?_ | refine blk_alloc ?_ _)); refine blk_far ?_ NB274_280.out _; (with_reducible repeat (first | refine blk_drewN ?_ _ | refine blk_drew ?_ | refine blk_alloc ?_ _)); refine blk_far ?_ NB274_280.out _; (with_reducible repeat (first | refine blk_drewN ?_ _ | refine blk_drew ?_ | refine blk_alloc ?_ _)); exact BK274.out⟩, ⟨by (with_reducible repeat (first | refine blk_drewN ?_ _ | refine blk_drew ?_ | refine blk_alloc ?_ _)); refine blk_put (cs := #[.int .i64 t277, .int .i64 0]) ?_ 1 _ rfl; (with_reducible repeat (first | refine blk_drewN ?_ _ | refine blk_drew ?_ | refine blk_alloc ?_ _)); refine blk_put (cs := #[.int .i64 0, .int .i64 0]) ?_ 0 _ rfl; (with_reducible repeat (first | refine blk_drewN ?_ _ | refine blk_drew ?_ | refine blk_alloc ?_ _)); exact BK280.out⟩, ⟨by repeat (first | (with_reducible first | exact HB.out | apply below_alloc | apply pw_below_drewN | apply below_drew1 | refine below_set ?_ GE274.out | refine below_set ?_ GE280.out) | exact HB.out)⟩⟩
    ·replace c20 := Bool.eq_false_iff.mpr c20
     subst c20
     rw [if_neg (show ¬ (false = true) by decide)] at H
     have H' := Aside0.mk H
     clear H
     go_wp2
     go_meet
     case rel => exact ⟨_, (true), (by first | rfl | (simp; done) | (simp [*]; done)), H', ⟨by first | omega | exact Nat.le_refl _⟩, ⟨by (with_reducible repeat (first | refine blk_drewN ?_ _ | refine blk_drew ?_ | refine blk_alloc ?_ _)); refine blk_far ?_ NB274_280.out _; (with_reducible repeat (first | refine blk_drewN ?_ _ | refine blk_drew ?_ | refine blk_alloc ?_ _)); refine blk_far ?_ NB274_280.out _; (with_reducible repeat (first | refine blk_drewN ?_ _ | refine blk_drew ?_ | refine blk_alloc ?_ _)); exact BK274.out⟩, ⟨by (with_reducible repeat (first | refine blk_drewN ?_ _ | refine blk_drew ?_ | refine blk_alloc ?_ _)); refine blk_put (cs := #[.int .i64 t277, .int .i64 0]) ?_ 1 _ rfl; (with_reducible repeat (first | refine blk_drewN ?_ _ | refine blk_drew ?_ | refine blk_alloc ?_ _)); refine blk_put (cs := #[.int .i64 0, .int .i64 0]) ?_ 0 _ rfl; (with_reducible repeat (first | refine blk_drewN ?_ _ | refine blk_drew ?_ | refine blk_alloc ?_ _)); exact BK280.out⟩, ⟨by repeat (first | (with_reducible first | exact HB.out | apply below_alloc | apply pw_below_drewN | apply below_drew1 | refine below_set ?_ GE274.out | refine below_set ?_ GE280.out) | exact HB.out)⟩⟩
   case rest =>
    clear HC9
    try clear c1
    try clear c2
    try clear p2
    try clear c3
    try clear c6
    try clear c7
    try clear c8
    try clear c9
    try clear c10
    try clear c11
    try clear c18
    try clear c20
    try clear c21
    try clear hcz12_0
    try clear hcz12_1
    try clear hcz14_0
    try clear hcz14_1
    try clear hcz19_0
    try clear hcz19_1
    try clear hcz22_0
    try clear hcz22_1
    try clear hcz23_0
    try clear hcz23_1
    try clear hfz12_0
    try clear hfz12_1
    try clear hfz14_0
    try clear hfz14_1
    try clear hfz19_0
    try clear hfz19_1
    try clear hfz22_0
    try clear hfz22_1
    try clear hfz23_0
    try clear hfz23_1
    obtain ⟨kq, x32_8, rfl, HA, HJ8, BK274, BK280, HB⟩ := hcut
    cases kq with
    | zero => exact absurd HA.out (by simp [laws_FnBlocks.j0])
    | succ kj8 =>
     have H := HA.out
     clear HA
     simp only [laws_FnBlocks.j0] at H
     by_cases c24 : x32_8 = true
     ·subst c24
      rw [if_pos rfl] at H
      obtain rfl := Option.some.inj H
      go_wp2
      go_ret
      exact ⟨by first | rfl | (simp [errW_none, errW_some] <;> rfl) | (simp [*, errW_none, errW_some] <;> rfl), by repeat (first | (with_reducible first | exact HB.out | apply below_alloc | apply pw_below_drewN | apply below_drew1 | refine below_set ?_ GE274.out | refine below_set ?_ GE280.out) | exact HB.out)⟩
     ·replace c24 := Bool.eq_false_iff.mpr c24
      subst c24
      rw [if_neg (show ¬ (false = true) by decide)] at H
      replace H := Option.bind_eq_some_iff.mp H
      obtain ⟨⟨t281, t282, t283, t284, t285⟩, A250, H⟩ := H
      have A25 := Aside0.mk A250
      clear A250
      by_cases c26 : t273 = 16
      ·rw [if_pos c26] at H
       have c26b0 : (t273 == 16) = true := beq_iff_eq.mpr c26
       have c26b1 : (t273 != 16) = false := bne_eq_false_iff_eq.mpr c26
       clear c26
       obtain rfl := Option.some.inj H
       have hnb27 := NB274_280.out
       have hnc27 := NB280_274.out
       have hcz28_0 := cz_ BK274 0 (.int .i64 t272)
       have hcz28_1 := cz_ BK274 1 (.int .i64 t273)
       have hfz28_0 := blk_frozen BK274.out 0
       have hfz28_1 := blk_frozen BK274.out 1
       go_wp2_with (first | ((with_reducible refine gate_callee (f := 12) rfl ?_); refine gl_ (some 35) Tryd.func12 #[.agg #[.int .i64 t272, .int .i64 t273]] ?_; (with_reducible refine (impl_Halves.calls t272 t273 t281 t282 t283 t284 t285 _ A25.out).mono ?_); rintro e w29 ⟨rfl, hb⟩; refine ⟨_, rfl, ?_⟩; replace BK274 := Aside0.mk (bb_ BK274 hb); replace BK280 := Aside0.mk (bb_ BK280 hb); replace HB := Aside0.mk (bt_ HB hb); (try clear hb); (try clear hb2); (try clear hk); (try clear hi)) | ((with_reducible refine gate_dst (N := 6) rfl ?_); refine box_event ?hg (N := 6) ?hd (cs := #[.int .i64 0, .int .i64 0]) (t := 25) ?hr ?_; (case hd => rfl); (case hg => rfl); (case hr => first | (go_simp; done) | (go_simp; rfl)); intro gb286 hg w30 hbox hb; have BK286 := Aside0.mk hbox; have GW286 := ge_ HB hg; have GE286 := ge_ HB hg; have NB274_286 := nl_ BK274 hg; have NB286_274 := ng_ BK274 hg; have NB280_286 := nl_ BK280 hg; have NB286_280 := ng_ BK280 hg; replace HB := Aside0.mk (bt_ HB hb); replace BK274 := Aside0.mk (bb_ BK274 hb); replace BK280 := Aside0.mk (bb_ BK280 hb); clear hb hbox hg) | ((with_reducible refine gate_dst (N := 7) rfl ?_); refine box_event ?hg (N := 7) ?hd (cs := #[.int .i64 0, .int .i64 0]) (t := 25) ?hr ?_; (case hd => rfl); (case hg => rfl); (case hr => first | (go_simp; done) | (go_simp; rfl)); intro gb287 hg w31 hbox hb; have BK287 := Aside0.mk hbox; have GW287 := ge_ HB hg; have GE287 := ge_ HB hg; have NB274_287 := nl_ BK274 hg; have NB287_274 := ng_ BK274 hg; have NB280_287 := nl_ BK280 hg; have NB287_280 := ng_ BK280 hg; have NB286_287 := nl_ BK286 hg; have NB287_286 := ng_ BK286 hg; replace HB := Aside0.mk (bt_ HB hb); replace BK274 := Aside0.mk (bb_ BK274 hb); replace BK280 := Aside0.mk (bb_ BK280 hb); replace BK286 := Aside0.mk (bb_ BK286 hb); clear hb hbox hg; have hnb32 := NB286_274.out; have hnc32 := NB274_286.out; have hnb33 := NB286_280.out; have hnc33 := NB280_286.out; have hnb34 := NB286_287.out; have hnc34 := NB287_286.out; have hcz35_0 := cz_ BK286 0 (.int .i64 0); have hcz35_1 := cz_ BK286 1 (.int .i64 0); have hfz35_0 := blk_frozen BK286.out 0; have hfz35_1 := blk_frozen BK286.out 1; have hnb36 := NB287_274.out; have hnc36 := NB274_287.out; have hnb37 := NB287_280.out; have hnc37 := NB280_287.out; have hcz38_0 := cz_ BK287 0 (.int .i64 0); have hcz38_1 := cz_ BK287 1 (.int .i64 0); have hfz38_0 := blk_frozen BK287.out 0; have hfz38_1 := blk_frozen BK287.out 1; have hcz39_0 := cz_ BK274 0 (.int .i64 t272); have hcz39_1 := cz_ BK274 1 (.int .i64 t273); have hfz39_0 := blk_frozen BK274.out 0; have hfz39_1 := blk_frozen BK274.out 1))
       go_ret
       exact ⟨by first | rfl | (simp [errW_none, errW_some] <;> rfl) | (simp [*, errW_none, errW_some] <;> rfl), by repeat (first | (with_reducible first | exact HB.out | apply below_alloc | apply pw_below_drewN | apply below_drew1 | refine below_set ?_ GE274.out | refine below_set ?_ GE280.out | refine below_set ?_ GE286.out | refine below_set ?_ GE287.out) | exact HB.out)⟩
      ·rw [if_neg c26] at H
       have c26b0 : (t273 == 16) = false := beq_eq_false_iff_ne.mpr c26
       have c26b1 : (t273 != 16) = true := bne_iff_ne.mpr c26
       replace H := Option.bind_eq_some_iff.mp H
       obtain ⟨⟨t288, t289, t290⟩, A400, H⟩ := H
       have A40 := Aside0.mk A400
       clear A400
       have HC41 := Aside0.mk H
       clear H
       have hnb42 := NB274_280.out
       have hnc42 := NB280_274.out
       have hcz43_0 := cz_ BK274 0 (.int .i64 t272)
       have hcz43_1 := cz_ BK274 1 (.int .i64 t273)
       have hfz43_0 := blk_frozen BK274.out 0
       have hfz43_1 := blk_frozen BK274.out 1
       go_upto_region 13 with (first | ((with_reducible refine gate_callee (f := 12) rfl ?_); refine gl_ (some 35) Tryd.func12 #[.agg #[.int .i64 t272, .int .i64 t273]] ?_; (with_reducible refine (impl_Halves.calls t272 t273 t281 t282 t283 t284 t285 _ A25.out).mono ?_); rintro e w44 ⟨rfl, hb⟩; refine ⟨_, rfl, ?_⟩; replace BK274 := Aside0.mk (bb_ BK274 hb); replace BK280 := Aside0.mk (bb_ BK280 hb); replace HB := Aside0.mk (bt_ HB hb); (try clear hb); (try clear hb2); (try clear hk); (try clear hi)) | ((with_reducible refine gate_dst (N := 6) rfl ?_); refine box_event ?hg (N := 6) ?hd (cs := #[.int .i64 0, .int .i64 0]) (t := 25) ?hr ?_; (case hd => rfl); (case hg => rfl); (case hr => first | (go_simp; done) | (go_simp; rfl)); intro gb286 hg w45 hbox hb; have BK286 := Aside0.mk hbox; have GW286 := ge_ HB hg; have GE286 := ge_ HB hg; have NB274_286 := nl_ BK274 hg; have NB286_274 := ng_ BK274 hg; have NB280_286 := nl_ BK280 hg; have NB286_280 := ng_ BK280 hg; replace HB := Aside0.mk (bt_ HB hb); replace BK274 := Aside0.mk (bb_ BK274 hb); replace BK280 := Aside0.mk (bb_ BK280 hb); clear hb hbox hg) | ((with_reducible refine gate_dst (N := 7) rfl ?_); refine box_event ?hg (N := 7) ?hd (cs := #[.int .i64 0, .int .i64 0]) (t := 25) ?hr ?_; (case hd => rfl); (case hg => rfl); (case hr => first | (go_simp; done) | (go_simp; rfl)); intro gb287 hg w46 hbox hb; have BK287 := Aside0.mk hbox; have GW287 := ge_ HB hg; have GE287 := ge_ HB hg; have NB274_287 := nl_ BK274 hg; have NB287_274 := ng_ BK274 hg; have NB280_287 := nl_ BK280 hg; have NB287_280 := ng_ BK280 hg; have NB286_287 := nl_ BK286 hg; have NB287_286 := ng_ BK286 hg; replace HB := Aside0.mk (bt_ HB hb); replace BK274 := Aside0.mk (bb_ BK274 hb); replace BK280 := Aside0.mk (bb_ BK280 hb); replace BK286 := Aside0.mk (bb_ BK286 hb); clear hb hbox hg; have hnb47 := NB286_274.out; have hnc47 := NB274_286.out; have hnb48 := NB286_280.out; have hnc48 := NB280_286.out; have hnb49 := NB286_287.out; have hnc49 := NB287_286.out; have hcz50_0 := cz_ BK286 0 (.int .i64 0); have hcz50_1 := cz_ BK286 1 (.int .i64 0); have hfz50_0 := blk_frozen BK286.out 0; have hfz50_1 := blk_frozen BK286.out 1; have hnb51 := NB287_274.out; have hnc51 := NB274_287.out; have hnb52 := NB287_280.out; have hnc52 := NB280_287.out; have hcz53_0 := cz_ BK287 0 (.int .i64 0); have hcz53_1 := cz_ BK287 1 (.int .i64 0); have hfz53_0 := blk_frozen BK287.out 0; have hfz53_1 := blk_frozen BK287.out 1; have hcz54_0 := cz_ BK274 0 (.int .i64 t272); have hcz54_1 := cz_ BK274 1 (.int .i64 t273); have hfz54_0 := blk_frozen BK274.out 0; have hfz54_1 := blk_frozen BK274.out 1) | ((with_reducible refine gate_callee (f := 13) rfl ?_); refine gl_ (some 46) Tryd.func13 #[.agg #[.int .i64 t281, .int .i64 t282]] ?_; (with_reducible refine (impl_Sibling.calls t281 t282 t288 t289 t290 _ A40.out).mono ?_); rintro e w55 ⟨rfl, hb⟩; refine ⟨_, rfl, ?_⟩; replace BK274 := Aside0.mk (blk_below (g := gb274) (o := .cells #[.int .i64 t272, .int .i64 t273] 25 (0, 0)) (by (with_reducible repeat (first | refine blk_drewN ?_ _ | refine blk_drew ?_ | refine blk_alloc ?_ _)); refine blk_far ?_ NB274_287.out _; (with_reducible repeat (first | refine blk_drewN ?_ _ | refine blk_drew ?_ | refine blk_alloc ?_ _)); refine blk_far ?_ NB274_287.out _; (with_reducible repeat (first | refine blk_drewN ?_ _ | refine blk_drew ?_ | refine blk_alloc ?_ _)); refine blk_far ?_ NB274_286.out _; (with_reducible repeat (first | refine blk_drewN ?_ _ | refine blk_drew ?_ | refine blk_alloc ?_ _)); refine blk_far ?_ NB274_286.out _; (with_reducible repeat (first | refine blk_drewN ?_ _ | refine blk_drew ?_ | refine blk_alloc ?_ _)); exact BK274.out) hb); replace BK280 := Aside0.mk (blk_below (g := gb280) (o := .cells #[.int .i64 t277, .int .i64 t278] 25 (0, 0)) (by (with_reducible repeat (first | refine blk_drewN ?_ _ | refine blk_drew ?_ | refine blk_alloc ?_ _)); refine blk_far ?_ NB280_287.out _; (with_reducible repeat (first | refine blk_drewN ?_ _ | refine blk_drew ?_ | refine blk_alloc ?_ _)); refine blk_far ?_ NB280_287.out _; (with_reducible repeat (first | refine blk_drewN ?_ _ | refine blk_drew ?_ | refine blk_alloc ?_ _)); refine blk_far ?_ NB280_286.out _; (with_reducible repeat (first | refine blk_drewN ?_ _ | refine blk_drew ?_ | refine blk_alloc ?_ _)); refine blk_far ?_ NB280_286.out _; (with_reducible repeat (first | refine blk_drewN ?_ _ | refine blk_drew ?_ | refine blk_alloc ?_ _)); exact BK280.out) hb); replace BK286 := Aside0.mk (blk_below (g := gb286) (o := .cells #[.int .i64 t281, .int .i64 t282] 25 (0, 0)) (by (with_reducible repeat (first | refine blk_drewN ?_ _ | refine blk_drew ?_ | refine blk_alloc ?_ _)); refine blk_far ?_ NB286_287.out _; (with_reducible repeat (first | refine blk_drewN ?_ _ | refine blk_drew ?_ | refine blk_alloc ?_ _)); refine blk_far ?_ NB286_287.out _; (with_reducible repeat (first | refine blk_drewN ?_ _ | refine blk_drew ?_ | refine blk_alloc ?_ _)); refine blk_put (cs := #[.int .i64 t281, .int .i64 0]) ?_ 1 _ rfl; (with_reducible repeat (first | refine blk_drewN ?_ _ | refine blk_drew ?_ | refine blk_alloc ?_ _)); refine blk_put (cs := #[.int .i64 0, .int .i64 0]) ?_ 0 _ rfl; (with_reducible repeat (first | refine blk_drewN ?_ _ | refine blk_drew ?_ | refine blk_alloc ?_ _)); exact BK286.out) hb); replace BK287 := Aside0.mk (blk_below (g := gb287) (o := .cells #[.int .i64 t283, .int .i64 t284] 25 (0, 0)) (by (with_reducible repeat (first | refine blk_drewN ?_ _ | refine blk_drew ?_ | refine blk_alloc ?_ _)); refine blk_put (cs := #[.int .i64 t283, .int .i64 0]) ?_ 1 _ rfl; (with_reducible repeat (first | refine blk_drewN ?_ _ | refine blk_drew ?_ | refine blk_alloc ?_ _)); refine blk_put (cs := #[.int .i64 0, .int .i64 0]) ?_ 0 _ rfl; (with_reducible repeat (first | refine blk_drewN ?_ _ | refine blk_drew ?_ | refine blk_alloc ?_ _)); refine blk_far ?_ NB287_286.out _; (with_reducible repeat (first | refine blk_drewN ?_ _ | refine blk_drew ?_ | refine blk_alloc ?_ _)); refine blk_far ?_ NB287_286.out _; (with_reducible repeat (first | refine blk_drewN ?_ _ | refine blk_drew ?_ | refine blk_alloc ?_ _)); exact BK287.out) hb); replace HB := Aside0.mk (bt_ HB hb); (try clear hb); (try clear hb2); (try clear hk); (try clear hi)) | ((with_reducible refine gate_dst (N := 9) rfl ?_); refine box_event ?hg (N := 9) ?hd (cs := #[.int .i64 0, .int .i64 0]) (t := 25) ?hr ?_; (case hd => rfl); (case hg => rfl); (case hr => first | (go_simp; done) | (go_simp; rfl)); intro gb291 hg w56 hbox hb; have BK291 := Aside0.mk hbox; have GW291 := ge_ HB hg; have GE291 := ge_ HB hg; have NB274_291 := nl_ BK274 hg; have NB291_274 := ng_ BK274 hg; have NB280_291 := nl_ BK280 hg; have NB291_280 := ng_ BK280 hg; have NB286_291 := nl_ BK286 hg; have NB291_286 := ng_ BK286 hg; have NB287_291 := nl_ BK287 hg; have NB291_287 := ng_ BK287 hg; replace HB := Aside0.mk (bt_ HB hb); replace BK274 := Aside0.mk (bb_ BK274 hb); replace BK280 := Aside0.mk (bb_ BK280 hb); replace BK286 := Aside0.mk (bb_ BK286 hb); replace BK287 := Aside0.mk (bb_ BK287 hb); clear hb hbox hg; have hnb57 := NB291_274.out; have hnc57 := NB274_291.out; have hnb58 := NB291_280.out; have hnc58 := NB280_291.out; have hnb59 := NB291_286.out; have hnc59 := NB286_291.out; have hnb60 := NB291_287.out; have hnc60 := NB287_291.out; have hcz61_0 := cz_ BK291 0 (.int .i64 0); have hcz61_1 := cz_ BK291 1 (.int .i64 0); have hfz61_0 := blk_frozen BK291.out 0; have hfz61_1 := blk_frozen BK291.out 1))
       (try simp only [Act.put, List.setIfInBounds_toArray, List.set_cons_zero, List.set_cons_succ])
       go_cut [76] (fun v76 wc => ∃ (kq : Nat) (x76_40 : Bool), v76 = .bool x76_40 ∧ Aside0 (laws_FnBlocks.j1 kq l0 x76_40 t272 t273 t281 t282 t283 t284 = some r) ∧ Aside0 (kq ≤ kj8) ∧ Aside0 (wc.heap[gb274]? = some (.cells #[.int .i64 t272, .int .i64 t273] 25 (0, 0))) ∧ Aside0 (wc.heap[gb280]? = some (.cells #[.int .i64 t277, .int .i64 t278] 25 (0, 0))) ∧ Aside0 (wc.heap[gb286]? = some (.cells #[.int .i64 t281, .int .i64 t282] 25 (0, 0))) ∧ Aside0 (wc.heap[gb287]? = some (.cells #[.int .i64 t283, .int .i64 t284] 25 (0, 0))) ∧ Aside0 (wc.heap[gb291]? = some (.cells #[.int .i64 t288, .int .i64 t289] 25 (0, 0))) ∧ Aside0 (Below w.heap.size w wc))
       case first =>
        have H := HC41.out
        clear HC41
        by_cases c62 : t285 = true
        ·subst c62
         rw [if_pos rfl] at H
         by_cases c63 : t290 = true
         ·subst c63
          rw [if_pos rfl] at H
          by_cases c64 : (!(t288 == t283) || (!(t289 == t284))) = true
          ·rw [if_pos c64] at H
           have c64b0 : (!(t288 == t283) || (!(t289 == t284))) = true := c64
           clear c64
           (first | rw [c64b0] | (simp only [i64_w, i32_w]; rw [c64b0]) | skip)
           have H' := Aside0.mk H
           clear H
           have hnb65 := NB291_274.out
           have hnc65 := NB274_291.out
           have hnb66 := NB291_280.out
           have hnc66 := NB280_291.out
           have hnb67 := NB291_286.out
           have hnc67 := NB286_291.out
           have hnb68 := NB291_287.out
           have hnc68 := NB287_291.out
           have hcz69_0 := cz_ BK291 0 (.int .i64 0)
           have hcz69_1 := cz_ BK291 1 (.int .i64 0)
           have hfz69_0 := blk_frozen BK291.out 0
           have hfz69_1 := blk_frozen BK291.out 1
           have hnb70 := NB287_274.out
           have hnc70 := NB274_287.out
           have hnb71 := NB287_280.out
           have hnc71 := NB280_287.out
           have hnb72 := NB287_286.out
           have hnc72 := NB286_287.out
           have hcz73_0 := cz_ BK287 0 (.int .i64 t283)
           have hcz73_1 := cz_ BK287 1 (.int .i64 t284)
           have hfz73_0 := blk_frozen BK287.out 0
           have hfz73_1 := blk_frozen BK287.out 1
           go_wp2
           go_meet
           case rel => exact ⟨_, (true), (by first | rfl | (simp; done) | (simp [*]; done)), H', ⟨by have := HJ8.out; first | omega | exact Nat.le_refl _⟩, ⟨by (with_reducible repeat (first | refine blk_drewN ?_ _ | refine blk_drew ?_ | refine blk_alloc ?_ _)); refine blk_far ?_ NB274_291.out _; (with_reducible repeat (first | refine blk_drewN ?_ _ | refine blk_drew ?_ | refine blk_alloc ?_ _)); refine blk_far ?_ NB274_291.out _; (with_reducible repeat (first | refine blk_drewN ?_ _ | refine blk_drew ?_ | refine blk_alloc ?_ _)); exact BK274.out⟩, ⟨by (with_reducible repeat (first | refine blk_drewN ?_ _ | refine blk_drew ?_ | refine blk_alloc ?_ _)); refine blk_far ?_ NB280_291.out _; (with_reducible repeat (first | refine blk_drewN ?_ _ | refine blk_drew ?_ | refine blk_alloc ?_ _)); refine blk_far ?_ NB280_291.out _; (with_reducible repeat (first | refine blk_drewN ?_ _ | refine blk_drew ?_ | refine blk_alloc ?_ _)); exact BK280.out⟩, ⟨by (with_reducible repeat (first | refine blk_drewN ?_ _ | refine blk_drew ?_ | refine blk_alloc ?_ _)); refine blk_far ?_ NB286_291.out _; (with_reducible repeat (first | refine blk_drewN ?_ _ | refine blk_drew ?_ | refine blk_alloc ?_ _)); refine blk_far ?_ NB286_291.out _; (with_reducible repeat (first | refine blk_drewN ?_ _ | refine blk_drew ?_ | refine blk_alloc ?_ _)); exact BK286.out⟩, ⟨by (with_reducible repeat (first | refine blk_drewN ?_ _ | refine blk_drew ?_ | refine blk_alloc ?_ _)); refine blk_far ?_ NB287_291.out _; (with_reducible repeat (first | refine blk_drewN ?_ _ | refine blk_drew ?_ | refine blk_alloc ?_ _)); refine blk_far ?_ NB287_291.out _; (with_reducible repeat (first | refine blk_drewN ?_ _ | refine blk_drew ?_ | refine blk_alloc ?_ _)); exact BK287.out⟩, ⟨by (with_reducible repeat (first | refine blk_drewN ?_ _ | refine blk_drew ?_ | refine blk_alloc ?_ _)); refine blk_put (cs := #[.int .i64 t288, .int .i64 0]) ?_ 1 _ rfl; (with_reducible repeat (first | refine blk_drewN ?_ _ | refine blk_drew ?_ | refine blk_alloc ?_ _)); refine blk_put (cs := #[.int .i64 0, .int .i64 0]) ?_ 0 _ rfl; (with_reducible repeat (first | refine blk_drewN ?_ _ | refine blk_drew ?_ | refine blk_alloc ?_ _)); exact BK291.out⟩, ⟨by repeat (first | (with_reducible first | exact HB.out | apply below_alloc | apply pw_below_drewN | apply below_drew1 | refine below_set ?_ GE274.out | refine below_set ?_ GE280.out | refine below_set ?_ GE286.out | refine below_set ?_ GE287.out | refine below_set ?_ GE291.out) | exact HB.out)⟩⟩
          ·rw [if_neg c64] at H
           have c64b0 : (!(t288 == t283) || (!(t289 == t284))) = false := by simpa using c64
           clear c64
           (first | rw [c64b0] | (simp only [i64_w, i32_w]; rw [c64b0]) | skip)
           replace H := Option.bind_eq_some_iff.mp H
           obtain ⟨t292, A740, H⟩ := H
           have A74 := Aside0.mk A740
           clear A740
           by_cases c75 : t292 = true
           ·subst c75
            rw [if_pos rfl] at H
            replace H := Option.bind_eq_some_iff.mp H
            obtain ⟨t293, A760, H⟩ := H
            have A76 := Aside0.mk A760
            clear A760
            by_cases c77 : t293 = true
            ·subst c77
             rw [if_pos rfl] at H
             replace H := Option.bind_eq_some_iff.mp H
             obtain ⟨t294, A780, H⟩ := H
             have A78 := Aside0.mk A780
             clear A780
             have H' := Aside0.mk H
             clear H
             have hnb79 := NB291_274.out
             have hnc79 := NB274_291.out
             have hnb80 := NB291_280.out
             have hnc80 := NB280_291.out
             have hnb81 := NB291_286.out
             have hnc81 := NB286_291.out
             have hnb82 := NB291_287.out
             have hnc82 := NB287_291.out
             have hcz83_0 := cz_ BK291 0 (.int .i64 0)
             have hcz83_1 := cz_ BK291 1 (.int .i64 0)
             have hfz83_0 := blk_frozen BK291.out 0
             have hfz83_1 := blk_frozen BK291.out 1
             have hnb84 := NB287_274.out
             have hnc84 := NB274_287.out
             have hnb85 := NB287_280.out
             have hnc85 := NB280_287.out
             have hnb86 := NB287_286.out
             have hnc86 := NB286_287.out
             have hcz87_0 := cz_ BK287 0 (.int .i64 t283)
             have hcz87_1 := cz_ BK287 1 (.int .i64 t284)
             have hfz87_0 := blk_frozen BK287.out 0
             have hfz87_1 := blk_frozen BK287.out 1
             have hnb88 := NB274_280.out
             have hnc88 := NB280_274.out
             have hnb89 := NB274_286.out
             have hnc89 := NB286_274.out
             have hcz90_0 := cz_ BK274 0 (.int .i64 t272)
             have hcz90_1 := cz_ BK274 1 (.int .i64 t273)
             have hfz90_0 := blk_frozen BK274.out 0
             have hfz90_1 := blk_frozen BK274.out 1
             have hnb91 := NB286_280.out
             have hnc91 := NB280_286.out
             have hcz92_0 := cz_ BK286 0 (.int .i64 t281)
             have hcz92_1 := cz_ BK286 1 (.int .i64 t282)
             have hfz92_0 := blk_frozen BK286.out 0
             have hfz92_1 := blk_frozen BK286.out 1
             go_wp2_with (first | (go_at_call 14; (with_reducible refine (impl_CoversPrefix.calls t272 t273 t281 t282 true _ A74.out).mono ?_); rintro e w93 ⟨rfl, hb⟩; replace BK274 := bf_ BK274 NB274_291 hb; replace BK280 := bf_ BK280 NB280_291 hb; replace BK286 := bf_ BK286 NB286_291 hb; replace BK287 := bf_ BK287 NB287_291 hb; replace BK291 := Aside0.mk (blk_below (g := gb291) (o := .cells #[.int .i64 t288, .int .i64 t289] 25 (0, 0)) (by (with_reducible repeat (first | refine blk_drewN ?_ _ | refine blk_drew ?_ | refine blk_alloc ?_ _)); refine blk_put (cs := #[.int .i64 t288, .int .i64 0]) ?_ 1 _ rfl; (with_reducible repeat (first | refine blk_drewN ?_ _ | refine blk_drew ?_ | refine blk_alloc ?_ _)); refine blk_put (cs := #[.int .i64 0, .int .i64 0]) ?_ 0 _ rfl; (with_reducible repeat (first | refine blk_drewN ?_ _ | refine blk_drew ?_ | refine blk_alloc ?_ _)); exact BK291.out) hb); replace HB := Aside0.mk (bt_ HB hb); (try clear hb); (try clear hb2); (try clear hk); (try clear hi); have hcz94_0 := cz_ BK274 0 (.int .i64 t272); have hcz94_1 := cz_ BK274 1 (.int .i64 t273); have hfz94_0 := blk_frozen BK274.out 0; have hfz94_1 := blk_frozen BK274.out 1; have hcz95_0 := cz_ BK287 0 (.int .i64 t283); have hcz95_1 := cz_ BK287 1 (.int .i64 t284); have hfz95_0 := blk_frozen BK287.out 0; have hfz95_1 := blk_frozen BK287.out 1) | (go_at_call 14; (with_reducible refine (impl_CoversPrefix.calls t272 t273 t283 t284 true _ A76.out).mono ?_); rintro e w96 ⟨rfl, hb⟩; replace BK274 := Aside0.mk (bb_ BK274 hb); replace BK280 := Aside0.mk (bb_ BK280 hb); replace BK286 := Aside0.mk (bb_ BK286 hb); replace BK287 := Aside0.mk (bb_ BK287 hb); replace BK291 := Aside0.mk (bb_ BK291 hb); replace HB := Aside0.mk (bt_ HB hb); (try clear hb); (try clear hb2); (try clear hk); (try clear hi); have hcz97_0 := cz_ BK286 0 (.int .i64 t281); have hcz97_1 := cz_ BK286 1 (.int .i64 t282); have hfz97_0 := blk_frozen BK286.out 0; have hfz97_1 := blk_frozen BK286.out 1; have hcz98_0 := cz_ BK274 0 (.int .i64 t272); have hcz98_1 := cz_ BK274 1 (.int .i64 t273); have hfz98_0 := blk_frozen BK274.out 0; have hfz98_1 := blk_frozen BK274.out 1) | (go_at_call 14; (with_reducible refine (impl_CoversPrefix.calls t281 t282 t272 t273 t294 _ A78.out).mono ?_); rintro e w99 ⟨rfl, hb⟩; replace BK274 := Aside0.mk (bb_ BK274 hb); replace BK280 := Aside0.mk (bb_ BK280 hb); replace BK286 := Aside0.mk (bb_ BK286 hb); replace BK287 := Aside0.mk (bb_ BK287 hb); replace BK291 := Aside0.mk (bb_ BK291 hb); replace HB := Aside0.mk (bt_ HB hb); (try clear hb); (try clear hb2); (try clear hk); (try clear hi)))
             go_meet
             case rel => exact ⟨_, (t294), (by first | rfl | (simp; done) | (simp [*]; done)), H', ⟨by have := HJ8.out; first | omega | exact Nat.le_refl _⟩, ⟨by (with_reducible repeat (first | refine blk_drewN ?_ _ | refine blk_drew ?_ | refine blk_alloc ?_ _)); exact BK274.out⟩, ⟨by (with_reducible repeat (first | refine blk_drewN ?_ _ | refine blk_drew ?_ | refine blk_alloc ?_ _)); exact BK280.out⟩, ⟨by (with_reducible repeat (first | refine blk_drewN ?_ _ | refine blk_drew ?_ | refine blk_alloc ?_ _)); exact BK286.out⟩, ⟨by (with_reducible repeat (first | refine blk_drewN ?_ _ | refine blk_drew ?_ | refine blk_alloc ?_ _)); exact BK287.out⟩, ⟨by (with_reducible repeat (first | refine blk_drewN ?_ _ | refine blk_drew ?_ | refine blk_alloc ?_ _)); exact BK291.out⟩, ⟨by repeat (first | (with_reducible first | exact HB.out | apply below_alloc | apply pw_below_drewN | apply below_drew1 | refine below_set ?_ GE274.out | refine below_set ?_ GE280.out | refine below_set ?_ GE286.out | refine below_set ?_ GE287.out | refine below_set ?_ GE291.out) | exact HB.out)⟩⟩
            ·replace c77 := Bool.eq_false_iff.mpr c77
             subst c77
             rw [if_neg (show ¬ (false = true) by decide)] at H
             have H' := Aside0.mk H
             clear H
             have hnb100 := NB291_274.out
             have hnc100 := NB274_291.out
             have hnb101 := NB291_280.out
             have hnc101 := NB280_291.out
             have hnb102 := NB291_286.out
             have hnc102 := NB286_291.out
             have hnb103 := NB291_287.out
             have hnc103 := NB287_291.out
             have hcz104_0 := cz_ BK291 0 (.int .i64 0)
             have hcz104_1 := cz_ BK291 1 (.int .i64 0)
             have hfz104_0 := blk_frozen BK291.out 0
             have hfz104_1 := blk_frozen BK291.out 1
             have hnb105 := NB287_274.out
             have hnc105 := NB274_287.out
             have hnb106 := NB287_280.out
             have hnc106 := NB280_287.out
             have hnb107 := NB287_286.out
             have hnc107 := NB286_287.out
             have hcz108_0 := cz_ BK287 0 (.int .i64 t283)
             have hcz108_1 := cz_ BK287 1 (.int .i64 t284)
             have hfz108_0 := blk_frozen BK287.out 0
             have hfz108_1 := blk_frozen BK287.out 1
             have hnb109 := NB274_280.out
             have hnc109 := NB280_274.out
             have hnb110 := NB274_286.out
             have hnc110 := NB286_274.out
             have hcz111_0 := cz_ BK274 0 (.int .i64 t272)
             have hcz111_1 := cz_ BK274 1 (.int .i64 t273)
             have hfz111_0 := blk_frozen BK274.out 0
             have hfz111_1 := blk_frozen BK274.out 1
             have hnb112 := NB286_280.out
             have hnc112 := NB280_286.out
             have hcz113_0 := cz_ BK286 0 (.int .i64 t281)
             have hcz113_1 := cz_ BK286 1 (.int .i64 t282)
             have hfz113_0 := blk_frozen BK286.out 0
             have hfz113_1 := blk_frozen BK286.out 1
             go_wp2_with (first | (go_at_call 14; (with_reducible refine (impl_CoversPrefix.calls t272 t273 t281 t282 true _ A74.out).mono ?_); rintro e w114 ⟨rfl, hb⟩; replace BK274 := bf_ BK274 NB274_291 hb; replace BK280 := bf_ BK280 NB280_291 hb; replace BK286 := bf_ BK286 NB286_291 hb; replace BK287 := bf_ BK287 NB287_291 hb; replace BK291 := Aside0.mk (blk_below (g := gb291) (o := .cells #[.int .i64 t288, .int .i64 t289] 25 (0, 0)) (by (with_reducible repeat (first | refine blk_drewN ?_ _ | refine blk_drew ?_ | refine blk_alloc ?_ _)); refine blk_put (cs := #[.int .i64 t288, .int .i64 0]) ?_ 1 _ rfl; (with_reducible repeat (first | refine blk_drewN ?_ _ | refine blk_drew ?_ | refine blk_alloc ?_ _)); refine blk_put (cs := #[.int .i64 0, .int .i64 0]) ?_ 0 _ rfl; (with_reducible repeat (first | refine blk_drewN ?_ _ | refine blk_drew ?_ | refine blk_alloc ?_ _)); exact BK291.out) hb); replace HB := Aside0.mk (bt_ HB hb); (try clear hb); (try clear hb2); (try clear hk); (try clear hi); have hcz115_0 := cz_ BK274 0 (.int .i64 t272); have hcz115_1 := cz_ BK274 1 (.int .i64 t273); have hfz115_0 := blk_frozen BK274.out 0; have hfz115_1 := blk_frozen BK274.out 1; have hcz116_0 := cz_ BK287 0 (.int .i64 t283); have hcz116_1 := cz_ BK287 1 (.int .i64 t284); have hfz116_0 := blk_frozen BK287.out 0; have hfz116_1 := blk_frozen BK287.out 1) | (go_at_call 14; (with_reducible refine (impl_CoversPrefix.calls t272 t273 t283 t284 false _ A76.out).mono ?_); rintro e w117 ⟨rfl, hb⟩; replace BK274 := Aside0.mk (bb_ BK274 hb); replace BK280 := Aside0.mk (bb_ BK280 hb); replace BK286 := Aside0.mk (bb_ BK286 hb); replace BK287 := Aside0.mk (bb_ BK287 hb); replace BK291 := Aside0.mk (bb_ BK291 hb); replace HB := Aside0.mk (bt_ HB hb); (try clear hb); (try clear hb2); (try clear hk); (try clear hi)))
             go_meet
             case rel => exact ⟨_, (true), (by first | rfl | (simp; done) | (simp [*]; done)), H', ⟨by have := HJ8.out; first | omega | exact Nat.le_refl _⟩, ⟨by (with_reducible repeat (first | refine blk_drewN ?_ _ | refine blk_drew ?_ | refine blk_alloc ?_ _)); exact BK274.out⟩, ⟨by (with_reducible repeat (first | refine blk_drewN ?_ _ | refine blk_drew ?_ | refine blk_alloc ?_ _)); exact BK280.out⟩, ⟨by (with_reducible repeat (first | refine blk_drewN ?_ _ | refine blk_drew ?_ | refine blk_alloc ?_ _)); exact BK286.out⟩, ⟨by (with_reducible repeat (first | refine blk_drewN ?_ _ | refine blk_drew ?_ | refine blk_alloc ?_ _)); exact BK287.out⟩, ⟨by (with_reducible repeat (first | refine blk_drewN ?_ _ | refine blk_drew ?_ | refine blk_alloc ?_ _)); exact BK291.out⟩, ⟨by repeat (first | (with_reducible first | exact HB.out | apply below_alloc | apply pw_below_drewN | apply below_drew1 | refine below_set ?_ GE274.out | refine below_set ?_ GE280.out | refine below_set ?_ GE286.out | refine below_set ?_ GE287.out | refine below_set ?_ GE291.out) | exact HB.out)⟩⟩
           ·replace c75 := Bool.eq_false_iff.mpr c75
            subst c75
            rw [if_neg (show ¬ (false = true) by decide)] at H
            have H' := Aside0.mk H
            clear H
            have hnb118 := NB291_274.out
            have hnc118 := NB274_291.out
            have hnb119 := NB291_280.out
            have hnc119 := NB280_291.out
            have hnb120 := NB291_286.out
            have hnc120 := NB286_291.out
            have hnb121 := NB291_287.out
            have hnc121 := NB287_291.out
            have hcz122_0 := cz_ BK291 0 (.int .i64 0)
            have hcz122_1 := cz_ BK291 1 (.int .i64 0)
            have hfz122_0 := blk_frozen BK291.out 0
            have hfz122_1 := blk_frozen BK291.out 1
            have hnb123 := NB287_274.out
            have hnc123 := NB274_287.out
            have hnb124 := NB287_280.out
            have hnc124 := NB280_287.out
            have hnb125 := NB287_286.out
            have hnc125 := NB286_287.out
            have hcz126_0 := cz_ BK287 0 (.int .i64 t283)
            have hcz126_1 := cz_ BK287 1 (.int .i64 t284)
            have hfz126_0 := blk_frozen BK287.out 0
            have hfz126_1 := blk_frozen BK287.out 1
            have hnb127 := NB274_280.out
            have hnc127 := NB280_274.out
            have hnb128 := NB274_286.out
            have hnc128 := NB286_274.out
            have hcz129_0 := cz_ BK274 0 (.int .i64 t272)
            have hcz129_1 := cz_ BK274 1 (.int .i64 t273)
            have hfz129_0 := blk_frozen BK274.out 0
            have hfz129_1 := blk_frozen BK274.out 1
            have hnb130 := NB286_280.out
            have hnc130 := NB280_286.out
            have hcz131_0 := cz_ BK286 0 (.int .i64 t281)
            have hcz131_1 := cz_ BK286 1 (.int .i64 t282)
            have hfz131_0 := blk_frozen BK286.out 0
            have hfz131_1 := blk_frozen BK286.out 1
            go_wp2_with (first | (go_at_call 14; (with_reducible refine (impl_CoversPrefix.calls t272 t273 t281 t282 false _ A74.out).mono ?_); rintro e w132 ⟨rfl, hb⟩; replace BK274 := bf_ BK274 NB274_291 hb; replace BK280 := bf_ BK280 NB280_291 hb; replace BK286 := bf_ BK286 NB286_291 hb; replace BK287 := bf_ BK287 NB287_291 hb; replace BK291 := Aside0.mk (blk_below (g := gb291) (o := .cells #[.int .i64 t288, .int .i64 t289] 25 (0, 0)) (by (with_reducible repeat (first | refine blk_drewN ?_ _ | refine blk_drew ?_ | refine blk_alloc ?_ _)); refine blk_put (cs := #[.int .i64 t288, .int .i64 0]) ?_ 1 _ rfl; (with_reducible repeat (first | refine blk_drewN ?_ _ | refine blk_drew ?_ | refine blk_alloc ?_ _)); refine blk_put (cs := #[.int .i64 0, .int .i64 0]) ?_ 0 _ rfl; (with_reducible repeat (first | refine blk_drewN ?_ _ | refine blk_drew ?_ | refine blk_alloc ?_ _)); exact BK291.out) hb); replace HB := Aside0.mk (bt_ HB hb); (try clear hb); (try clear hb2); (try clear hk); (try clear hi)))
            go_meet
            case rel => exact ⟨_, (true), (by first | rfl | (simp; done) | (simp [*]; done)), H', ⟨by have := HJ8.out; first | omega | exact Nat.le_refl _⟩, ⟨by (with_reducible repeat (first | refine blk_drewN ?_ _ | refine blk_drew ?_ | refine blk_alloc ?_ _)); exact BK274.out⟩, ⟨by (with_reducible repeat (first | refine blk_drewN ?_ _ | refine blk_drew ?_ | refine blk_alloc ?_ _)); exact BK280.out⟩, ⟨by (with_reducible repeat (first | refine blk_drewN ?_ _ | refine blk_drew ?_ | refine blk_alloc ?_ _)); exact BK286.out⟩, ⟨by (with_reducible repeat (first | refine blk_drewN ?_ _ | refine blk_drew ?_ | refine blk_alloc ?_ _)); exact BK287.out⟩, ⟨by (with_reducible repeat (first | refine blk_drewN ?_ _ | refine blk_drew ?_ | refine blk_alloc ?_ _)); exact BK291.out⟩, ⟨by repeat (first | (with_reducible first | exact HB.out | apply below_alloc | apply pw_below_drewN | apply below_drew1 | refine below_set ?_ GE274.out | refine below_set ?_ GE280.out | refine below_set ?_ GE286.out | refine below_set ?_ GE287.out | refine below_set ?_ GE291.out) | exact HB.out)⟩⟩
         ·replace c63 := Bool.eq_false_iff.mpr c63
          subst c63
          rw [if_neg (show ¬ (false = true) by decide)] at H
          have H' := Aside0.mk H
          clear H
          go_wp2
          go_meet
          case rel => exact ⟨_, (true), (by first | rfl | (simp; done) | (simp [*]; done)), H', ⟨by have := HJ8.out; first | omega | exact Nat.le_refl _⟩, ⟨by (with_reducible repeat (first | refine blk_drewN ?_ _ | refine blk_drew ?_ | refine blk_alloc ?_ _)); refine blk_far ?_ NB274_291.out _; (with_reducible repeat (first | refine blk_drewN ?_ _ | refine blk_drew ?_ | refine blk_alloc ?_ _)); refine blk_far ?_ NB274_291.out _; (with_reducible repeat (first | refine blk_drewN ?_ _ | refine blk_drew ?_ | refine blk_alloc ?_ _)); exact BK274.out⟩, ⟨by (with_reducible repeat (first | refine blk_drewN ?_ _ | refine blk_drew ?_ | refine blk_alloc ?_ _)); refine blk_far ?_ NB280_291.out _; (with_reducible repeat (first | refine blk_drewN ?_ _ | refine blk_drew ?_ | refine blk_alloc ?_ _)); refine blk_far ?_ NB280_291.out _; (with_reducible repeat (first | refine blk_drewN ?_ _ | refine blk_drew ?_ | refine blk_alloc ?_ _)); exact BK280.out⟩, ⟨by (with_reducible repeat (first | refine blk_drewN ?_ _ | refine blk_drew ?_ | refine blk_alloc ?_ _)); refine blk_far ?_ NB286_291.out _; (with_reducible repeat (first | refine blk_drewN ?_ _ | refine blk_drew ?_ | refine blk_alloc ?_ _)); refine blk_far ?_ NB286_291.out _; (with_reducible repeat (first | refine blk_drewN ?_ _ | refine blk_drew ?_ | refine blk_alloc ?_ _)); exact BK286.out⟩, ⟨by (with_reducible repeat (first | refine blk_drewN ?_ _ | refine blk_drew ?_ | refine blk_alloc ?_ _)); refine blk_far ?_ NB287_291.out _; (with_reducible repeat (first | refine blk_drewN ?_ _ | refine blk_drew ?_ | refine blk_alloc ?_ _)); refine blk_far ?_ NB287_291.out _; (with_reducible repeat (first | refine blk_drewN ?_ _ | refine blk_drew ?_ | refine blk_alloc ?_ _)); exact BK287.out⟩, ⟨by (with_reducible repeat (first | refine blk_drewN ?_ _ | refine blk_drew ?_ | refine blk_alloc ?_ _)); refine blk_put (cs := #[.int .i64 t288, .int .i64 0]) ?_ 1 _ rfl; (with_reducible repeat (first | refine blk_drewN ?_ _ | refine blk_drew ?_ | refine blk_alloc ?_ _)); refine blk_put (cs := #[.int .i64 0, .int .i64 0]) ?_ 0 _ rfl; (with_reducible repeat (first | refine blk_drewN ?_ _ | refine blk_drew ?_ | refine blk_alloc ?_ _)); exact BK291.out⟩, ⟨by repeat (first | (with_reducible first | exact HB.out | apply below_alloc | apply pw_below_drewN | apply below_drew1 | refine below_set ?_ GE274.out | refine below_set ?_ GE280.out | refine below_set ?_ GE286.out | refine below_set ?_ GE287.out | refine below_set ?_ GE291.out) | exact HB.out)⟩⟩
        ·replace c62 := Bool.eq_false_iff.mpr c62
         subst c62
         rw [if_neg (show ¬ (false = true) by decide)] at H
         have H' := Aside0.mk H
         clear H
         go_wp2
         go_meet
         case rel => exact ⟨_, (true), (by first | rfl | (simp; done) | (simp [*]; done)), H', ⟨by have := HJ8.out; first | omega | exact Nat.le_refl _⟩, ⟨by (with_reducible repeat (first | refine blk_drewN ?_ _ | refine blk_drew ?_ | refine blk_alloc ?_ _)); refine blk_far ?_ NB274_291.out _; (with_reducible repeat (first | refine blk_drewN ?_ _ | refine blk_drew ?_ | refine blk_alloc ?_ _)); refine blk_far ?_ NB274_291.out _; (with_reducible repeat (first | refine blk_drewN ?_ _ | refine blk_drew ?_ | refine blk_alloc ?_ _)); exact BK274.out⟩, ⟨by (with_reducible repeat (first | refine blk_drewN ?_ _ | refine blk_drew ?_ | refine blk_alloc ?_ _)); refine blk_far ?_ NB280_291.out _; (with_reducible repeat (first | refine blk_drewN ?_ _ | refine blk_drew ?_ | refine blk_alloc ?_ _)); refine blk_far ?_ NB280_291.out _; (with_reducible repeat (first | refine blk_drewN ?_ _ | refine blk_drew ?_ | refine blk_alloc ?_ _)); exact BK280.out⟩, ⟨by (with_reducible repeat (first | refine blk_drewN ?_ _ | refine blk_drew ?_ | refine blk_alloc ?_ _)); refine blk_far ?_ NB286_291.out _; (with_reducible repeat (first | refine blk_drewN ?_ _ | refine blk_drew ?_ | refine blk_alloc ?_ _)); refine blk_far ?_ NB286_291.out _; (with_reducible repeat (first | refine blk_drewN ?_ _ | refine blk_drew ?_ | refine blk_alloc ?_ _)); exact BK286.out⟩, ⟨by (with_reducible repeat (first | refine blk_drewN ?_ _ | refine blk_drew ?_ | refine blk_alloc ?_ _)); refine blk_far ?_ NB287_291.out _; (with_reducible repeat (first | refine blk_drewN ?_ _ | refine blk_drew ?_ | refine blk_alloc ?_ _)); refine blk_far ?_ NB287_291.out _; (with_reducible repeat (first | refine blk_drewN ?_ _ | refine blk_drew ?_ | refine blk_alloc ?_ _)); exact BK287.out⟩, ⟨by (with_reducible repeat (first | refine blk_drewN ?_ _ | refine blk_drew ?_ | refine blk_alloc ?_ _)); refine blk_put (cs := #[.int .i64 t288, .int .i64 0]) ?_ 1 _ rfl; (with_reducible repeat (first | refine blk_drewN ?_ _ | refine blk_drew ?_ | refine blk_alloc ?_ _)); refine blk_put (cs := #[.int .i64 0, .int .i64 0]) ?_ 0 _ rfl; (with_reducible repeat (first | refine blk_drewN ?_ _ | refine blk_drew ?_ | refine blk_alloc ?_ _)); exact BK291.out⟩, ⟨by repeat (first | (with_reducible first | exact HB.out | apply below_alloc | apply pw_below_drewN | apply below_drew1 | refine below_set ?_ GE274.out | refine below_set ?_ GE280.out | refine below_set ?_ GE286.out | refine below_set ?_ GE287.out | refine below_set ?_ GE291.out) | exact HB.out)⟩⟩
       case rest =>
        clear HC41
        try clear c1
        try clear c2
        try clear p2
        try clear c3
        try clear c4
        try clear c5
        try clear c6
        try clear c7
        try clear c8
        try clear c9
        try clear c10
        try clear c11
        try clear c12
        try clear c13
        try clear c18
        try clear c20
        try clear c21
        try clear c24
        try clear c26
        try clear c26b0
        try clear c26b1
        try clear c27
        try clear c32
        try clear c33
        try clear c34
        try clear c36
        try clear c37
        try clear c42
        try clear c47
        try clear c48
        try clear c49
        try clear c51
        try clear c52
        try clear c57
        try clear c58
        try clear c59
        try clear c60
        try clear c62
        try clear c63
        try clear c64
        try clear c64b0
        try clear c65
        try clear c66
        try clear c67
        try clear c68
        try clear c70
        try clear c71
        try clear c72
        try clear c75
        try clear c77
        try clear c79
        try clear c80
        try clear c81
        try clear c82
        try clear c84
        try clear c85
        try clear c86
        try clear c88
        try clear c89
        try clear c91
        try clear c100
        try clear c101
        try clear c102
        try clear c103
        try clear c105
        try clear c106
        try clear c107
        try clear c109
        try clear c110
        try clear c112
        try clear c118
        try clear c119
        try clear c120
        try clear c121
        try clear c123
        try clear c124
        try clear c125
        try clear c127
        try clear c128
        try clear c130
        try clear hcz104_0
        try clear hcz104_1
        try clear hcz108_0
        try clear hcz108_1
        try clear hcz111_0
        try clear hcz111_1
        try clear hcz113_0
        try clear hcz113_1
        try clear hcz115_0
        try clear hcz115_1
        try clear hcz116_0
        try clear hcz116_1
        try clear hcz122_0
        try clear hcz122_1
        try clear hcz126_0
        try clear hcz126_1
        try clear hcz129_0
        try clear hcz129_1
        try clear hcz12_0
        try clear hcz12_1
        try clear hcz131_0
        try clear hcz131_1
        try clear hcz14_0
        try clear hcz14_1
        try clear hcz19_0
        try clear hcz19_1
        try clear hcz22_0
        try clear hcz22_1
        try clear hcz23_0
        try clear hcz23_1
        try clear hcz28_0
        try clear hcz28_1
        try clear hcz35_0
        try clear hcz35_1
        try clear hcz38_0
        try clear hcz38_1
        try clear hcz39_0
        try clear hcz39_1
        try clear hcz43_0
        try clear hcz43_1
        try clear hcz50_0
        try clear hcz50_1
        try clear hcz53_0
        try clear hcz53_1
        try clear hcz54_0
        try clear hcz54_1
        try clear hcz61_0
        try clear hcz61_1
        try clear hcz69_0
        try clear hcz69_1
        try clear hcz73_0
        try clear hcz73_1
        try clear hcz83_0
        try clear hcz83_1
        try clear hcz87_0
        try clear hcz87_1
        try clear hcz90_0
        try clear hcz90_1
        try clear hcz92_0
        try clear hcz92_1
        try clear hcz94_0
        try clear hcz94_1
        try clear hcz95_0
        try clear hcz95_1
        try clear hcz97_0
        try clear hcz97_1
        try clear hcz98_0
        try clear hcz98_1
        try clear hfz104_0
        try clear hfz104_1
        try clear hfz108_0
        try clear hfz108_1
        try clear hfz111_0
        try clear hfz111_1
        try clear hfz113_0
        try clear hfz113_1
        try clear hfz115_0
        try clear hfz115_1
        try clear hfz116_0
        try clear hfz116_1
        try clear hfz122_0
        try clear hfz122_1
        try clear hfz126_0
        try clear hfz126_1
        try clear hfz129_0
        try clear hfz129_1
        try clear hfz12_0
        try clear hfz12_1
        try clear hfz131_0
        try clear hfz131_1
        try clear hfz14_0
        try clear hfz14_1
        try clear hfz19_0
        try clear hfz19_1
        try clear hfz22_0
        try clear hfz22_1
        try clear hfz23_0
        try clear hfz23_1
        try clear hfz28_0
        try clear hfz28_1
        try clear hfz35_0
        try clear hfz35_1
        try clear hfz38_0
        try clear hfz38_1
        try clear hfz39_0
        try clear hfz39_1
        try clear hfz43_0
        try clear hfz43_1
        try clear hfz50_0
        try clear hfz50_1
        try clear hfz53_0
        try clear hfz53_1
        try clear hfz54_0
        try clear hfz54_1
        try clear hfz61_0
        try clear hfz61_1
        try clear hfz69_0
        try clear hfz69_1
        try clear hfz73_0
        try clear hfz73_1
        try clear hfz83_0
        try clear hfz83_1
        try clear hfz87_0
        try clear hfz87_1
        try clear hfz90_0
        try clear hfz90_1
        try clear hfz92_0
        try clear hfz92_1
        try clear hfz94_0
        try clear hfz94_1
        try clear hfz95_0
        try clear hfz95_1
        try clear hfz97_0
        try clear hfz97_1
        try clear hfz98_0
        try clear hfz98_1
        try clear p2
        obtain ⟨kq, x76_40, rfl, HA, HJ40, BK274, BK280, BK286, BK287, BK291, HB⟩ := hcut
        cases kq with
        | zero => exact absurd HA.out (by simp [laws_FnBlocks.j1])
        | succ kj40 =>
         have H := HA.out
         clear HA
         simp only [laws_FnBlocks.j1] at H
         by_cases c133 : x76_40 = true
         ·subst c133
          rw [if_pos rfl] at H
          obtain rfl := Option.some.inj H
          go_wp2
          go_ret
          exact ⟨by first | rfl | (simp [errW_none, errW_some] <;> rfl) | (simp [*, errW_none, errW_some] <;> rfl), by repeat (first | (with_reducible first | exact HB.out | apply below_alloc | apply pw_below_drewN | apply below_drew1 | refine below_set ?_ GE274.out | refine below_set ?_ GE280.out | refine below_set ?_ GE286.out | refine below_set ?_ GE287.out | refine below_set ?_ GE291.out) | exact HB.out)⟩
         ·replace c133 := Bool.eq_false_iff.mpr c133
          subst c133
          rw [if_neg (show ¬ (false = true) by decide)] at H
          have H' := Aside0.mk H
          clear H
          go_wp2
          go_loopg [11] kj40 (fun kq v11 w' => ∃ (x11_3 : Int), v11 = .int .i64 x11_3 ∧ Aside0 (laws_FnBlocks.l0 kq l0 x11_3 t272 t273 t281 t282 t283 t284 = some r) ∧ Aside0 (kq ≤ kj40) ∧ Aside0 (w'.heap[gb274]? = some (.cells #[.int .i64 t272, .int .i64 t273] 25 (0, 0))) ∧ Aside0 (w'.heap[gb280]? = some (.cells #[.int .i64 t277, .int .i64 t278] 25 (0, 0))) ∧ Aside0 (w'.heap[gb286]? = some (.cells #[.int .i64 t281, .int .i64 t282] 25 (0, 0))) ∧ Aside0 (w'.heap[gb287]? = some (.cells #[.int .i64 t283, .int .i64 t284] 25 (0, 0))) ∧ Aside0 (w'.heap[gb291]? = some (.cells #[.int .i64 t288, .int .i64 t289] 25 (0, 0))) ∧ Aside0 (Below w.heap.size w w'))
          case atStart => exact ⟨(0), (by first | rfl | (simp; done) | (simp [*]; done)), H', ⟨Nat.le_refl _⟩, ⟨by (with_reducible repeat (first | refine blk_drewN ?_ _ | refine blk_drew ?_ | refine blk_alloc ?_ _)); exact BK274.out⟩, ⟨by (with_reducible repeat (first | refine blk_drewN ?_ _ | refine blk_drew ?_ | refine blk_alloc ?_ _)); exact BK280.out⟩, ⟨by (with_reducible repeat (first | refine blk_drewN ?_ _ | refine blk_drew ?_ | refine blk_alloc ?_ _)); exact BK286.out⟩, ⟨by (with_reducible repeat (first | refine blk_drewN ?_ _ | refine blk_drew ?_ | refine blk_alloc ?_ _)); exact BK287.out⟩, ⟨by (with_reducible repeat (first | refine blk_drewN ?_ _ | refine blk_drew ?_ | refine blk_alloc ?_ _)); exact BK291.out⟩, ⟨by repeat (first | (with_reducible first | exact HB.out | apply below_alloc | apply pw_below_drewN | apply below_drew1 | refine below_set ?_ GE274.out | refine below_set ?_ GE280.out | refine below_set ?_ GE286.out | refine below_set ?_ GE287.out | refine below_set ?_ GE291.out) | exact HB.out)⟩⟩
          case round =>
           clear H'
           try clear c1
           try clear c2
           try clear p2
           try clear c3
           try clear c4
           try clear c5
           try clear c6
           try clear c7
           try clear c8
           try clear c9
           try clear c10
           try clear c11
           try clear c12
           try clear c13
           try clear c18
           try clear c20
           try clear c21
           try clear c24
           try clear c26
           try clear c26b0
           try clear c26b1
           try clear c27
           try clear c32
           try clear c33
           try clear c34
           try clear c36
           try clear c37
           try clear c42
           try clear c47
           try clear c48
           try clear c49
           try clear c51
           try clear c52
           try clear c57
           try clear c58
           try clear c59
           try clear c60
           try clear c62
           try clear c63
           try clear c64
           try clear c64b0
           try clear c65
           try clear c66
           try clear c67
           try clear c68
           try clear c70
           try clear c71
           try clear c72
           try clear c75
           try clear c77
           try clear c79
           try clear c80
           try clear c81
           try clear c82
           try clear c84
           try clear c85
           try clear c86
           try clear c88
           try clear c89
           try clear c91
           try clear c100
           try clear c101
           try clear c102
           try clear c103
           try clear c105
           try clear c106
           try clear c107
           try clear c109
           try clear c110
           try clear c112
           try clear c118
           try clear c119
           try clear c120
           try clear c121
           try clear c123
           try clear c124
           try clear c125
           try clear c127
           try clear c128
           try clear c130
           try clear c133
           try clear hcz104_0
           try clear hcz104_1
           try clear hcz108_0
           try clear hcz108_1
           try clear hcz111_0
           try clear hcz111_1
           try clear hcz113_0
           try clear hcz113_1
           try clear hcz115_0
           try clear hcz115_1
           try clear hcz116_0
           try clear hcz116_1
           try clear hcz122_0
           try clear hcz122_1
           try clear hcz126_0
           try clear hcz126_1
           try clear hcz129_0
           try clear hcz129_1
           try clear hcz12_0
           try clear hcz12_1
           try clear hcz131_0
           try clear hcz131_1
           try clear hcz14_0
           try clear hcz14_1
           try clear hcz19_0
           try clear hcz19_1
           try clear hcz22_0
           try clear hcz22_1
           try clear hcz23_0
           try clear hcz23_1
           try clear hcz28_0
           try clear hcz28_1
           try clear hcz35_0
           try clear hcz35_1
           try clear hcz38_0
           try clear hcz38_1
           try clear hcz39_0
           try clear hcz39_1
           try clear hcz43_0
           try clear hcz43_1
           try clear hcz50_0
           try clear hcz50_1
           try clear hcz53_0
           try clear hcz53_1
           try clear hcz54_0
           try clear hcz54_1
           try clear hcz61_0
           try clear hcz61_1
           try clear hcz69_0
           try clear hcz69_1
           try clear hcz73_0
           try clear hcz73_1
           try clear hcz83_0
           try clear hcz83_1
           try clear hcz87_0
           try clear hcz87_1
           try clear hcz90_0
           try clear hcz90_1
           try clear hcz92_0
           try clear hcz92_1
           try clear hcz94_0
           try clear hcz94_1
           try clear hcz95_0
           try clear hcz95_1
           try clear hcz97_0
           try clear hcz97_1
           try clear hcz98_0
           try clear hcz98_1
           try clear hfz104_0
           try clear hfz104_1
           try clear hfz108_0
           try clear hfz108_1
           try clear hfz111_0
           try clear hfz111_1
           try clear hfz113_0
           try clear hfz113_1
           try clear hfz115_0
           try clear hfz115_1
           try clear hfz116_0
           try clear hfz116_1
           try clear hfz122_0
           try clear hfz122_1
           try clear hfz126_0
           try clear hfz126_1
           try clear hfz129_0
           try clear hfz129_1
           try clear hfz12_0
           try clear hfz12_1
           try clear hfz131_0
           try clear hfz131_1
           try clear hfz14_0
           try clear hfz14_1
           try clear hfz19_0
           try clear hfz19_1
           try clear hfz22_0
           try clear hfz22_1
           try clear hfz23_0
           try clear hfz23_1
           try clear hfz28_0
           try clear hfz28_1
           try clear hfz35_0
           try clear hfz35_1
           try clear hfz38_0
           try clear hfz38_1
           try clear hfz39_0
           try clear hfz39_1
           try clear hfz43_0
           try clear hfz43_1
           try clear hfz50_0
           try clear hfz50_1
           try clear hfz53_0
           try clear hfz53_1
           try clear hfz54_0
           try clear hfz54_1
           try clear hfz61_0
           try clear hfz61_1
           try clear hfz69_0
           try clear hfz69_1
           try clear hfz73_0
           try clear hfz73_1
           try clear hfz83_0
           try clear hfz83_1
           try clear hfz87_0
           try clear hfz87_1
           try clear hfz90_0
           try clear hfz90_1
           try clear hfz92_0
           try clear hfz92_1
           try clear hfz94_0
           try clear hfz94_1
           try clear hfz95_0
           try clear hfz95_1
           try clear hfz97_0
           try clear hfz97_1
           try clear hfz98_0
           try clear hfz98_1
           try clear p2
           obtain ⟨x11_3, rfl, HA, HK3, BK274, BK280, BK286, BK287, BK291, HB⟩ := hrel
           cases gk with
           | zero => exact absurd HA.out (by simp [laws_FnBlocks.l0])
           | succ k3 =>
            have H := HA.out
            clear HA
            simp only [laws_FnBlocks.l0] at H
            by_cases c134 : x11_3 < 20
            ·rw [if_pos c134] at H
             have c134b0 : decide (x11_3 < 20) = true := decide_eq_true c134
             clear c134
             replace H := Option.bind_eq_some_iff.mp H
             obtain ⟨t295, A1350, H⟩ := H
             have A135 := Aside0.mk A1350
             clear A1350
             replace H := Option.bind_eq_some_iff.mp H
             obtain ⟨t296, A1360, H⟩ := H
             have A136 := Aside0.mk A1360
             clear A1360
             replace H := Option.bind_eq_some_iff.mp H
             obtain ⟨t297, A1370, H⟩ := H
             have A137 := Aside0.mk A1370
             clear A1370
             replace H := Option.bind_eq_some_iff.mp H
             obtain ⟨t298, A1380, H⟩ := H
             have A138 := Aside0.mk A1380
             clear A1380
             by_cases c139 : t298 = true
             ·subst c139
              rw [if_pos rfl] at H
              by_cases c140 : (t297 != true) = true
              ·rw [if_pos c140] at H
               have c140b0 : (t297 != true) = true := c140
               (try (have c140b1 : decide (t297 = true) = false := by simpa using c140))
               (try (have c140b2 : (t297 == true) = false := by simpa using c140))
               (try (have c140b3 : ¬ (t297 = true) := by simpa using c140))
               clear c140
               obtain rfl := Option.some.inj H
               try go_wp2
               replace BK274 := Aside0.mk (blk_drew BK274.out)
               replace BK280 := Aside0.mk (blk_drew BK280.out)
               replace BK286 := Aside0.mk (blk_drew BK286.out)
               replace BK287 := Aside0.mk (blk_drew BK287.out)
               replace BK291 := Aside0.mk (blk_drew BK291.out)
               replace HB := Aside0.mk (below_drew1 HB.out)
               refine start_ (n := 13) (S := fun w' => w'.cell? ⟨gb274, 0, none⟩ = some (.int .i64 t272) ∧ w'.cell? ⟨gb274, 1, none⟩ = some (.int .i64 t273)) (ds := []) ba10_0 (by kernel_rfl) rfl rfl ⟨(blk_cell BK274.out 0).trans rfl, (blk_cell BK274.out 1).trans rfl⟩ (fun hHeld => ?_); refine with_tabW laws_FnBlocks.tab18 laws_FnBlocks.bits18 (fun HT_ HW_ => ?_)
               generalize wr.drew = w141 at BK274 BK280 BK286 BK287 BK291 HB hHeld ⊢
               refine pz_ 0 81 ba10_1 HT_ ?_
               refine pz_ 2 83 ba10_2 HT_ ?_
               refine pz_ 3 84 ba10_3 HT_ ?_
               refine pz_ 5 86 ba10_4 HT_ ?_
               refine pz_ 6 87 ba10_5 HT_ ?_
               refine pz_ 7 88 ba10_6 HT_ ?_
               refine pt_ 1 82 ba10_7 HT_ HW_ hHeld ?_
               refine one_ (i := 4) (N := some 85) ba10_8 rfl rfl (one_of HT_.out (by kernel_rfl)) (by decide) (fun K hK => ?_)
               refine gz_ Tryd.func15 #[.slice A0 l0.length c0, .int .i64 x11_3] ?_
               with_reducible refine (laws_at.calls _ _ l0 x11_3 t295 _ ?side1 ?side2 A135.out).mono ?_
               (case side1 => exact cb_ HR0 HB)
               (case side2 => exact HC0.out)
               rintro e w' ⟨rfl, ⟨nd, rfl⟩⟩
               refine ⟨_, rfl, ?_⟩
               refine hK.out _ _ ⟨(blk_cell BK274.out 0).trans rfl, (blk_cell BK274.out 1).trans rfl⟩ (fun hHeld => ?_)
               clear hK K
               refine nz_ 85 ?_
               refine one_ (i := 8) (N := some 89) ba10_9 rfl rfl (one_of HT_.out (by kernel_rfl)) (by decide) (fun K hK => ?_)
               refine gz_ Tryd.func15 #[.slice A0 l0.length c0, .int .i64 (wrap64 (x11_3 + 1))] ?_
               with_reducible refine (laws_at.calls _ _ l0 (wrap64 (x11_3 + 1)) t296 _ ?side1 ?side2 A136.out).mono ?_
               (case side1 => exact cc_ HR0 HB)
               (case side2 => exact HC0.out)
               rintro e w' ⟨rfl, ⟨nd, rfl⟩⟩
               refine ⟨_, rfl, ?_⟩
               refine hK.out _ _ ⟨(blk_cell BK274.out 0).trans rfl, (blk_cell BK274.out 1).trans rfl⟩ (fun hHeld => ?_)
               clear hK K
               refine nz_ 89 ?_
               refine pz_ 9 90 ba10_10 HT_ ?_
               refine pz_ 10 91 ba10_11 HT_ ?_
               refine pz_ 11 92 ba10_12 HT_ ?_
               refine pz_ 12 12 ba10_13 HT_ ?_
               refine done_ (done_of HT_.out (by kernel_rfl)) ?_
               try go_wp2
               (try (rw [drewN_self w141]; generalize hq_ : World.drewN w141 _ = w141; replace BK274 : Aside0 (w141.heap[gb274]? = some (.cells #[.int .i64 t272, .int .i64 t273] 25 (0, 0))) := ⟨by rw [← hq_]; exact (by (with_reducible repeat (first | refine blk_drewN ?_ _ | refine blk_drew ?_ | refine blk_alloc ?_ _)); exact BK274.out)⟩; replace BK280 : Aside0 (w141.heap[gb280]? = some (.cells #[.int .i64 t277, .int .i64 t278] 25 (0, 0))) := ⟨by rw [← hq_]; exact (by (with_reducible repeat (first | refine blk_drewN ?_ _ | refine blk_drew ?_ | refine blk_alloc ?_ _)); exact BK280.out)⟩; replace BK286 : Aside0 (w141.heap[gb286]? = some (.cells #[.int .i64 t281, .int .i64 t282] 25 (0, 0))) := ⟨by rw [← hq_]; exact (by (with_reducible repeat (first | refine blk_drewN ?_ _ | refine blk_drew ?_ | refine blk_alloc ?_ _)); exact BK286.out)⟩; replace BK287 : Aside0 (w141.heap[gb287]? = some (.cells #[.int .i64 t283, .int .i64 t284] 25 (0, 0))) := ⟨by rw [← hq_]; exact (by (with_reducible repeat (first | refine blk_drewN ?_ _ | refine blk_drew ?_ | refine blk_alloc ?_ _)); exact BK287.out)⟩; replace BK291 : Aside0 (w141.heap[gb291]? = some (.cells #[.int .i64 t288, .int .i64 t289] 25 (0, 0))) := ⟨by rw [← hq_]; exact (by (with_reducible repeat (first | refine blk_drewN ?_ _ | refine blk_drew ?_ | refine blk_alloc ?_ _)); exact BK291.out)⟩; replace HB : Aside0 (Below w.heap.size w w141) := ⟨by rw [← hq_]; exact (by repeat (first | (with_reducible first | exact HB.out | apply below_alloc | apply pw_below_drewN | apply below_drew1 | refine below_set ?_ GE274.out | refine below_set ?_ GE280.out | refine below_set ?_ GE286.out | refine below_set ?_ GE287.out | refine below_set ?_ GE291.out) | exact HB.out))⟩; clear hq_))
               (try (rw [drewN_self w141]; generalize hq_ : World.drewN w141 _ = w141; replace BK274 : Aside0 (w141.heap[gb274]? = some (.cells #[.int .i64 t272, .int .i64 t273] 25 (0, 0))) := ⟨by rw [← hq_]; exact (by (with_reducible repeat (first | refine blk_drewN ?_ _ | refine blk_drew ?_ | refine blk_alloc ?_ _)); exact BK274.out)⟩; replace BK280 : Aside0 (w141.heap[gb280]? = some (.cells #[.int .i64 t277, .int .i64 t278] 25 (0, 0))) := ⟨by rw [← hq_]; exact (by (with_reducible repeat (first | refine blk_drewN ?_ _ | refine blk_drew ?_ | refine blk_alloc ?_ _)); exact BK280.out)⟩; replace BK286 : Aside0 (w141.heap[gb286]? = some (.cells #[.int .i64 t281, .int .i64 t282] 25 (0, 0))) := ⟨by rw [← hq_]; exact (by (with_reducible repeat (first | refine blk_drewN ?_ _ | refine blk_drew ?_ | refine blk_alloc ?_ _)); exact BK286.out)⟩; replace BK287 : Aside0 (w141.heap[gb287]? = some (.cells #[.int .i64 t283, .int .i64 t284] 25 (0, 0))) := ⟨by rw [← hq_]; exact (by (with_reducible repeat (first | refine blk_drewN ?_ _ | refine blk_drew ?_ | refine blk_alloc ?_ _)); exact BK287.out)⟩; replace BK291 : Aside0 (w141.heap[gb291]? = some (.cells #[.int .i64 t288, .int .i64 t289] 25 (0, 0))) := ⟨by rw [← hq_]; exact (by (with_reducible repeat (first | refine blk_drewN ?_ _ | refine blk_drew ?_ | refine blk_alloc ?_ _)); exact BK291.out)⟩; replace HB : Aside0 (Below w.heap.size w w141) := ⟨by rw [← hq_]; exact (by repeat (first | (with_reducible first | exact HB.out | apply below_alloc | apply pw_below_drewN | apply below_drew1 | refine below_set ?_ GE274.out | refine below_set ?_ GE280.out | refine below_set ?_ GE286.out | refine below_set ?_ GE287.out | refine below_set ?_ GE291.out) | exact HB.out))⟩; clear hq_))
               replace BK274 := Aside0.mk (blk_drew BK274.out)
               replace BK280 := Aside0.mk (blk_drew BK280.out)
               replace BK286 := Aside0.mk (blk_drew BK286.out)
               replace BK287 := Aside0.mk (blk_drew BK287.out)
               replace BK291 := Aside0.mk (blk_drew BK291.out)
               replace HB := Aside0.mk (below_drew1 HB.out)
               refine start_ (n := 22) (S := fun w' => w'.cell? ⟨gb274, 0, none⟩ = some (.int .i64 t272) ∧ w'.cell? ⟨gb274, 1, none⟩ = some (.int .i64 t273) ∧ w'.cell? ⟨gb286, 0, none⟩ = some (.int .i64 t281) ∧ w'.cell? ⟨gb286, 1, none⟩ = some (.int .i64 t282)) (ds := []) ba10_14 (by kernel_rfl) rfl rfl ⟨(blk_cell BK274.out 0).trans rfl, (blk_cell BK274.out 1).trans rfl, (blk_cell BK286.out 0).trans rfl, (blk_cell BK286.out 1).trans rfl⟩ (fun hHeld => ?_); refine with_tabW laws_FnBlocks.tab19 laws_FnBlocks.bits19 (fun HT_ HW_ => ?_)
               generalize w141.drew = w142 at BK274 BK280 BK286 BK287 BK291 HB hHeld ⊢
               refine pz_ 1 94 ba10_15 HT_ ?_
               refine pz_ 4 97 ba10_16 HT_ ?_
               refine pt_ 0 93 ba10_17 HT_ HW_ hHeld ?_
               refine pt_ 3 96 ba10_18 HT_ HW_ hHeld ?_
               refine one_ (i := 2) (N := some 95) ba10_19 rfl rfl (one_of HT_.out (by kernel_rfl)) (by decide) (fun K hK => ?_)
               refine gz_ Tryd.func16 #[.agg #[.int .i64 t272, .int .i64 t273], .int .i64 (Int.tmod (wrap64 (t272 + (wrap64 (t295 * t296)))) 65536)] ?_
               with_reducible refine (impl_HasAddr.calls t272 t273 (Int.tmod (wrap64 (t272 + (wrap64 (t295 * t296)))) 65536) t297 _ A137.out).mono ?_
               rintro e w143 ⟨rfl, hb⟩
               refine ⟨_, rfl, ?_⟩
               replace BK274 := Aside0.mk (bb_ BK274 hb)
               replace BK280 := Aside0.mk (bb_ BK280 hb)
               replace BK286 := Aside0.mk (bb_ BK286 hb)
               replace BK287 := Aside0.mk (bb_ BK287 hb)
               replace BK291 := Aside0.mk (bb_ BK291 hb)
               replace HB := Aside0.mk (bt_ HB hb)
               (try clear hb)
               (try clear hb2)
               (try clear hk)
               (try clear hi)
               refine hK.out _ _ ⟨(blk_cell BK274.out 0).trans rfl, (blk_cell BK274.out 1).trans rfl, (blk_cell BK286.out 0).trans rfl, (blk_cell BK286.out 1).trans rfl⟩ (fun hHeld => ?_)
               clear hK K
               refine nz_ 95 ?_
               refine one_ (i := 5) (N := some 98) ba10_20 rfl rfl (one_of HT_.out (by kernel_rfl)) (by decide) (fun K hK => ?_)
               refine gz_ Tryd.func16 #[.agg #[.int .i64 t281, .int .i64 t282], .int .i64 (Int.tmod (wrap64 (t272 + (wrap64 (t295 * t296)))) 65536)] ?_
               with_reducible refine (impl_HasAddr.calls t281 t282 (Int.tmod (wrap64 (t272 + (wrap64 (t295 * t296)))) 65536) true _ A138.out).mono ?_
               rintro e w144 ⟨rfl, hb⟩
               refine ⟨_, rfl, ?_⟩
               replace BK274 := Aside0.mk (bb_ BK274 hb)
               replace BK280 := Aside0.mk (bb_ BK280 hb)
               replace BK286 := Aside0.mk (bb_ BK286 hb)
               replace BK287 := Aside0.mk (bb_ BK287 hb)
               replace BK291 := Aside0.mk (bb_ BK291 hb)
               replace HB := Aside0.mk (bt_ HB hb)
               (try clear hb)
               (try clear hb2)
               (try clear hk)
               (try clear hi)
               refine hK.out _ _ ⟨(blk_cell BK274.out 0).trans rfl, (blk_cell BK274.out 1).trans rfl, (blk_cell BK286.out 0).trans rfl, (blk_cell BK286.out 1).trans rfl⟩ (fun hHeld => ?_)
               clear hK K
               refine nz_ 98 ?_
               refine pz_ 6 99 ba10_21 HT_ ?_
               refine pu_ 7 100 ba10_22 HT_ ?_
               refine pu_ 8 101 ba10_23 HT_ ?_
               refine pu_ 9 102 ba10_24 HT_ ?_
               refine pz_ 10 103 ba10_25 HT_ ?_
               refine pz_ 11 104 ba10_26 HT_ ?_
               refine pz_ 12 105 ba10_27 HT_ ?_
               refine pu_ 13 106 ba10_28 HT_ ?_
               refine pu_ 14 107 ba10_29 HT_ ?_
               refine pu_ 15 108 ba10_30 HT_ ?_
               refine pu_ 16 109 ba10_31 HT_ ?_
               refine pu_ 17 110 ba10_32 HT_ ?_
               refine pu_ 18 111 ba10_33 HT_ ?_
               refine pu_ 19 112 ba10_34 HT_ ?_
               refine pu_ 20 113 ba10_35 HT_ ?_
               refine pz_ 21 114 ba10_36 HT_ ?_
               refine done_ (done_of HT_.out (by kernel_rfl)) ?_
               try go_wp2
               go_ret
               exact ⟨by first | rfl | (simp [errW_none, errW_some] <;> rfl) | (simp [*, errW_none, errW_some] <;> rfl), by repeat (first | (with_reducible first | exact HB.out | apply below_alloc | apply pw_below_drewN | apply below_drew1 | refine below_set ?_ GE274.out | refine below_set ?_ GE280.out | refine below_set ?_ GE286.out | refine below_set ?_ GE287.out | refine below_set ?_ GE291.out) | exact HB.out)⟩
              ·rw [if_neg c140] at H
               have c140b0 : (t297 != true) = false := by simpa using c140
               (try (have c140b1 : decide (t297 = true) = true := by simpa using c140))
               (try (have c140b2 : (t297 == true) = true := by simpa using c140))
               clear c140
               replace H := Option.bind_eq_some_iff.mp H
               obtain ⟨t299, A1450, H⟩ := H
               have A145 := Aside0.mk A1450
               clear A1450
               by_cases c146 : t299 = true
               ·subst c146
                rw [if_pos rfl] at H
                replace H := Option.bind_eq_some_iff.mp H
                obtain ⟨t300, A1470, H⟩ := H
                have A147 := Aside0.mk A1470
                clear A1470
                by_cases c148 : t300 = true
                ·subst c148
                 rw [if_pos rfl] at H
                 obtain rfl := Option.some.inj H
                 try go_wp2
                 replace BK274 := Aside0.mk (blk_drew BK274.out)
                 replace BK280 := Aside0.mk (blk_drew BK280.out)
                 replace BK286 := Aside0.mk (blk_drew BK286.out)
                 replace BK287 := Aside0.mk (blk_drew BK287.out)
                 replace BK291 := Aside0.mk (blk_drew BK291.out)
                 replace HB := Aside0.mk (below_drew1 HB.out)
                 refine start_ (n := 13) (S := fun w' => w'.cell? ⟨gb274, 0, none⟩ = some (.int .i64 t272) ∧ w'.cell? ⟨gb274, 1, none⟩ = some (.int .i64 t273)) (ds := []) ba10_0 (by kernel_rfl) rfl rfl ⟨(blk_cell BK274.out 0).trans rfl, (blk_cell BK274.out 1).trans rfl⟩ (fun hHeld => ?_); refine with_tabW laws_FnBlocks.tab18 laws_FnBlocks.bits18 (fun HT_ HW_ => ?_)
                 generalize wr.drew = w149 at BK274 BK280 BK286 BK287 BK291 HB hHeld ⊢
                 refine pz_ 0 81 ba10_1 HT_ ?_
                 refine pz_ 2 83 ba10_2 HT_ ?_
                 refine pz_ 3 84 ba10_3 HT_ ?_
                 refine pz_ 5 86 ba10_4 HT_ ?_
                 refine pz_ 6 87 ba10_5 HT_ ?_
                 refine pz_ 7 88 ba10_6 HT_ ?_
                 refine pt_ 1 82 ba10_7 HT_ HW_ hHeld ?_
                 refine one_ (i := 4) (N := some 85) ba10_8 rfl rfl (one_of HT_.out (by kernel_rfl)) (by decide) (fun K hK => ?_)
                 refine gz_ Tryd.func15 #[.slice A0 l0.length c0, .int .i64 x11_3] ?_
                 with_reducible refine (laws_at.calls _ _ l0 x11_3 t295 _ ?side1 ?side2 A135.out).mono ?_
                 (case side1 => exact cb_ HR0 HB)
                 (case side2 => exact HC0.out)
                 rintro e w' ⟨rfl, ⟨nd, rfl⟩⟩
                 refine ⟨_, rfl, ?_⟩
                 refine hK.out _ _ ⟨(blk_cell BK274.out 0).trans rfl, (blk_cell BK274.out 1).trans rfl⟩ (fun hHeld => ?_)
                 clear hK K
                 refine nz_ 85 ?_
                 refine one_ (i := 8) (N := some 89) ba10_9 rfl rfl (one_of HT_.out (by kernel_rfl)) (by decide) (fun K hK => ?_)
                 refine gz_ Tryd.func15 #[.slice A0 l0.length c0, .int .i64 (wrap64 (x11_3 + 1))] ?_
                 with_reducible refine (laws_at.calls _ _ l0 (wrap64 (x11_3 + 1)) t296 _ ?side1 ?side2 A136.out).mono ?_
                 (case side1 => exact cc_ HR0 HB)
                 (case side2 => exact HC0.out)
                 rintro e w' ⟨rfl, ⟨nd, rfl⟩⟩
                 refine ⟨_, rfl, ?_⟩
                 refine hK.out _ _ ⟨(blk_cell BK274.out 0).trans rfl, (blk_cell BK274.out 1).trans rfl⟩ (fun hHeld => ?_)
                 clear hK K
                 refine nz_ 89 ?_
                 refine pz_ 9 90 ba10_10 HT_ ?_
                 refine pz_ 10 91 ba10_11 HT_ ?_
                 refine pz_ 11 92 ba10_12 HT_ ?_
                 refine pz_ 12 12 ba10_13 HT_ ?_
                 refine done_ (done_of HT_.out (by kernel_rfl)) ?_
                 try go_wp2
                 (try (rw [drewN_self w149]; generalize hq_ : World.drewN w149 _ = w149; replace BK274 : Aside0 (w149.heap[gb274]? = some (.cells #[.int .i64 t272, .int .i64 t273] 25 (0, 0))) := ⟨by rw [← hq_]; exact (by (with_reducible repeat (first | refine blk_drewN ?_ _ | refine blk_drew ?_ | refine blk_alloc ?_ _)); exact BK274.out)⟩; replace BK280 : Aside0 (w149.heap[gb280]? = some (.cells #[.int .i64 t277, .int .i64 t278] 25 (0, 0))) := ⟨by rw [← hq_]; exact (by (with_reducible repeat (first | refine blk_drewN ?_ _ | refine blk_drew ?_ | refine blk_alloc ?_ _)); exact BK280.out)⟩; replace BK286 : Aside0 (w149.heap[gb286]? = some (.cells #[.int .i64 t281, .int .i64 t282] 25 (0, 0))) := ⟨by rw [← hq_]; exact (by (with_reducible repeat (first | refine blk_drewN ?_ _ | refine blk_drew ?_ | refine blk_alloc ?_ _)); exact BK286.out)⟩; replace BK287 : Aside0 (w149.heap[gb287]? = some (.cells #[.int .i64 t283, .int .i64 t284] 25 (0, 0))) := ⟨by rw [← hq_]; exact (by (with_reducible repeat (first | refine blk_drewN ?_ _ | refine blk_drew ?_ | refine blk_alloc ?_ _)); exact BK287.out)⟩; replace BK291 : Aside0 (w149.heap[gb291]? = some (.cells #[.int .i64 t288, .int .i64 t289] 25 (0, 0))) := ⟨by rw [← hq_]; exact (by (with_reducible repeat (first | refine blk_drewN ?_ _ | refine blk_drew ?_ | refine blk_alloc ?_ _)); exact BK291.out)⟩; replace HB : Aside0 (Below w.heap.size w w149) := ⟨by rw [← hq_]; exact (by repeat (first | (with_reducible first | exact HB.out | apply below_alloc | apply pw_below_drewN | apply below_drew1 | refine below_set ?_ GE274.out | refine below_set ?_ GE280.out | refine below_set ?_ GE286.out | refine below_set ?_ GE287.out | refine below_set ?_ GE291.out) | exact HB.out))⟩; clear hq_))
                 (try (rw [drewN_self w149]; generalize hq_ : World.drewN w149 _ = w149; replace BK274 : Aside0 (w149.heap[gb274]? = some (.cells #[.int .i64 t272, .int .i64 t273] 25 (0, 0))) := ⟨by rw [← hq_]; exact (by (with_reducible repeat (first | refine blk_drewN ?_ _ | refine blk_drew ?_ | refine blk_alloc ?_ _)); exact BK274.out)⟩; replace BK280 : Aside0 (w149.heap[gb280]? = some (.cells #[.int .i64 t277, .int .i64 t278] 25 (0, 0))) := ⟨by rw [← hq_]; exact (by (with_reducible repeat (first | refine blk_drewN ?_ _ | refine blk_drew ?_ | refine blk_alloc ?_ _)); exact BK280.out)⟩; replace BK286 : Aside0 (w149.heap[gb286]? = some (.cells #[.int .i64 t281, .int .i64 t282] 25 (0, 0))) := ⟨by rw [← hq_]; exact (by (with_reducible repeat (first | refine blk_drewN ?_ _ | refine blk_drew ?_ | refine blk_alloc ?_ _)); exact BK286.out)⟩; replace BK287 : Aside0 (w149.heap[gb287]? = some (.cells #[.int .i64 t283, .int .i64 t284] 25 (0, 0))) := ⟨by rw [← hq_]; exact (by (with_reducible repeat (first | refine blk_drewN ?_ _ | refine blk_drew ?_ | refine blk_alloc ?_ _)); exact BK287.out)⟩; replace BK291 : Aside0 (w149.heap[gb291]? = some (.cells #[.int .i64 t288, .int .i64 t289] 25 (0, 0))) := ⟨by rw [← hq_]; exact (by (with_reducible repeat (first | refine blk_drewN ?_ _ | refine blk_drew ?_ | refine blk_alloc ?_ _)); exact BK291.out)⟩; replace HB : Aside0 (Below w.heap.size w w149) := ⟨by rw [← hq_]; exact (by repeat (first | (with_reducible first | exact HB.out | apply below_alloc | apply pw_below_drewN | apply below_drew1 | refine below_set ?_ GE274.out | refine below_set ?_ GE280.out | refine below_set ?_ GE286.out | refine below_set ?_ GE287.out | refine below_set ?_ GE291.out) | exact HB.out))⟩; clear hq_))
                 replace BK274 := Aside0.mk (blk_drew BK274.out)
                 replace BK280 := Aside0.mk (blk_drew BK280.out)
                 replace BK286 := Aside0.mk (blk_drew BK286.out)
                 replace BK287 := Aside0.mk (blk_drew BK287.out)
                 replace BK291 := Aside0.mk (blk_drew BK291.out)
                 replace HB := Aside0.mk (below_drew1 HB.out)
                 refine start_ (n := 22) (S := fun w' => w'.cell? ⟨gb274, 0, none⟩ = some (.int .i64 t272) ∧ w'.cell? ⟨gb274, 1, none⟩ = some (.int .i64 t273) ∧ w'.cell? ⟨gb286, 0, none⟩ = some (.int .i64 t281) ∧ w'.cell? ⟨gb286, 1, none⟩ = some (.int .i64 t282) ∧ w'.cell? ⟨gb287, 0, none⟩ = some (.int .i64 t283) ∧ w'.cell? ⟨gb287, 1, none⟩ = some (.int .i64 t284)) (ds := []) ba10_14 (by kernel_rfl) rfl rfl ⟨(blk_cell BK274.out 0).trans rfl, (blk_cell BK274.out 1).trans rfl, (blk_cell BK286.out 0).trans rfl, (blk_cell BK286.out 1).trans rfl, (blk_cell BK287.out 0).trans rfl, (blk_cell BK287.out 1).trans rfl⟩ (fun hHeld => ?_); refine with_tabW laws_FnBlocks.tab19 laws_FnBlocks.bits19 (fun HT_ HW_ => ?_)
                 generalize w149.drew = w150 at BK274 BK280 BK286 BK287 BK291 HB hHeld ⊢
                 refine pz_ 1 94 ba10_15 HT_ ?_
                 refine pz_ 4 97 ba10_16 HT_ ?_
                 refine pt_ 0 93 ba10_17 HT_ HW_ hHeld ?_
                 refine pt_ 3 96 ba10_18 HT_ HW_ hHeld ?_
                 refine one_ (i := 2) (N := some 95) ba10_19 rfl rfl (one_of HT_.out (by kernel_rfl)) (by decide) (fun K hK => ?_)
                 refine gz_ Tryd.func16 #[.agg #[.int .i64 t272, .int .i64 t273], .int .i64 (Int.tmod (wrap64 (t272 + (wrap64 (t295 * t296)))) 65536)] ?_
                 with_reducible refine (impl_HasAddr.calls t272 t273 (Int.tmod (wrap64 (t272 + (wrap64 (t295 * t296)))) 65536) t297 _ A137.out).mono ?_
                 rintro e w151 ⟨rfl, hb⟩
                 refine ⟨_, rfl, ?_⟩
                 replace BK274 := Aside0.mk (bb_ BK274 hb)
                 replace BK280 := Aside0.mk (bb_ BK280 hb)
                 replace BK286 := Aside0.mk (bb_ BK286 hb)
                 replace BK287 := Aside0.mk (bb_ BK287 hb)
                 replace BK291 := Aside0.mk (bb_ BK291 hb)
                 replace HB := Aside0.mk (bt_ HB hb)
                 (try clear hb)
                 (try clear hb2)
                 (try clear hk)
                 (try clear hi)
                 refine hK.out _ _ ⟨(blk_cell BK274.out 0).trans rfl, (blk_cell BK274.out 1).trans rfl, (blk_cell BK286.out 0).trans rfl, (blk_cell BK286.out 1).trans rfl, (blk_cell BK287.out 0).trans rfl, (blk_cell BK287.out 1).trans rfl⟩ (fun hHeld => ?_)
                 clear hK K
                 refine nz_ 95 ?_
                 refine one_ (i := 5) (N := some 98) ba10_20 rfl rfl (one_of HT_.out (by kernel_rfl)) (by decide) (fun K hK => ?_)
                 refine gz_ Tryd.func16 #[.agg #[.int .i64 t281, .int .i64 t282], .int .i64 (Int.tmod (wrap64 (t272 + (wrap64 (t295 * t296)))) 65536)] ?_
                 with_reducible refine (impl_HasAddr.calls t281 t282 (Int.tmod (wrap64 (t272 + (wrap64 (t295 * t296)))) 65536) true _ A138.out).mono ?_
                 rintro e w152 ⟨rfl, hb⟩
                 refine ⟨_, rfl, ?_⟩
                 replace BK274 := Aside0.mk (bb_ BK274 hb)
                 replace BK280 := Aside0.mk (bb_ BK280 hb)
                 replace BK286 := Aside0.mk (bb_ BK286 hb)
                 replace BK287 := Aside0.mk (bb_ BK287 hb)
                 replace BK291 := Aside0.mk (bb_ BK291 hb)
                 replace HB := Aside0.mk (bt_ HB hb)
                 (try clear hb)
                 (try clear hb2)
                 (try clear hk)
                 (try clear hi)
                 refine hK.out _ _ ⟨(blk_cell BK274.out 0).trans rfl, (blk_cell BK274.out 1).trans rfl, (blk_cell BK286.out 0).trans rfl, (blk_cell BK286.out 1).trans rfl, (blk_cell BK287.out 0).trans rfl, (blk_cell BK287.out 1).trans rfl⟩ (fun hHeld => ?_)
                 clear hK K
                 refine nz_ 98 ?_
                 refine pz_ 6 99 ba10_21 HT_ ?_
                 refine pu_ 7 100 ba10_22 HT_ ?_
                 refine pu_ 8 101 ba10_23 HT_ ?_
                 refine pu_ 9 102 ba10_24 HT_ ?_
                 refine pz_ 10 103 ba10_25 HT_ ?_
                 refine pz_ 11 104 ba10_26 HT_ ?_
                 refine pz_ 12 105 ba10_27 HT_ ?_
                 refine pz_ 14 107 ba10_37 HT_ ?_
                 refine pt_ 13 106 ba10_29 HT_ HW_ hHeld ?_
                 refine one_ (i := 15) (N := some 108) ba10_30 rfl rfl (one_of HT_.out (by kernel_rfl)) (by decide) (fun K hK => ?_)
                 refine gz_ Tryd.func16 #[.agg #[.int .i64 t281, .int .i64 t282], .int .i64 (Int.tmod (wrap64 (t272 + (wrap64 (t295 * t296)))) 65536)] ?_
                 with_reducible refine (impl_HasAddr.calls t281 t282 (Int.tmod (wrap64 (t272 + (wrap64 (t295 * t296)))) 65536) true _ A145.out).mono ?_
                 rintro e w153 ⟨rfl, hb⟩
                 refine ⟨_, rfl, ?_⟩
                 replace BK274 := Aside0.mk (bb_ BK274 hb)
                 replace BK280 := Aside0.mk (bb_ BK280 hb)
                 replace BK286 := Aside0.mk (bb_ BK286 hb)
                 replace BK287 := Aside0.mk (bb_ BK287 hb)
                 replace BK291 := Aside0.mk (bb_ BK291 hb)
                 replace HB := Aside0.mk (bt_ HB hb)
                 (try clear hb)
                 (try clear hb2)
                 (try clear hk)
                 (try clear hi)
                 refine hK.out _ _ ⟨(blk_cell BK274.out 0).trans rfl, (blk_cell BK274.out 1).trans rfl, (blk_cell BK286.out 0).trans rfl, (blk_cell BK286.out 1).trans rfl, (blk_cell BK287.out 0).trans rfl, (blk_cell BK287.out 1).trans rfl⟩ (fun hHeld => ?_)
                 clear hK K
                 refine nz_ 108 ?_
                 refine pz_ 16 109 ba10_31 HT_ ?_
                 refine pz_ 18 111 ba10_38 HT_ ?_
                 refine pt_ 17 110 ba10_33 HT_ HW_ hHeld ?_
                 refine one_ (i := 19) (N := some 112) ba10_34 rfl rfl (one_of HT_.out (by kernel_rfl)) (by decide) (fun K hK => ?_)
                 refine gz_ Tryd.func16 #[.agg #[.int .i64 t283, .int .i64 t284], .int .i64 (Int.tmod (wrap64 (t272 + (wrap64 (t295 * t296)))) 65536)] ?_
                 with_reducible refine (impl_HasAddr.calls t283 t284 (Int.tmod (wrap64 (t272 + (wrap64 (t295 * t296)))) 65536) true _ A147.out).mono ?_
                 rintro e w154 ⟨rfl, hb⟩
                 refine ⟨_, rfl, ?_⟩
                 replace BK274 := Aside0.mk (bb_ BK274 hb)
                 replace BK280 := Aside0.mk (bb_ BK280 hb)
                 replace BK286 := Aside0.mk (bb_ BK286 hb)
                 replace BK287 := Aside0.mk (bb_ BK287 hb)
                 replace BK291 := Aside0.mk (bb_ BK291 hb)
                 replace HB := Aside0.mk (bt_ HB hb)
                 (try clear hb)
                 (try clear hb2)
                 (try clear hk)
                 (try clear hi)
                 refine hK.out _ _ ⟨(blk_cell BK274.out 0).trans rfl, (blk_cell BK274.out 1).trans rfl, (blk_cell BK286.out 0).trans rfl, (blk_cell BK286.out 1).trans rfl, (blk_cell BK287.out 0).trans rfl, (blk_cell BK287.out 1).trans rfl⟩ (fun hHeld => ?_)
                 clear hK K
                 refine nz_ 112 ?_
                 refine pz_ 20 113 ba10_35 HT_ ?_
                 refine pz_ 21 114 ba10_36 HT_ ?_
                 refine done_ (done_of HT_.out (by kernel_rfl)) ?_
                 try go_wp2
                 go_ret
                 exact ⟨by first | rfl | (simp [errW_none, errW_some] <;> rfl) | (simp [*, errW_none, errW_some] <;> rfl), by repeat (first | (with_reducible first | exact HB.out | apply below_alloc | apply pw_below_drewN | apply below_drew1 | refine below_set ?_ GE274.out | refine below_set ?_ GE280.out | refine below_set ?_ GE286.out | refine below_set ?_ GE287.out | refine below_set ?_ GE291.out) | exact HB.out)⟩
                ·replace c148 := Bool.eq_false_iff.mpr c148
                 subst c148
                 rw [if_neg (show ¬ (false = true) by decide)] at H
                 have H' := Aside0.mk H
                 clear H
                 try go_wp2
                 replace BK274 := Aside0.mk (blk_drew BK274.out)
                 replace BK280 := Aside0.mk (blk_drew BK280.out)
                 replace BK286 := Aside0.mk (blk_drew BK286.out)
                 replace BK287 := Aside0.mk (blk_drew BK287.out)
                 replace BK291 := Aside0.mk (blk_drew BK291.out)
                 replace HB := Aside0.mk (below_drew1 HB.out)
                 refine start_ (n := 13) (S := fun w' => w'.cell? ⟨gb274, 0, none⟩ = some (.int .i64 t272) ∧ w'.cell? ⟨gb274, 1, none⟩ = some (.int .i64 t273)) (ds := []) ba10_0 (by kernel_rfl) rfl rfl ⟨(blk_cell BK274.out 0).trans rfl, (blk_cell BK274.out 1).trans rfl⟩ (fun hHeld => ?_); refine with_tabW laws_FnBlocks.tab18 laws_FnBlocks.bits18 (fun HT_ HW_ => ?_)
                 generalize wr.drew = w155 at BK274 BK280 BK286 BK287 BK291 HB hHeld ⊢
                 refine pz_ 0 81 ba10_1 HT_ ?_
                 refine pz_ 2 83 ba10_2 HT_ ?_
                 refine pz_ 3 84 ba10_3 HT_ ?_
                 refine pz_ 5 86 ba10_4 HT_ ?_
                 refine pz_ 6 87 ba10_5 HT_ ?_
                 refine pz_ 7 88 ba10_6 HT_ ?_
                 refine pt_ 1 82 ba10_7 HT_ HW_ hHeld ?_
                 refine one_ (i := 4) (N := some 85) ba10_8 rfl rfl (one_of HT_.out (by kernel_rfl)) (by decide) (fun K hK => ?_)
                 refine gz_ Tryd.func15 #[.slice A0 l0.length c0, .int .i64 x11_3] ?_
                 with_reducible refine (laws_at.calls _ _ l0 x11_3 t295 _ ?side1 ?side2 A135.out).mono ?_
                 (case side1 => exact cb_ HR0 HB)
                 (case side2 => exact HC0.out)
                 rintro e w' ⟨rfl, ⟨nd, rfl⟩⟩
                 refine ⟨_, rfl, ?_⟩
                 refine hK.out _ _ ⟨(blk_cell BK274.out 0).trans rfl, (blk_cell BK274.out 1).trans rfl⟩ (fun hHeld => ?_)
                 clear hK K
                 refine nz_ 85 ?_
                 refine one_ (i := 8) (N := some 89) ba10_9 rfl rfl (one_of HT_.out (by kernel_rfl)) (by decide) (fun K hK => ?_)
                 refine gz_ Tryd.func15 #[.slice A0 l0.length c0, .int .i64 (wrap64 (x11_3 + 1))] ?_
                 with_reducible refine (laws_at.calls _ _ l0 (wrap64 (x11_3 + 1)) t296 _ ?side1 ?side2 A136.out).mono ?_
                 (case side1 => exact cc_ HR0 HB)
                 (case side2 => exact HC0.out)
                 rintro e w' ⟨rfl, ⟨nd, rfl⟩⟩
                 refine ⟨_, rfl, ?_⟩
                 refine hK.out _ _ ⟨(blk_cell BK274.out 0).trans rfl, (blk_cell BK274.out 1).trans rfl⟩ (fun hHeld => ?_)
                 clear hK K
                 refine nz_ 89 ?_
                 refine pz_ 9 90 ba10_10 HT_ ?_
                 refine pz_ 10 91 ba10_11 HT_ ?_
                 refine pz_ 11 92 ba10_12 HT_ ?_
                 refine pz_ 12 12 ba10_13 HT_ ?_
                 refine done_ (done_of HT_.out (by kernel_rfl)) ?_
                 try go_wp2
                 (try (rw [drewN_self w155]; generalize hq_ : World.drewN w155 _ = w155; replace BK274 : Aside0 (w155.heap[gb274]? = some (.cells #[.int .i64 t272, .int .i64 t273] 25 (0, 0))) := ⟨by rw [← hq_]; exact (by (with_reducible repeat (first | refine blk_drewN ?_ _ | refine blk_drew ?_ | refine blk_alloc ?_ _)); exact BK274.out)⟩; replace BK280 : Aside0 (w155.heap[gb280]? = some (.cells #[.int .i64 t277, .int .i64 t278] 25 (0, 0))) := ⟨by rw [← hq_]; exact (by (with_reducible repeat (first | refine blk_drewN ?_ _ | refine blk_drew ?_ | refine blk_alloc ?_ _)); exact BK280.out)⟩; replace BK286 : Aside0 (w155.heap[gb286]? = some (.cells #[.int .i64 t281, .int .i64 t282] 25 (0, 0))) := ⟨by rw [← hq_]; exact (by (with_reducible repeat (first | refine blk_drewN ?_ _ | refine blk_drew ?_ | refine blk_alloc ?_ _)); exact BK286.out)⟩; replace BK287 : Aside0 (w155.heap[gb287]? = some (.cells #[.int .i64 t283, .int .i64 t284] 25 (0, 0))) := ⟨by rw [← hq_]; exact (by (with_reducible repeat (first | refine blk_drewN ?_ _ | refine blk_drew ?_ | refine blk_alloc ?_ _)); exact BK287.out)⟩; replace BK291 : Aside0 (w155.heap[gb291]? = some (.cells #[.int .i64 t288, .int .i64 t289] 25 (0, 0))) := ⟨by rw [← hq_]; exact (by (with_reducible repeat (first | refine blk_drewN ?_ _ | refine blk_drew ?_ | refine blk_alloc ?_ _)); exact BK291.out)⟩; replace HB : Aside0 (Below w.heap.size w w155) := ⟨by rw [← hq_]; exact (by repeat (first | (with_reducible first | exact HB.out | apply below_alloc | apply pw_below_drewN | apply below_drew1 | refine below_set ?_ GE274.out | refine below_set ?_ GE280.out | refine below_set ?_ GE286.out | refine below_set ?_ GE287.out | refine below_set ?_ GE291.out) | exact HB.out))⟩; clear hq_))
                 (try (rw [drewN_self w155]; generalize hq_ : World.drewN w155 _ = w155; replace BK274 : Aside0 (w155.heap[gb274]? = some (.cells #[.int .i64 t272, .int .i64 t273] 25 (0, 0))) := ⟨by rw [← hq_]; exact (by (with_reducible repeat (first | refine blk_drewN ?_ _ | refine blk_drew ?_ | refine blk_alloc ?_ _)); exact BK274.out)⟩; replace BK280 : Aside0 (w155.heap[gb280]? = some (.cells #[.int .i64 t277, .int .i64 t278] 25 (0, 0))) := ⟨by rw [← hq_]; exact (by (with_reducible repeat (first | refine blk_drewN ?_ _ | refine blk_drew ?_ | refine blk_alloc ?_ _)); exact BK280.out)⟩; replace BK286 : Aside0 (w155.heap[gb286]? = some (.cells #[.int .i64 t281, .int .i64 t282] 25 (0, 0))) := ⟨by rw [← hq_]; exact (by (with_reducible repeat (first | refine blk_drewN ?_ _ | refine blk_drew ?_ | refine blk_alloc ?_ _)); exact BK286.out)⟩; replace BK287 : Aside0 (w155.heap[gb287]? = some (.cells #[.int .i64 t283, .int .i64 t284] 25 (0, 0))) := ⟨by rw [← hq_]; exact (by (with_reducible repeat (first | refine blk_drewN ?_ _ | refine blk_drew ?_ | refine blk_alloc ?_ _)); exact BK287.out)⟩; replace BK291 : Aside0 (w155.heap[gb291]? = some (.cells #[.int .i64 t288, .int .i64 t289] 25 (0, 0))) := ⟨by rw [← hq_]; exact (by (with_reducible repeat (first | refine blk_drewN ?_ _ | refine blk_drew ?_ | refine blk_alloc ?_ _)); exact BK291.out)⟩; replace HB : Aside0 (Below w.heap.size w w155) := ⟨by rw [← hq_]; exact (by repeat (first | (with_reducible first | exact HB.out | apply below_alloc | apply pw_below_drewN | apply below_drew1 | refine below_set ?_ GE274.out | refine below_set ?_ GE280.out | refine below_set ?_ GE286.out | refine below_set ?_ GE287.out | refine below_set ?_ GE291.out) | exact HB.out))⟩; clear hq_))
                 replace BK274 := Aside0.mk (blk_drew BK274.out)
                 replace BK280 := Aside0.mk (blk_drew BK280.out)
                 replace BK286 := Aside0.mk (blk_drew BK286.out)
                 replace BK287 := Aside0.mk (blk_drew BK287.out)
                 replace BK291 := Aside0.mk (blk_drew BK291.out)
                 replace HB := Aside0.mk (below_drew1 HB.out)
                 refine start_ (n := 22) (S := fun w' => w'.cell? ⟨gb274, 0, none⟩ = some (.int .i64 t272) ∧ w'.cell? ⟨gb274, 1, none⟩ = some (.int .i64 t273) ∧ w'.cell? ⟨gb286, 0, none⟩ = some (.int .i64 t281) ∧ w'.cell? ⟨gb286, 1, none⟩ = some (.int .i64 t282) ∧ w'.cell? ⟨gb287, 0, none⟩ = some (.int .i64 t283) ∧ w'.cell? ⟨gb287, 1, none⟩ = some (.int .i64 t284)) (ds := []) ba10_14 (by kernel_rfl) rfl rfl ⟨(blk_cell BK274.out 0).trans rfl, (blk_cell BK274.out 1).trans rfl, (blk_cell BK286.out 0).trans rfl, (blk_cell BK286.out 1).trans rfl, (blk_cell BK287.out 0).trans rfl, (blk_cell BK287.out 1).trans rfl⟩ (fun hHeld => ?_); refine with_tabW laws_FnBlocks.tab19 laws_FnBlocks.bits19 (fun HT_ HW_ => ?_)
                 generalize w155.drew = w156 at BK274 BK280 BK286 BK287 BK291 HB hHeld ⊢
                 refine pz_ 1 94 ba10_15 HT_ ?_
                 refine pz_ 4 97 ba10_16 HT_ ?_
                 refine pt_ 0 93 ba10_17 HT_ HW_ hHeld ?_
                 refine pt_ 3 96 ba10_18 HT_ HW_ hHeld ?_
                 refine one_ (i := 2) (N := some 95) ba10_19 rfl rfl (one_of HT_.out (by kernel_rfl)) (by decide) (fun K hK => ?_)
                 refine gz_ Tryd.func16 #[.agg #[.int .i64 t272, .int .i64 t273], .int .i64 (Int.tmod (wrap64 (t272 + (wrap64 (t295 * t296)))) 65536)] ?_
                 with_reducible refine (impl_HasAddr.calls t272 t273 (Int.tmod (wrap64 (t272 + (wrap64 (t295 * t296)))) 65536) t297 _ A137.out).mono ?_
                 rintro e w157 ⟨rfl, hb⟩
                 refine ⟨_, rfl, ?_⟩
                 replace BK274 := Aside0.mk (bb_ BK274 hb)
                 replace BK280 := Aside0.mk (bb_ BK280 hb)
                 replace BK286 := Aside0.mk (bb_ BK286 hb)
                 replace BK287 := Aside0.mk (bb_ BK287 hb)
                 replace BK291 := Aside0.mk (bb_ BK291 hb)
                 replace HB := Aside0.mk (bt_ HB hb)
                 (try clear hb)
                 (try clear hb2)
                 (try clear hk)
                 (try clear hi)
                 refine hK.out _ _ ⟨(blk_cell BK274.out 0).trans rfl, (blk_cell BK274.out 1).trans rfl, (blk_cell BK286.out 0).trans rfl, (blk_cell BK286.out 1).trans rfl, (blk_cell BK287.out 0).trans rfl, (blk_cell BK287.out 1).trans rfl⟩ (fun hHeld => ?_)
                 clear hK K
                 refine nz_ 95 ?_
                 refine one_ (i := 5) (N := some 98) ba10_20 rfl rfl (one_of HT_.out (by kernel_rfl)) (by decide) (fun K hK => ?_)
                 refine gz_ Tryd.func16 #[.agg #[.int .i64 t281, .int .i64 t282], .int .i64 (Int.tmod (wrap64 (t272 + (wrap64 (t295 * t296)))) 65536)] ?_
                 with_reducible refine (impl_HasAddr.calls t281 t282 (Int.tmod (wrap64 (t272 + (wrap64 (t295 * t296)))) 65536) true _ A138.out).mono ?_
                 rintro e w158 ⟨rfl, hb⟩
                 refine ⟨_, rfl, ?_⟩
                 replace BK274 := Aside0.mk (bb_ BK274 hb)
                 replace BK280 := Aside0.mk (bb_ BK280 hb)
                 replace BK286 := Aside0.mk (bb_ BK286 hb)
                 replace BK287 := Aside0.mk (bb_ BK287 hb)
                 replace BK291 := Aside0.mk (bb_ BK291 hb)
                 replace HB := Aside0.mk (bt_ HB hb)
                 (try clear hb)
                 (try clear hb2)
                 (try clear hk)
                 (try clear hi)
                 refine hK.out _ _ ⟨(blk_cell BK274.out 0).trans rfl, (blk_cell BK274.out 1).trans rfl, (blk_cell BK286.out 0).trans rfl, (blk_cell BK286.out 1).trans rfl, (blk_cell BK287.out 0).trans rfl, (blk_cell BK287.out 1).trans rfl⟩ (fun hHeld => ?_)
                 clear hK K
                 refine nz_ 98 ?_
                 refine pz_ 6 99 ba10_21 HT_ ?_
                 refine pu_ 7 100 ba10_22 HT_ ?_
                 refine pu_ 8 101 ba10_23 HT_ ?_
                 refine pu_ 9 102 ba10_24 HT_ ?_
                 refine pz_ 10 103 ba10_25 HT_ ?_
                 refine pz_ 11 104 ba10_26 HT_ ?_
                 refine pz_ 12 105 ba10_27 HT_ ?_
                 refine pz_ 14 107 ba10_37 HT_ ?_
                 refine pt_ 13 106 ba10_29 HT_ HW_ hHeld ?_
                 refine one_ (i := 15) (N := some 108) ba10_30 rfl rfl (one_of HT_.out (by kernel_rfl)) (by decide) (fun K hK => ?_)
                 refine gz_ Tryd.func16 #[.agg #[.int .i64 t281, .int .i64 t282], .int .i64 (Int.tmod (wrap64 (t272 + (wrap64 (t295 * t296)))) 65536)] ?_
                 with_reducible refine (impl_HasAddr.calls t281 t282 (Int.tmod (wrap64 (t272 + (wrap64 (t295 * t296)))) 65536) true _ A145.out).mono ?_
                 rintro e w159 ⟨rfl, hb⟩
                 refine ⟨_, rfl, ?_⟩
                 replace BK274 := Aside0.mk (bb_ BK274 hb)
                 replace BK280 := Aside0.mk (bb_ BK280 hb)
                 replace BK286 := Aside0.mk (bb_ BK286 hb)
                 replace BK287 := Aside0.mk (bb_ BK287 hb)
                 replace BK291 := Aside0.mk (bb_ BK291 hb)
                 replace HB := Aside0.mk (bt_ HB hb)
                 (try clear hb)
                 (try clear hb2)
                 (try clear hk)
                 (try clear hi)
                 refine hK.out _ _ ⟨(blk_cell BK274.out 0).trans rfl, (blk_cell BK274.out 1).trans rfl, (blk_cell BK286.out 0).trans rfl, (blk_cell BK286.out 1).trans rfl, (blk_cell BK287.out 0).trans rfl, (blk_cell BK287.out 1).trans rfl⟩ (fun hHeld => ?_)
                 clear hK K
                 refine nz_ 108 ?_
                 refine pz_ 16 109 ba10_31 HT_ ?_
                 refine pz_ 18 111 ba10_38 HT_ ?_
                 refine pt_ 17 110 ba10_33 HT_ HW_ hHeld ?_
                 refine one_ (i := 19) (N := some 112) ba10_34 rfl rfl (one_of HT_.out (by kernel_rfl)) (by decide) (fun K hK => ?_)
                 refine gz_ Tryd.func16 #[.agg #[.int .i64 t283, .int .i64 t284], .int .i64 (Int.tmod (wrap64 (t272 + (wrap64 (t295 * t296)))) 65536)] ?_
                 with_reducible refine (impl_HasAddr.calls t283 t284 (Int.tmod (wrap64 (t272 + (wrap64 (t295 * t296)))) 65536) false _ A147.out).mono ?_
                 rintro e w160 ⟨rfl, hb⟩
                 refine ⟨_, rfl, ?_⟩
                 replace BK274 := Aside0.mk (bb_ BK274 hb)
                 replace BK280 := Aside0.mk (bb_ BK280 hb)
                 replace BK286 := Aside0.mk (bb_ BK286 hb)
                 replace BK287 := Aside0.mk (bb_ BK287 hb)
                 replace BK291 := Aside0.mk (bb_ BK291 hb)
                 replace HB := Aside0.mk (bt_ HB hb)
                 (try clear hb)
                 (try clear hb2)
                 (try clear hk)
                 (try clear hi)
                 refine hK.out _ _ ⟨(blk_cell BK274.out 0).trans rfl, (blk_cell BK274.out 1).trans rfl, (blk_cell BK286.out 0).trans rfl, (blk_cell BK286.out 1).trans rfl, (blk_cell BK287.out 0).trans rfl, (blk_cell BK287.out 1).trans rfl⟩ (fun hHeld => ?_)
                 clear hK K
                 refine nz_ 112 ?_
                 refine pz_ 20 113 ba10_35 HT_ ?_
                 refine pz_ 21 114 ba10_36 HT_ ?_
                 refine done_ (done_of HT_.out (by kernel_rfl)) ?_
                 try go_wp2
                 go_roundg k3
                 case measure => have := HJ8.out; have := HJ40.out; have := HK3.out; omega
                 case rel => exact ⟨(wrap64 (x11_3 + 1)), (by first | rfl | (simp; done) | (simp [*]; done)), H', ⟨by have := HJ8.out; have := HJ40.out; have := HK3.out; omega⟩, ⟨by (with_reducible repeat (first | refine blk_drewN ?_ _ | refine blk_drew ?_ | refine blk_alloc ?_ _)); exact BK274.out⟩, ⟨by (with_reducible repeat (first | refine blk_drewN ?_ _ | refine blk_drew ?_ | refine blk_alloc ?_ _)); exact BK280.out⟩, ⟨by (with_reducible repeat (first | refine blk_drewN ?_ _ | refine blk_drew ?_ | refine blk_alloc ?_ _)); exact BK286.out⟩, ⟨by (with_reducible repeat (first | refine blk_drewN ?_ _ | refine blk_drew ?_ | refine blk_alloc ?_ _)); exact BK287.out⟩, ⟨by (with_reducible repeat (first | refine blk_drewN ?_ _ | refine blk_drew ?_ | refine blk_alloc ?_ _)); exact BK291.out⟩, ⟨by repeat (first | (with_reducible first | exact HB.out | apply below_alloc | apply pw_below_drewN | apply below_drew1 | refine below_set ?_ GE274.out | refine below_set ?_ GE280.out | refine below_set ?_ GE286.out | refine below_set ?_ GE287.out | refine below_set ?_ GE291.out) | exact HB.out)⟩⟩
               ·replace c146 := Bool.eq_false_iff.mpr c146
                subst c146
                rw [if_neg (show ¬ (false = true) by decide)] at H
                have H' := Aside0.mk H
                clear H
                try go_wp2
                replace BK274 := Aside0.mk (blk_drew BK274.out)
                replace BK280 := Aside0.mk (blk_drew BK280.out)
                replace BK286 := Aside0.mk (blk_drew BK286.out)
                replace BK287 := Aside0.mk (blk_drew BK287.out)
                replace BK291 := Aside0.mk (blk_drew BK291.out)
                replace HB := Aside0.mk (below_drew1 HB.out)
                refine start_ (n := 13) (S := fun w' => w'.cell? ⟨gb274, 0, none⟩ = some (.int .i64 t272) ∧ w'.cell? ⟨gb274, 1, none⟩ = some (.int .i64 t273)) (ds := []) ba10_0 (by kernel_rfl) rfl rfl ⟨(blk_cell BK274.out 0).trans rfl, (blk_cell BK274.out 1).trans rfl⟩ (fun hHeld => ?_); refine with_tabW laws_FnBlocks.tab18 laws_FnBlocks.bits18 (fun HT_ HW_ => ?_)
                generalize wr.drew = w161 at BK274 BK280 BK286 BK287 BK291 HB hHeld ⊢
                refine pz_ 0 81 ba10_1 HT_ ?_
                refine pz_ 2 83 ba10_2 HT_ ?_
                refine pz_ 3 84 ba10_3 HT_ ?_
                refine pz_ 5 86 ba10_4 HT_ ?_
                refine pz_ 6 87 ba10_5 HT_ ?_
                refine pz_ 7 88 ba10_6 HT_ ?_
                refine pt_ 1 82 ba10_7 HT_ HW_ hHeld ?_
                refine one_ (i := 4) (N := some 85) ba10_8 rfl rfl (one_of HT_.out (by kernel_rfl)) (by decide) (fun K hK => ?_)
                refine gz_ Tryd.func15 #[.slice A0 l0.length c0, .int .i64 x11_3] ?_
                with_reducible refine (laws_at.calls _ _ l0 x11_3 t295 _ ?side1 ?side2 A135.out).mono ?_
                (case side1 => exact cb_ HR0 HB)
                (case side2 => exact HC0.out)
                rintro e w' ⟨rfl, ⟨nd, rfl⟩⟩
                refine ⟨_, rfl, ?_⟩
                refine hK.out _ _ ⟨(blk_cell BK274.out 0).trans rfl, (blk_cell BK274.out 1).trans rfl⟩ (fun hHeld => ?_)
                clear hK K
                refine nz_ 85 ?_
                refine one_ (i := 8) (N := some 89) ba10_9 rfl rfl (one_of HT_.out (by kernel_rfl)) (by decide) (fun K hK => ?_)
                refine gz_ Tryd.func15 #[.slice A0 l0.length c0, .int .i64 (wrap64 (x11_3 + 1))] ?_
                with_reducible refine (laws_at.calls _ _ l0 (wrap64 (x11_3 + 1)) t296 _ ?side1 ?side2 A136.out).mono ?_
                (case side1 => exact cc_ HR0 HB)
                (case side2 => exact HC0.out)
                rintro e w' ⟨rfl, ⟨nd, rfl⟩⟩
                refine ⟨_, rfl, ?_⟩
                refine hK.out _ _ ⟨(blk_cell BK274.out 0).trans rfl, (blk_cell BK274.out 1).trans rfl⟩ (fun hHeld => ?_)
                clear hK K
                refine nz_ 89 ?_
                refine pz_ 9 90 ba10_10 HT_ ?_
                refine pz_ 10 91 ba10_11 HT_ ?_
                refine pz_ 11 92 ba10_12 HT_ ?_
                refine pz_ 12 12 ba10_13 HT_ ?_
                refine done_ (done_of HT_.out (by kernel_rfl)) ?_
                try go_wp2
                (try (rw [drewN_self w161]; generalize hq_ : World.drewN w161 _ = w161; replace BK274 : Aside0 (w161.heap[gb274]? = some (.cells #[.int .i64 t272, .int .i64 t273] 25 (0, 0))) := ⟨by rw [← hq_]; exact (by (with_reducible repeat (first | refine blk_drewN ?_ _ | refine blk_drew ?_ | refine blk_alloc ?_ _)); exact BK274.out)⟩; replace BK280 : Aside0 (w161.heap[gb280]? = some (.cells #[.int .i64 t277, .int .i64 t278] 25 (0, 0))) := ⟨by rw [← hq_]; exact (by (with_reducible repeat (first | refine blk_drewN ?_ _ | refine blk_drew ?_ | refine blk_alloc ?_ _)); exact BK280.out)⟩; replace BK286 : Aside0 (w161.heap[gb286]? = some (.cells #[.int .i64 t281, .int .i64 t282] 25 (0, 0))) := ⟨by rw [← hq_]; exact (by (with_reducible repeat (first | refine blk_drewN ?_ _ | refine blk_drew ?_ | refine blk_alloc ?_ _)); exact BK286.out)⟩; replace BK287 : Aside0 (w161.heap[gb287]? = some (.cells #[.int .i64 t283, .int .i64 t284] 25 (0, 0))) := ⟨by rw [← hq_]; exact (by (with_reducible repeat (first | refine blk_drewN ?_ _ | refine blk_drew ?_ | refine blk_alloc ?_ _)); exact BK287.out)⟩; replace BK291 : Aside0 (w161.heap[gb291]? = some (.cells #[.int .i64 t288, .int .i64 t289] 25 (0, 0))) := ⟨by rw [← hq_]; exact (by (with_reducible repeat (first | refine blk_drewN ?_ _ | refine blk_drew ?_ | refine blk_alloc ?_ _)); exact BK291.out)⟩; replace HB : Aside0 (Below w.heap.size w w161) := ⟨by rw [← hq_]; exact (by repeat (first | (with_reducible first | exact HB.out | apply below_alloc | apply pw_below_drewN | apply below_drew1 | refine below_set ?_ GE274.out | refine below_set ?_ GE280.out | refine below_set ?_ GE286.out | refine below_set ?_ GE287.out | refine below_set ?_ GE291.out) | exact HB.out))⟩; clear hq_))
                (try (rw [drewN_self w161]; generalize hq_ : World.drewN w161 _ = w161; replace BK274 : Aside0 (w161.heap[gb274]? = some (.cells #[.int .i64 t272, .int .i64 t273] 25 (0, 0))) := ⟨by rw [← hq_]; exact (by (with_reducible repeat (first | refine blk_drewN ?_ _ | refine blk_drew ?_ | refine blk_alloc ?_ _)); exact BK274.out)⟩; replace BK280 : Aside0 (w161.heap[gb280]? = some (.cells #[.int .i64 t277, .int .i64 t278] 25 (0, 0))) := ⟨by rw [← hq_]; exact (by (with_reducible repeat (first | refine blk_drewN ?_ _ | refine blk_drew ?_ | refine blk_alloc ?_ _)); exact BK280.out)⟩; replace BK286 : Aside0 (w161.heap[gb286]? = some (.cells #[.int .i64 t281, .int .i64 t282] 25 (0, 0))) := ⟨by rw [← hq_]; exact (by (with_reducible repeat (first | refine blk_drewN ?_ _ | refine blk_drew ?_ | refine blk_alloc ?_ _)); exact BK286.out)⟩; replace BK287 : Aside0 (w161.heap[gb287]? = some (.cells #[.int .i64 t283, .int .i64 t284] 25 (0, 0))) := ⟨by rw [← hq_]; exact (by (with_reducible repeat (first | refine blk_drewN ?_ _ | refine blk_drew ?_ | refine blk_alloc ?_ _)); exact BK287.out)⟩; replace BK291 : Aside0 (w161.heap[gb291]? = some (.cells #[.int .i64 t288, .int .i64 t289] 25 (0, 0))) := ⟨by rw [← hq_]; exact (by (with_reducible repeat (first | refine blk_drewN ?_ _ | refine blk_drew ?_ | refine blk_alloc ?_ _)); exact BK291.out)⟩; replace HB : Aside0 (Below w.heap.size w w161) := ⟨by rw [← hq_]; exact (by repeat (first | (with_reducible first | exact HB.out | apply below_alloc | apply pw_below_drewN | apply below_drew1 | refine below_set ?_ GE274.out | refine below_set ?_ GE280.out | refine below_set ?_ GE286.out | refine below_set ?_ GE287.out | refine below_set ?_ GE291.out) | exact HB.out))⟩; clear hq_))
                replace BK274 := Aside0.mk (blk_drew BK274.out)
                replace BK280 := Aside0.mk (blk_drew BK280.out)
                replace BK286 := Aside0.mk (blk_drew BK286.out)
                replace BK287 := Aside0.mk (blk_drew BK287.out)
                replace BK291 := Aside0.mk (blk_drew BK291.out)
                replace HB := Aside0.mk (below_drew1 HB.out)
                refine start_ (n := 22) (S := fun w' => w'.cell? ⟨gb274, 0, none⟩ = some (.int .i64 t272) ∧ w'.cell? ⟨gb274, 1, none⟩ = some (.int .i64 t273) ∧ w'.cell? ⟨gb286, 0, none⟩ = some (.int .i64 t281) ∧ w'.cell? ⟨gb286, 1, none⟩ = some (.int .i64 t282)) (ds := []) ba10_14 (by kernel_rfl) rfl rfl ⟨(blk_cell BK274.out 0).trans rfl, (blk_cell BK274.out 1).trans rfl, (blk_cell BK286.out 0).trans rfl, (blk_cell BK286.out 1).trans rfl⟩ (fun hHeld => ?_); refine with_tabW laws_FnBlocks.tab19 laws_FnBlocks.bits19 (fun HT_ HW_ => ?_)
                generalize w161.drew = w162 at BK274 BK280 BK286 BK287 BK291 HB hHeld ⊢
                refine pz_ 1 94 ba10_15 HT_ ?_
                refine pz_ 4 97 ba10_16 HT_ ?_
                refine pt_ 0 93 ba10_17 HT_ HW_ hHeld ?_
                refine pt_ 3 96 ba10_18 HT_ HW_ hHeld ?_
                refine one_ (i := 2) (N := some 95) ba10_19 rfl rfl (one_of HT_.out (by kernel_rfl)) (by decide) (fun K hK => ?_)
                refine gz_ Tryd.func16 #[.agg #[.int .i64 t272, .int .i64 t273], .int .i64 (Int.tmod (wrap64 (t272 + (wrap64 (t295 * t296)))) 65536)] ?_
                with_reducible refine (impl_HasAddr.calls t272 t273 (Int.tmod (wrap64 (t272 + (wrap64 (t295 * t296)))) 65536) t297 _ A137.out).mono ?_
                rintro e w163 ⟨rfl, hb⟩
                refine ⟨_, rfl, ?_⟩
                replace BK274 := Aside0.mk (bb_ BK274 hb)
                replace BK280 := Aside0.mk (bb_ BK280 hb)
                replace BK286 := Aside0.mk (bb_ BK286 hb)
                replace BK287 := Aside0.mk (bb_ BK287 hb)
                replace BK291 := Aside0.mk (bb_ BK291 hb)
                replace HB := Aside0.mk (bt_ HB hb)
                (try clear hb)
                (try clear hb2)
                (try clear hk)
                (try clear hi)
                refine hK.out _ _ ⟨(blk_cell BK274.out 0).trans rfl, (blk_cell BK274.out 1).trans rfl, (blk_cell BK286.out 0).trans rfl, (blk_cell BK286.out 1).trans rfl⟩ (fun hHeld => ?_)
                clear hK K
                refine nz_ 95 ?_
                refine one_ (i := 5) (N := some 98) ba10_20 rfl rfl (one_of HT_.out (by kernel_rfl)) (by decide) (fun K hK => ?_)
                refine gz_ Tryd.func16 #[.agg #[.int .i64 t281, .int .i64 t282], .int .i64 (Int.tmod (wrap64 (t272 + (wrap64 (t295 * t296)))) 65536)] ?_
                with_reducible refine (impl_HasAddr.calls t281 t282 (Int.tmod (wrap64 (t272 + (wrap64 (t295 * t296)))) 65536) true _ A138.out).mono ?_
                rintro e w164 ⟨rfl, hb⟩
                refine ⟨_, rfl, ?_⟩
                replace BK274 := Aside0.mk (bb_ BK274 hb)
                replace BK280 := Aside0.mk (bb_ BK280 hb)
                replace BK286 := Aside0.mk (bb_ BK286 hb)
                replace BK287 := Aside0.mk (bb_ BK287 hb)
                replace BK291 := Aside0.mk (bb_ BK291 hb)
                replace HB := Aside0.mk (bt_ HB hb)
                (try clear hb)
                (try clear hb2)
                (try clear hk)
                (try clear hi)
                refine hK.out _ _ ⟨(blk_cell BK274.out 0).trans rfl, (blk_cell BK274.out 1).trans rfl, (blk_cell BK286.out 0).trans rfl, (blk_cell BK286.out 1).trans rfl⟩ (fun hHeld => ?_)
                clear hK K
                refine nz_ 98 ?_
                refine pz_ 6 99 ba10_21 HT_ ?_
                refine pu_ 7 100 ba10_22 HT_ ?_
                refine pu_ 8 101 ba10_23 HT_ ?_
                refine pu_ 9 102 ba10_24 HT_ ?_
                refine pz_ 10 103 ba10_25 HT_ ?_
                refine pz_ 11 104 ba10_26 HT_ ?_
                refine pz_ 12 105 ba10_27 HT_ ?_
                refine pz_ 14 107 ba10_37 HT_ ?_
                refine pt_ 13 106 ba10_29 HT_ HW_ hHeld ?_
                refine one_ (i := 15) (N := some 108) ba10_30 rfl rfl (one_of HT_.out (by kernel_rfl)) (by decide) (fun K hK => ?_)
                refine gz_ Tryd.func16 #[.agg #[.int .i64 t281, .int .i64 t282], .int .i64 (Int.tmod (wrap64 (t272 + (wrap64 (t295 * t296)))) 65536)] ?_
                with_reducible refine (impl_HasAddr.calls t281 t282 (Int.tmod (wrap64 (t272 + (wrap64 (t295 * t296)))) 65536) false _ A145.out).mono ?_
                rintro e w165 ⟨rfl, hb⟩
                refine ⟨_, rfl, ?_⟩
                replace BK274 := Aside0.mk (bb_ BK274 hb)
                replace BK280 := Aside0.mk (bb_ BK280 hb)
                replace BK286 := Aside0.mk (bb_ BK286 hb)
                replace BK287 := Aside0.mk (bb_ BK287 hb)
                replace BK291 := Aside0.mk (bb_ BK291 hb)
                replace HB := Aside0.mk (bt_ HB hb)
                (try clear hb)
                (try clear hb2)
                (try clear hk)
                (try clear hi)
                refine hK.out _ _ ⟨(blk_cell BK274.out 0).trans rfl, (blk_cell BK274.out 1).trans rfl, (blk_cell BK286.out 0).trans rfl, (blk_cell BK286.out 1).trans rfl⟩ (fun hHeld => ?_)
                clear hK K
                refine nz_ 108 ?_
                refine pz_ 16 109 ba10_31 HT_ ?_
                refine pu_ 17 110 ba10_32 HT_ ?_
                refine pu_ 18 111 ba10_33 HT_ ?_
                refine pu_ 19 112 ba10_34 HT_ ?_
                refine pz_ 20 113 ba10_35 HT_ ?_
                refine pz_ 21 114 ba10_36 HT_ ?_
                refine done_ (done_of HT_.out (by kernel_rfl)) ?_
                try go_wp2
                go_roundg k3
                case measure => have := HJ8.out; have := HJ40.out; have := HK3.out; omega
                case rel => exact ⟨(wrap64 (x11_3 + 1)), (by first | rfl | (simp; done) | (simp [*]; done)), H', ⟨by have := HJ8.out; have := HJ40.out; have := HK3.out; omega⟩, ⟨by (with_reducible repeat (first | refine blk_drewN ?_ _ | refine blk_drew ?_ | refine blk_alloc ?_ _)); exact BK274.out⟩, ⟨by (with_reducible repeat (first | refine blk_drewN ?_ _ | refine blk_drew ?_ | refine blk_alloc ?_ _)); exact BK280.out⟩, ⟨by (with_reducible repeat (first | refine blk_drewN ?_ _ | refine blk_drew ?_ | refine blk_alloc ?_ _)); exact BK286.out⟩, ⟨by (with_reducible repeat (first | refine blk_drewN ?_ _ | refine blk_drew ?_ | refine blk_alloc ?_ _)); exact BK287.out⟩, ⟨by (with_reducible repeat (first | refine blk_drewN ?_ _ | refine blk_drew ?_ | refine blk_alloc ?_ _)); exact BK291.out⟩, ⟨by repeat (first | (with_reducible first | exact HB.out | apply below_alloc | apply pw_below_drewN | apply below_drew1 | refine below_set ?_ GE274.out | refine below_set ?_ GE280.out | refine below_set ?_ GE286.out | refine below_set ?_ GE287.out | refine below_set ?_ GE291.out) | exact HB.out)⟩⟩
             ·replace c139 := Bool.eq_false_iff.mpr c139
              subst c139
              rw [if_neg (show ¬ (false = true) by decide)] at H
              replace H := Option.bind_eq_some_iff.mp H
              obtain ⟨t301, A1660, H⟩ := H
              have A166 := Aside0.mk A1660
              clear A1660
              by_cases c167 : (t297 != t301) = true
              ·rw [if_pos c167] at H
               have c167b0 : (t297 != t301) = true := c167
               (try (have c167b1 : decide (t297 = t301) = false := by simpa using c167))
               (try (have c167b2 : (t297 == t301) = false := by simpa using c167))
               (try (have c167b3 : ¬ (t297 = t301) := by simpa using c167))
               clear c167
               obtain rfl := Option.some.inj H
               try go_wp2
               replace BK274 := Aside0.mk (blk_drew BK274.out)
               replace BK280 := Aside0.mk (blk_drew BK280.out)
               replace BK286 := Aside0.mk (blk_drew BK286.out)
               replace BK287 := Aside0.mk (blk_drew BK287.out)
               replace BK291 := Aside0.mk (blk_drew BK291.out)
               replace HB := Aside0.mk (below_drew1 HB.out)
               refine start_ (n := 13) (S := fun w' => w'.cell? ⟨gb274, 0, none⟩ = some (.int .i64 t272) ∧ w'.cell? ⟨gb274, 1, none⟩ = some (.int .i64 t273)) (ds := []) ba10_0 (by kernel_rfl) rfl rfl ⟨(blk_cell BK274.out 0).trans rfl, (blk_cell BK274.out 1).trans rfl⟩ (fun hHeld => ?_); refine with_tabW laws_FnBlocks.tab18 laws_FnBlocks.bits18 (fun HT_ HW_ => ?_)
               generalize wr.drew = w168 at BK274 BK280 BK286 BK287 BK291 HB hHeld ⊢
               refine pz_ 0 81 ba10_1 HT_ ?_
               refine pz_ 2 83 ba10_2 HT_ ?_
               refine pz_ 3 84 ba10_3 HT_ ?_
               refine pz_ 5 86 ba10_4 HT_ ?_
               refine pz_ 6 87 ba10_5 HT_ ?_
               refine pz_ 7 88 ba10_6 HT_ ?_
               refine pt_ 1 82 ba10_7 HT_ HW_ hHeld ?_
               refine one_ (i := 4) (N := some 85) ba10_8 rfl rfl (one_of HT_.out (by kernel_rfl)) (by decide) (fun K hK => ?_)
               refine gz_ Tryd.func15 #[.slice A0 l0.length c0, .int .i64 x11_3] ?_
               with_reducible refine (laws_at.calls _ _ l0 x11_3 t295 _ ?side1 ?side2 A135.out).mono ?_
               (case side1 => exact cb_ HR0 HB)
               (case side2 => exact HC0.out)
               rintro e w' ⟨rfl, ⟨nd, rfl⟩⟩
               refine ⟨_, rfl, ?_⟩
               refine hK.out _ _ ⟨(blk_cell BK274.out 0).trans rfl, (blk_cell BK274.out 1).trans rfl⟩ (fun hHeld => ?_)
               clear hK K
               refine nz_ 85 ?_
               refine one_ (i := 8) (N := some 89) ba10_9 rfl rfl (one_of HT_.out (by kernel_rfl)) (by decide) (fun K hK => ?_)
               refine gz_ Tryd.func15 #[.slice A0 l0.length c0, .int .i64 (wrap64 (x11_3 + 1))] ?_
               with_reducible refine (laws_at.calls _ _ l0 (wrap64 (x11_3 + 1)) t296 _ ?side1 ?side2 A136.out).mono ?_
               (case side1 => exact cc_ HR0 HB)
               (case side2 => exact HC0.out)
               rintro e w' ⟨rfl, ⟨nd, rfl⟩⟩
               refine ⟨_, rfl, ?_⟩
               refine hK.out _ _ ⟨(blk_cell BK274.out 0).trans rfl, (blk_cell BK274.out 1).trans rfl⟩ (fun hHeld => ?_)
               clear hK K
               refine nz_ 89 ?_
               refine pz_ 9 90 ba10_10 HT_ ?_
               refine pz_ 10 91 ba10_11 HT_ ?_
               refine pz_ 11 92 ba10_12 HT_ ?_
               refine pz_ 12 12 ba10_13 HT_ ?_
               refine done_ (done_of HT_.out (by kernel_rfl)) ?_
               try go_wp2
               (try (rw [drewN_self w168]; generalize hq_ : World.drewN w168 _ = w168; replace BK274 : Aside0 (w168.heap[gb274]? = some (.cells #[.int .i64 t272, .int .i64 t273] 25 (0, 0))) := ⟨by rw [← hq_]; exact (by (with_reducible repeat (first | refine blk_drewN ?_ _ | refine blk_drew ?_ | refine blk_alloc ?_ _)); exact BK274.out)⟩; replace BK280 : Aside0 (w168.heap[gb280]? = some (.cells #[.int .i64 t277, .int .i64 t278] 25 (0, 0))) := ⟨by rw [← hq_]; exact (by (with_reducible repeat (first | refine blk_drewN ?_ _ | refine blk_drew ?_ | refine blk_alloc ?_ _)); exact BK280.out)⟩; replace BK286 : Aside0 (w168.heap[gb286]? = some (.cells #[.int .i64 t281, .int .i64 t282] 25 (0, 0))) := ⟨by rw [← hq_]; exact (by (with_reducible repeat (first | refine blk_drewN ?_ _ | refine blk_drew ?_ | refine blk_alloc ?_ _)); exact BK286.out)⟩; replace BK287 : Aside0 (w168.heap[gb287]? = some (.cells #[.int .i64 t283, .int .i64 t284] 25 (0, 0))) := ⟨by rw [← hq_]; exact (by (with_reducible repeat (first | refine blk_drewN ?_ _ | refine blk_drew ?_ | refine blk_alloc ?_ _)); exact BK287.out)⟩; replace BK291 : Aside0 (w168.heap[gb291]? = some (.cells #[.int .i64 t288, .int .i64 t289] 25 (0, 0))) := ⟨by rw [← hq_]; exact (by (with_reducible repeat (first | refine blk_drewN ?_ _ | refine blk_drew ?_ | refine blk_alloc ?_ _)); exact BK291.out)⟩; replace HB : Aside0 (Below w.heap.size w w168) := ⟨by rw [← hq_]; exact (by repeat (first | (with_reducible first | exact HB.out | apply below_alloc | apply pw_below_drewN | apply below_drew1 | refine below_set ?_ GE274.out | refine below_set ?_ GE280.out | refine below_set ?_ GE286.out | refine below_set ?_ GE287.out | refine below_set ?_ GE291.out) | exact HB.out))⟩; clear hq_))
               (try (rw [drewN_self w168]; generalize hq_ : World.drewN w168 _ = w168; replace BK274 : Aside0 (w168.heap[gb274]? = some (.cells #[.int .i64 t272, .int .i64 t273] 25 (0, 0))) := ⟨by rw [← hq_]; exact (by (with_reducible repeat (first | refine blk_drewN ?_ _ | refine blk_drew ?_ | refine blk_alloc ?_ _)); exact BK274.out)⟩; replace BK280 : Aside0 (w168.heap[gb280]? = some (.cells #[.int .i64 t277, .int .i64 t278] 25 (0, 0))) := ⟨by rw [← hq_]; exact (by (with_reducible repeat (first | refine blk_drewN ?_ _ | refine blk_drew ?_ | refine blk_alloc ?_ _)); exact BK280.out)⟩; replace BK286 : Aside0 (w168.heap[gb286]? = some (.cells #[.int .i64 t281, .int .i64 t282] 25 (0, 0))) := ⟨by rw [← hq_]; exact (by (with_reducible repeat (first | refine blk_drewN ?_ _ | refine blk_drew ?_ | refine blk_alloc ?_ _)); exact BK286.out)⟩; replace BK287 : Aside0 (w168.heap[gb287]? = some (.cells #[.int .i64 t283, .int .i64 t284] 25 (0, 0))) := ⟨by rw [← hq_]; exact (by (with_reducible repeat (first | refine blk_drewN ?_ _ | refine blk_drew ?_ | refine blk_alloc ?_ _)); exact BK287.out)⟩; replace BK291 : Aside0 (w168.heap[gb291]? = some (.cells #[.int .i64 t288, .int .i64 t289] 25 (0, 0))) := ⟨by rw [← hq_]; exact (by (with_reducible repeat (first | refine blk_drewN ?_ _ | refine blk_drew ?_ | refine blk_alloc ?_ _)); exact BK291.out)⟩; replace HB : Aside0 (Below w.heap.size w w168) := ⟨by rw [← hq_]; exact (by repeat (first | (with_reducible first | exact HB.out | apply below_alloc | apply pw_below_drewN | apply below_drew1 | refine below_set ?_ GE274.out | refine below_set ?_ GE280.out | refine below_set ?_ GE286.out | refine below_set ?_ GE287.out | refine below_set ?_ GE291.out) | exact HB.out))⟩; clear hq_))
               replace BK274 := Aside0.mk (blk_drew BK274.out)
               replace BK280 := Aside0.mk (blk_drew BK280.out)
               replace BK286 := Aside0.mk (blk_drew BK286.out)
               replace BK287 := Aside0.mk (blk_drew BK287.out)
               replace BK291 := Aside0.mk (blk_drew BK291.out)
               replace HB := Aside0.mk (below_drew1 HB.out)
               refine start_ (n := 22) (S := fun w' => w'.cell? ⟨gb274, 0, none⟩ = some (.int .i64 t272) ∧ w'.cell? ⟨gb274, 1, none⟩ = some (.int .i64 t273) ∧ w'.cell? ⟨gb286, 0, none⟩ = some (.int .i64 t281) ∧ w'.cell? ⟨gb286, 1, none⟩ = some (.int .i64 t282) ∧ w'.cell? ⟨gb287, 0, none⟩ = some (.int .i64 t283) ∧ w'.cell? ⟨gb287, 1, none⟩ = some (.int .i64 t284)) (ds := []) ba10_14 (by kernel_rfl) rfl rfl ⟨(blk_cell BK274.out 0).trans rfl, (blk_cell BK274.out 1).trans rfl, (blk_cell BK286.out 0).trans rfl, (blk_cell BK286.out 1).trans rfl, (blk_cell BK287.out 0).trans rfl, (blk_cell BK287.out 1).trans rfl⟩ (fun hHeld => ?_); refine with_tabW laws_FnBlocks.tab19 laws_FnBlocks.bits19 (fun HT_ HW_ => ?_)
               generalize w168.drew = w169 at BK274 BK280 BK286 BK287 BK291 HB hHeld ⊢
               refine pz_ 1 94 ba10_15 HT_ ?_
               refine pz_ 4 97 ba10_16 HT_ ?_
               refine pt_ 0 93 ba10_17 HT_ HW_ hHeld ?_
               refine pt_ 3 96 ba10_18 HT_ HW_ hHeld ?_
               refine one_ (i := 2) (N := some 95) ba10_19 rfl rfl (one_of HT_.out (by kernel_rfl)) (by decide) (fun K hK => ?_)
               refine gz_ Tryd.func16 #[.agg #[.int .i64 t272, .int .i64 t273], .int .i64 (Int.tmod (wrap64 (t272 + (wrap64 (t295 * t296)))) 65536)] ?_
               with_reducible refine (impl_HasAddr.calls t272 t273 (Int.tmod (wrap64 (t272 + (wrap64 (t295 * t296)))) 65536) t297 _ A137.out).mono ?_
               rintro e w170 ⟨rfl, hb⟩
               refine ⟨_, rfl, ?_⟩
               replace BK274 := Aside0.mk (bb_ BK274 hb)
               replace BK280 := Aside0.mk (bb_ BK280 hb)
               replace BK286 := Aside0.mk (bb_ BK286 hb)
               replace BK287 := Aside0.mk (bb_ BK287 hb)
               replace BK291 := Aside0.mk (bb_ BK291 hb)
               replace HB := Aside0.mk (bt_ HB hb)
               (try clear hb)
               (try clear hb2)
               (try clear hk)
               (try clear hi)
               refine hK.out _ _ ⟨(blk_cell BK274.out 0).trans rfl, (blk_cell BK274.out 1).trans rfl, (blk_cell BK286.out 0).trans rfl, (blk_cell BK286.out 1).trans rfl, (blk_cell BK287.out 0).trans rfl, (blk_cell BK287.out 1).trans rfl⟩ (fun hHeld => ?_)
               clear hK K
               refine nz_ 95 ?_
               refine one_ (i := 5) (N := some 98) ba10_20 rfl rfl (one_of HT_.out (by kernel_rfl)) (by decide) (fun K hK => ?_)
               refine gz_ Tryd.func16 #[.agg #[.int .i64 t281, .int .i64 t282], .int .i64 (Int.tmod (wrap64 (t272 + (wrap64 (t295 * t296)))) 65536)] ?_
               with_reducible refine (impl_HasAddr.calls t281 t282 (Int.tmod (wrap64 (t272 + (wrap64 (t295 * t296)))) 65536) false _ A138.out).mono ?_
               rintro e w171 ⟨rfl, hb⟩
               refine ⟨_, rfl, ?_⟩
               replace BK274 := Aside0.mk (bb_ BK274 hb)
               replace BK280 := Aside0.mk (bb_ BK280 hb)
               replace BK286 := Aside0.mk (bb_ BK286 hb)
               replace BK287 := Aside0.mk (bb_ BK287 hb)
               replace BK291 := Aside0.mk (bb_ BK291 hb)
               replace HB := Aside0.mk (bt_ HB hb)
               (try clear hb)
               (try clear hb2)
               (try clear hk)
               (try clear hi)
               refine hK.out _ _ ⟨(blk_cell BK274.out 0).trans rfl, (blk_cell BK274.out 1).trans rfl, (blk_cell BK286.out 0).trans rfl, (blk_cell BK286.out 1).trans rfl, (blk_cell BK287.out 0).trans rfl, (blk_cell BK287.out 1).trans rfl⟩ (fun hHeld => ?_)
               clear hK K
               refine nz_ 98 ?_
               refine pz_ 6 99 ba10_21 HT_ ?_
               refine pz_ 8 101 ba10_39 HT_ ?_
               refine pt_ 7 100 ba10_23 HT_ HW_ hHeld ?_
               refine one_ (i := 9) (N := some 102) ba10_24 rfl rfl (one_of HT_.out (by kernel_rfl)) (by decide) (fun K hK => ?_)
               refine gz_ Tryd.func16 #[.agg #[.int .i64 t283, .int .i64 t284], .int .i64 (Int.tmod (wrap64 (t272 + (wrap64 (t295 * t296)))) 65536)] ?_
               with_reducible refine (impl_HasAddr.calls t283 t284 (Int.tmod (wrap64 (t272 + (wrap64 (t295 * t296)))) 65536) t301 _ A166.out).mono ?_
               rintro e w172 ⟨rfl, hb⟩
               refine ⟨_, rfl, ?_⟩
               replace BK274 := Aside0.mk (bb_ BK274 hb)
               replace BK280 := Aside0.mk (bb_ BK280 hb)
               replace BK286 := Aside0.mk (bb_ BK286 hb)
               replace BK287 := Aside0.mk (bb_ BK287 hb)
               replace BK291 := Aside0.mk (bb_ BK291 hb)
               replace HB := Aside0.mk (bt_ HB hb)
               (try clear hb)
               (try clear hb2)
               (try clear hk)
               (try clear hi)
               refine hK.out _ _ ⟨(blk_cell BK274.out 0).trans rfl, (blk_cell BK274.out 1).trans rfl, (blk_cell BK286.out 0).trans rfl, (blk_cell BK286.out 1).trans rfl, (blk_cell BK287.out 0).trans rfl, (blk_cell BK287.out 1).trans rfl⟩ (fun hHeld => ?_)
               clear hK K
               refine nz_ 102 ?_
               refine pz_ 10 103 ba10_25 HT_ ?_
               refine pz_ 11 104 ba10_26 HT_ ?_
               refine pz_ 12 105 ba10_27 HT_ ?_
               refine pu_ 13 106 ba10_28 HT_ ?_
               refine pu_ 14 107 ba10_29 HT_ ?_
               refine pu_ 15 108 ba10_30 HT_ ?_
               refine pu_ 16 109 ba10_31 HT_ ?_
               refine pu_ 17 110 ba10_32 HT_ ?_
               refine pu_ 18 111 ba10_33 HT_ ?_
               refine pu_ 19 112 ba10_34 HT_ ?_
               refine pu_ 20 113 ba10_35 HT_ ?_
               refine pz_ 21 114 ba10_36 HT_ ?_
               refine done_ (done_of HT_.out (by kernel_rfl)) ?_
               try go_wp2
               go_ret
               exact ⟨by first | rfl | (simp [errW_none, errW_some] <;> rfl) | (simp [*, errW_none, errW_some] <;> rfl), by repeat (first | (with_reducible first | exact HB.out | apply below_alloc | apply pw_below_drewN | apply below_drew1 | refine below_set ?_ GE274.out | refine below_set ?_ GE280.out | refine below_set ?_ GE286.out | refine below_set ?_ GE287.out | refine below_set ?_ GE291.out) | exact HB.out)⟩
              ·rw [if_neg c167] at H
               have c167b0 : (t297 != t301) = false := by simpa using c167
               (try (have c167b1 : decide (t297 = t301) = true := by simpa using c167))
               (try (have c167b2 : (t297 == t301) = true := by simpa using c167))
               clear c167
               replace H := Option.bind_eq_some_iff.mp H
               obtain ⟨t302, A1730, H⟩ := H
               have A173 := Aside0.mk A1730
               clear A1730
               by_cases c174 : t302 = true
               ·subst c174
                rw [if_pos rfl] at H
                replace H := Option.bind_eq_some_iff.mp H
                obtain ⟨t303, A1750, H⟩ := H
                have A175 := Aside0.mk A1750
                clear A1750
                by_cases c176 : t303 = true
                ·subst c176
                 rw [if_pos rfl] at H
                 obtain rfl := Option.some.inj H
                 try go_wp2
                 replace BK274 := Aside0.mk (blk_drew BK274.out)
                 replace BK280 := Aside0.mk (blk_drew BK280.out)
                 replace BK286 := Aside0.mk (blk_drew BK286.out)
                 replace BK287 := Aside0.mk (blk_drew BK287.out)
                 replace BK291 := Aside0.mk (blk_drew BK291.out)
                 replace HB := Aside0.mk (below_drew1 HB.out)
                 refine start_ (n := 13) (S := fun w' => w'.cell? ⟨gb274, 0, none⟩ = some (.int .i64 t272) ∧ w'.cell? ⟨gb274, 1, none⟩ = some (.int .i64 t273)) (ds := []) ba10_0 (by kernel_rfl) rfl rfl ⟨(blk_cell BK274.out 0).trans rfl, (blk_cell BK274.out 1).trans rfl⟩ (fun hHeld => ?_); refine with_tabW laws_FnBlocks.tab18 laws_FnBlocks.bits18 (fun HT_ HW_ => ?_)
                 generalize wr.drew = w177 at BK274 BK280 BK286 BK287 BK291 HB hHeld ⊢
                 refine pz_ 0 81 ba10_1 HT_ ?_
                 refine pz_ 2 83 ba10_2 HT_ ?_
                 refine pz_ 3 84 ba10_3 HT_ ?_
                 refine pz_ 5 86 ba10_4 HT_ ?_
                 refine pz_ 6 87 ba10_5 HT_ ?_
                 refine pz_ 7 88 ba10_6 HT_ ?_
                 refine pt_ 1 82 ba10_7 HT_ HW_ hHeld ?_
                 refine one_ (i := 4) (N := some 85) ba10_8 rfl rfl (one_of HT_.out (by kernel_rfl)) (by decide) (fun K hK => ?_)
                 refine gz_ Tryd.func15 #[.slice A0 l0.length c0, .int .i64 x11_3] ?_
                 with_reducible refine (laws_at.calls _ _ l0 x11_3 t295 _ ?side1 ?side2 A135.out).mono ?_
                 (case side1 => exact cb_ HR0 HB)
                 (case side2 => exact HC0.out)
                 rintro e w' ⟨rfl, ⟨nd, rfl⟩⟩
                 refine ⟨_, rfl, ?_⟩
                 refine hK.out _ _ ⟨(blk_cell BK274.out 0).trans rfl, (blk_cell BK274.out 1).trans rfl⟩ (fun hHeld => ?_)
                 clear hK K
                 refine nz_ 85 ?_
                 refine one_ (i := 8) (N := some 89) ba10_9 rfl rfl (one_of HT_.out (by kernel_rfl)) (by decide) (fun K hK => ?_)
                 refine gz_ Tryd.func15 #[.slice A0 l0.length c0, .int .i64 (wrap64 (x11_3 + 1))] ?_
                 with_reducible refine (laws_at.calls _ _ l0 (wrap64 (x11_3 + 1)) t296 _ ?side1 ?side2 A136.out).mono ?_
                 (case side1 => exact cc_ HR0 HB)
                 (case side2 => exact HC0.out)
                 rintro e w' ⟨rfl, ⟨nd, rfl⟩⟩
                 refine ⟨_, rfl, ?_⟩
                 refine hK.out _ _ ⟨(blk_cell BK274.out 0).trans rfl, (blk_cell BK274.out 1).trans rfl⟩ (fun hHeld => ?_)
                 clear hK K
                 refine nz_ 89 ?_
                 refine pz_ 9 90 ba10_10 HT_ ?_
                 refine pz_ 10 91 ba10_11 HT_ ?_
                 refine pz_ 11 92 ba10_12 HT_ ?_
                 refine pz_ 12 12 ba10_13 HT_ ?_
                 refine done_ (done_of HT_.out (by kernel_rfl)) ?_
                 try go_wp2
                 (try (rw [drewN_self w177]; generalize hq_ : World.drewN w177 _ = w177; replace BK274 : Aside0 (w177.heap[gb274]? = some (.cells #[.int .i64 t272, .int .i64 t273] 25 (0, 0))) := ⟨by rw [← hq_]; exact (by (with_reducible repeat (first | refine blk_drewN ?_ _ | refine blk_drew ?_ | refine blk_alloc ?_ _)); exact BK274.out)⟩; replace BK280 : Aside0 (w177.heap[gb280]? = some (.cells #[.int .i64 t277, .int .i64 t278] 25 (0, 0))) := ⟨by rw [← hq_]; exact (by (with_reducible repeat (first | refine blk_drewN ?_ _ | refine blk_drew ?_ | refine blk_alloc ?_ _)); exact BK280.out)⟩; replace BK286 : Aside0 (w177.heap[gb286]? = some (.cells #[.int .i64 t281, .int .i64 t282] 25 (0, 0))) := ⟨by rw [← hq_]; exact (by (with_reducible repeat (first | refine blk_drewN ?_ _ | refine blk_drew ?_ | refine blk_alloc ?_ _)); exact BK286.out)⟩; replace BK287 : Aside0 (w177.heap[gb287]? = some (.cells #[.int .i64 t283, .int .i64 t284] 25 (0, 0))) := ⟨by rw [← hq_]; exact (by (with_reducible repeat (first | refine blk_drewN ?_ _ | refine blk_drew ?_ | refine blk_alloc ?_ _)); exact BK287.out)⟩; replace BK291 : Aside0 (w177.heap[gb291]? = some (.cells #[.int .i64 t288, .int .i64 t289] 25 (0, 0))) := ⟨by rw [← hq_]; exact (by (with_reducible repeat (first | refine blk_drewN ?_ _ | refine blk_drew ?_ | refine blk_alloc ?_ _)); exact BK291.out)⟩; replace HB : Aside0 (Below w.heap.size w w177) := ⟨by rw [← hq_]; exact (by repeat (first | (with_reducible first | exact HB.out | apply below_alloc | apply pw_below_drewN | apply below_drew1 | refine below_set ?_ GE274.out | refine below_set ?_ GE280.out | refine below_set ?_ GE286.out | refine below_set ?_ GE287.out | refine below_set ?_ GE291.out) | exact HB.out))⟩; clear hq_))
                 (try (rw [drewN_self w177]; generalize hq_ : World.drewN w177 _ = w177; replace BK274 : Aside0 (w177.heap[gb274]? = some (.cells #[.int .i64 t272, .int .i64 t273] 25 (0, 0))) := ⟨by rw [← hq_]; exact (by (with_reducible repeat (first | refine blk_drewN ?_ _ | refine blk_drew ?_ | refine blk_alloc ?_ _)); exact BK274.out)⟩; replace BK280 : Aside0 (w177.heap[gb280]? = some (.cells #[.int .i64 t277, .int .i64 t278] 25 (0, 0))) := ⟨by rw [← hq_]; exact (by (with_reducible repeat (first | refine blk_drewN ?_ _ | refine blk_drew ?_ | refine blk_alloc ?_ _)); exact BK280.out)⟩; replace BK286 : Aside0 (w177.heap[gb286]? = some (.cells #[.int .i64 t281, .int .i64 t282] 25 (0, 0))) := ⟨by rw [← hq_]; exact (by (with_reducible repeat (first | refine blk_drewN ?_ _ | refine blk_drew ?_ | refine blk_alloc ?_ _)); exact BK286.out)⟩; replace BK287 : Aside0 (w177.heap[gb287]? = some (.cells #[.int .i64 t283, .int .i64 t284] 25 (0, 0))) := ⟨by rw [← hq_]; exact (by (with_reducible repeat (first | refine blk_drewN ?_ _ | refine blk_drew ?_ | refine blk_alloc ?_ _)); exact BK287.out)⟩; replace BK291 : Aside0 (w177.heap[gb291]? = some (.cells #[.int .i64 t288, .int .i64 t289] 25 (0, 0))) := ⟨by rw [← hq_]; exact (by (with_reducible repeat (first | refine blk_drewN ?_ _ | refine blk_drew ?_ | refine blk_alloc ?_ _)); exact BK291.out)⟩; replace HB : Aside0 (Below w.heap.size w w177) := ⟨by rw [← hq_]; exact (by repeat (first | (with_reducible first | exact HB.out | apply below_alloc | apply pw_below_drewN | apply below_drew1 | refine below_set ?_ GE274.out | refine below_set ?_ GE280.out | refine below_set ?_ GE286.out | refine below_set ?_ GE287.out | refine below_set ?_ GE291.out) | exact HB.out))⟩; clear hq_))
                 replace BK274 := Aside0.mk (blk_drew BK274.out)
                 replace BK280 := Aside0.mk (blk_drew BK280.out)
                 replace BK286 := Aside0.mk (blk_drew BK286.out)
                 replace BK287 := Aside0.mk (blk_drew BK287.out)
                 replace BK291 := Aside0.mk (blk_drew BK291.out)
                 replace HB := Aside0.mk (below_drew1 HB.out)
                 refine start_ (n := 22) (S := fun w' => w'.cell? ⟨gb274, 0, none⟩ = some (.int .i64 t272) ∧ w'.cell? ⟨gb274, 1, none⟩ = some (.int .i64 t273) ∧ w'.cell? ⟨gb286, 0, none⟩ = some (.int .i64 t281) ∧ w'.cell? ⟨gb286, 1, none⟩ = some (.int .i64 t282) ∧ w'.cell? ⟨gb287, 0, none⟩ = some (.int .i64 t283) ∧ w'.cell? ⟨gb287, 1, none⟩ = some (.int .i64 t284)) (ds := []) ba10_14 (by kernel_rfl) rfl rfl ⟨(blk_cell BK274.out 0).trans rfl, (blk_cell BK274.out 1).trans rfl, (blk_cell BK286.out 0).trans rfl, (blk_cell BK286.out 1).trans rfl, (blk_cell BK287.out 0).trans rfl, (blk_cell BK287.out 1).trans rfl⟩ (fun hHeld => ?_); refine with_tabW laws_FnBlocks.tab19 laws_FnBlocks.bits19 (fun HT_ HW_ => ?_)
                 generalize w177.drew = w178 at BK274 BK280 BK286 BK287 BK291 HB hHeld ⊢
                 refine pz_ 1 94 ba10_15 HT_ ?_
                 refine pz_ 4 97 ba10_16 HT_ ?_
                 refine pt_ 0 93 ba10_17 HT_ HW_ hHeld ?_
                 refine pt_ 3 96 ba10_18 HT_ HW_ hHeld ?_
                 refine one_ (i := 2) (N := some 95) ba10_19 rfl rfl (one_of HT_.out (by kernel_rfl)) (by decide) (fun K hK => ?_)
                 refine gz_ Tryd.func16 #[.agg #[.int .i64 t272, .int .i64 t273], .int .i64 (Int.tmod (wrap64 (t272 + (wrap64 (t295 * t296)))) 65536)] ?_
                 with_reducible refine (impl_HasAddr.calls t272 t273 (Int.tmod (wrap64 (t272 + (wrap64 (t295 * t296)))) 65536) t297 _ A137.out).mono ?_
                 rintro e w179 ⟨rfl, hb⟩
                 refine ⟨_, rfl, ?_⟩
                 replace BK274 := Aside0.mk (bb_ BK274 hb)
                 replace BK280 := Aside0.mk (bb_ BK280 hb)
                 replace BK286 := Aside0.mk (bb_ BK286 hb)
                 replace BK287 := Aside0.mk (bb_ BK287 hb)
                 replace BK291 := Aside0.mk (bb_ BK291 hb)
                 replace HB := Aside0.mk (bt_ HB hb)
                 (try clear hb)
                 (try clear hb2)
                 (try clear hk)
                 (try clear hi)
                 refine hK.out _ _ ⟨(blk_cell BK274.out 0).trans rfl, (blk_cell BK274.out 1).trans rfl, (blk_cell BK286.out 0).trans rfl, (blk_cell BK286.out 1).trans rfl, (blk_cell BK287.out 0).trans rfl, (blk_cell BK287.out 1).trans rfl⟩ (fun hHeld => ?_)
                 clear hK K
                 refine nz_ 95 ?_
                 refine one_ (i := 5) (N := some 98) ba10_20 rfl rfl (one_of HT_.out (by kernel_rfl)) (by decide) (fun K hK => ?_)
                 refine gz_ Tryd.func16 #[.agg #[.int .i64 t281, .int .i64 t282], .int .i64 (Int.tmod (wrap64 (t272 + (wrap64 (t295 * t296)))) 65536)] ?_
                 with_reducible refine (impl_HasAddr.calls t281 t282 (Int.tmod (wrap64 (t272 + (wrap64 (t295 * t296)))) 65536) false _ A138.out).mono ?_
                 rintro e w180 ⟨rfl, hb⟩
                 refine ⟨_, rfl, ?_⟩
                 replace BK274 := Aside0.mk (bb_ BK274 hb)
                 replace BK280 := Aside0.mk (bb_ BK280 hb)
                 replace BK286 := Aside0.mk (bb_ BK286 hb)
                 replace BK287 := Aside0.mk (bb_ BK287 hb)
                 replace BK291 := Aside0.mk (bb_ BK291 hb)
                 replace HB := Aside0.mk (bt_ HB hb)
                 (try clear hb)
                 (try clear hb2)
                 (try clear hk)
                 (try clear hi)
                 refine hK.out _ _ ⟨(blk_cell BK274.out 0).trans rfl, (blk_cell BK274.out 1).trans rfl, (blk_cell BK286.out 0).trans rfl, (blk_cell BK286.out 1).trans rfl, (blk_cell BK287.out 0).trans rfl, (blk_cell BK287.out 1).trans rfl⟩ (fun hHeld => ?_)
                 clear hK K
                 refine nz_ 98 ?_
                 refine pz_ 6 99 ba10_21 HT_ ?_
                 refine pz_ 8 101 ba10_39 HT_ ?_
                 refine pt_ 7 100 ba10_23 HT_ HW_ hHeld ?_
                 refine one_ (i := 9) (N := some 102) ba10_24 rfl rfl (one_of HT_.out (by kernel_rfl)) (by decide) (fun K hK => ?_)
                 refine gz_ Tryd.func16 #[.agg #[.int .i64 t283, .int .i64 t284], .int .i64 (Int.tmod (wrap64 (t272 + (wrap64 (t295 * t296)))) 65536)] ?_
                 with_reducible refine (impl_HasAddr.calls t283 t284 (Int.tmod (wrap64 (t272 + (wrap64 (t295 * t296)))) 65536) t301 _ A166.out).mono ?_
                 rintro e w181 ⟨rfl, hb⟩
                 refine ⟨_, rfl, ?_⟩
                 replace BK274 := Aside0.mk (bb_ BK274 hb)
                 replace BK280 := Aside0.mk (bb_ BK280 hb)
                 replace BK286 := Aside0.mk (bb_ BK286 hb)
                 replace BK287 := Aside0.mk (bb_ BK287 hb)
                 replace BK291 := Aside0.mk (bb_ BK291 hb)
                 replace HB := Aside0.mk (bt_ HB hb)
                 (try clear hb)
                 (try clear hb2)
                 (try clear hk)
                 (try clear hi)
                 refine hK.out _ _ ⟨(blk_cell BK274.out 0).trans rfl, (blk_cell BK274.out 1).trans rfl, (blk_cell BK286.out 0).trans rfl, (blk_cell BK286.out 1).trans rfl, (blk_cell BK287.out 0).trans rfl, (blk_cell BK287.out 1).trans rfl⟩ (fun hHeld => ?_)
                 clear hK K
                 refine nz_ 102 ?_
                 refine pz_ 10 103 ba10_25 HT_ ?_
                 refine pz_ 11 104 ba10_26 HT_ ?_
                 refine pz_ 12 105 ba10_27 HT_ ?_
                 refine pz_ 14 107 ba10_37 HT_ ?_
                 refine pt_ 13 106 ba10_29 HT_ HW_ hHeld ?_
                 refine one_ (i := 15) (N := some 108) ba10_30 rfl rfl (one_of HT_.out (by kernel_rfl)) (by decide) (fun K hK => ?_)
                 refine gz_ Tryd.func16 #[.agg #[.int .i64 t281, .int .i64 t282], .int .i64 (Int.tmod (wrap64 (t272 + (wrap64 (t295 * t296)))) 65536)] ?_
                 with_reducible refine (impl_HasAddr.calls t281 t282 (Int.tmod (wrap64 (t272 + (wrap64 (t295 * t296)))) 65536) true _ A173.out).mono ?_
                 rintro e w182 ⟨rfl, hb⟩
                 refine ⟨_, rfl, ?_⟩
                 replace BK274 := Aside0.mk (bb_ BK274 hb)
                 replace BK280 := Aside0.mk (bb_ BK280 hb)
                 replace BK286 := Aside0.mk (bb_ BK286 hb)
                 replace BK287 := Aside0.mk (bb_ BK287 hb)
                 replace BK291 := Aside0.mk (bb_ BK291 hb)
                 replace HB := Aside0.mk (bt_ HB hb)
                 (try clear hb)
                 (try clear hb2)
                 (try clear hk)
                 (try clear hi)
                 refine hK.out _ _ ⟨(blk_cell BK274.out 0).trans rfl, (blk_cell BK274.out 1).trans rfl, (blk_cell BK286.out 0).trans rfl, (blk_cell BK286.out 1).trans rfl, (blk_cell BK287.out 0).trans rfl, (blk_cell BK287.out 1).trans rfl⟩ (fun hHeld => ?_)
                 clear hK K
                 refine nz_ 108 ?_
                 refine pz_ 16 109 ba10_31 HT_ ?_
                 refine pz_ 18 111 ba10_38 HT_ ?_
                 refine pt_ 17 110 ba10_33 HT_ HW_ hHeld ?_
                 refine one_ (i := 19) (N := some 112) ba10_34 rfl rfl (one_of HT_.out (by kernel_rfl)) (by decide) (fun K hK => ?_)
                 refine gz_ Tryd.func16 #[.agg #[.int .i64 t283, .int .i64 t284], .int .i64 (Int.tmod (wrap64 (t272 + (wrap64 (t295 * t296)))) 65536)] ?_
                 with_reducible refine (impl_HasAddr.calls t283 t284 (Int.tmod (wrap64 (t272 + (wrap64 (t295 * t296)))) 65536) true _ A175.out).mono ?_
                 rintro e w183 ⟨rfl, hb⟩
                 refine ⟨_, rfl, ?_⟩
                 replace BK274 := Aside0.mk (bb_ BK274 hb)
                 replace BK280 := Aside0.mk (bb_ BK280 hb)
                 replace BK286 := Aside0.mk (bb_ BK286 hb)
                 replace BK287 := Aside0.mk (bb_ BK287 hb)
                 replace BK291 := Aside0.mk (bb_ BK291 hb)
                 replace HB := Aside0.mk (bt_ HB hb)
                 (try clear hb)
                 (try clear hb2)
                 (try clear hk)
                 (try clear hi)
                 refine hK.out _ _ ⟨(blk_cell BK274.out 0).trans rfl, (blk_cell BK274.out 1).trans rfl, (blk_cell BK286.out 0).trans rfl, (blk_cell BK286.out 1).trans rfl, (blk_cell BK287.out 0).trans rfl, (blk_cell BK287.out 1).trans rfl⟩ (fun hHeld => ?_)
                 clear hK K
                 refine nz_ 112 ?_
                 refine pz_ 20 113 ba10_35 HT_ ?_
                 refine pz_ 21 114 ba10_36 HT_ ?_
                 refine done_ (done_of HT_.out (by kernel_rfl)) ?_
                 try go_wp2
                 go_ret
                 exact ⟨by first | rfl | (simp [errW_none, errW_some] <;> rfl) | (simp [*, errW_none, errW_some] <;> rfl), by repeat (first | (with_reducible first | exact HB.out | apply below_alloc | apply pw_below_drewN | apply below_drew1 | refine below_set ?_ GE274.out | refine below_set ?_ GE280.out | refine below_set ?_ GE286.out | refine below_set ?_ GE287.out | refine below_set ?_ GE291.out) | exact HB.out)⟩
                ·replace c176 := Bool.eq_false_iff.mpr c176
                 subst c176
                 rw [if_neg (show ¬ (false = true) by decide)] at H
                 have H' := Aside0.mk H
                 clear H
                 try go_wp2
                 replace BK274 := Aside0.mk (blk_drew BK274.out)
                 replace BK280 := Aside0.mk (blk_drew BK280.out)
                 replace BK286 := Aside0.mk (blk_drew BK286.out)
                 replace BK287 := Aside0.mk (blk_drew BK287.out)
                 replace BK291 := Aside0.mk (blk_drew BK291.out)
                 replace HB := Aside0.mk (below_drew1 HB.out)
                 refine start_ (n := 13) (S := fun w' => w'.cell? ⟨gb274, 0, none⟩ = some (.int .i64 t272) ∧ w'.cell? ⟨gb274, 1, none⟩ = some (.int .i64 t273)) (ds := []) ba10_0 (by kernel_rfl) rfl rfl ⟨(blk_cell BK274.out 0).trans rfl, (blk_cell BK274.out 1).trans rfl⟩ (fun hHeld => ?_); refine with_tabW laws_FnBlocks.tab18 laws_FnBlocks.bits18 (fun HT_ HW_ => ?_)
                 generalize wr.drew = w184 at BK274 BK280 BK286 BK287 BK291 HB hHeld ⊢
                 refine pz_ 0 81 ba10_1 HT_ ?_
                 refine pz_ 2 83 ba10_2 HT_ ?_
                 refine pz_ 3 84 ba10_3 HT_ ?_
                 refine pz_ 5 86 ba10_4 HT_ ?_
                 refine pz_ 6 87 ba10_5 HT_ ?_
                 refine pz_ 7 88 ba10_6 HT_ ?_
                 refine pt_ 1 82 ba10_7 HT_ HW_ hHeld ?_
                 refine one_ (i := 4) (N := some 85) ba10_8 rfl rfl (one_of HT_.out (by kernel_rfl)) (by decide) (fun K hK => ?_)
                 refine gz_ Tryd.func15 #[.slice A0 l0.length c0, .int .i64 x11_3] ?_
                 with_reducible refine (laws_at.calls _ _ l0 x11_3 t295 _ ?side1 ?side2 A135.out).mono ?_
                 (case side1 => exact cb_ HR0 HB)
                 (case side2 => exact HC0.out)
                 rintro e w' ⟨rfl, ⟨nd, rfl⟩⟩
                 refine ⟨_, rfl, ?_⟩
                 refine hK.out _ _ ⟨(blk_cell BK274.out 0).trans rfl, (blk_cell BK274.out 1).trans rfl⟩ (fun hHeld => ?_)
                 clear hK K
                 refine nz_ 85 ?_
                 refine one_ (i := 8) (N := some 89) ba10_9 rfl rfl (one_of HT_.out (by kernel_rfl)) (by decide) (fun K hK => ?_)
                 refine gz_ Tryd.func15 #[.slice A0 l0.length c0, .int .i64 (wrap64 (x11_3 + 1))] ?_
                 with_reducible refine (laws_at.calls _ _ l0 (wrap64 (x11_3 + 1)) t296 _ ?side1 ?side2 A136.out).mono ?_
                 (case side1 => exact cc_ HR0 HB)
                 (case side2 => exact HC0.out)
                 rintro e w' ⟨rfl, ⟨nd, rfl⟩⟩
                 refine ⟨_, rfl, ?_⟩
                 refine hK.out _ _ ⟨(blk_cell BK274.out 0).trans rfl, (blk_cell BK274.out 1).trans rfl⟩ (fun hHeld => ?_)
                 clear hK K
                 refine nz_ 89 ?_
                 refine pz_ 9 90 ba10_10 HT_ ?_
                 refine pz_ 10 91 ba10_11 HT_ ?_
                 refine pz_ 11 92 ba10_12 HT_ ?_
                 refine pz_ 12 12 ba10_13 HT_ ?_
                 refine done_ (done_of HT_.out (by kernel_rfl)) ?_
                 try go_wp2
                 (try (rw [drewN_self w184]; generalize hq_ : World.drewN w184 _ = w184; replace BK274 : Aside0 (w184.heap[gb274]? = some (.cells #[.int .i64 t272, .int .i64 t273] 25 (0, 0))) := ⟨by rw [← hq_]; exact (by (with_reducible repeat (first | refine blk_drewN ?_ _ | refine blk_drew ?_ | refine blk_alloc ?_ _)); exact BK274.out)⟩; replace BK280 : Aside0 (w184.heap[gb280]? = some (.cells #[.int .i64 t277, .int .i64 t278] 25 (0, 0))) := ⟨by rw [← hq_]; exact (by (with_reducible repeat (first | refine blk_drewN ?_ _ | refine blk_drew ?_ | refine blk_alloc ?_ _)); exact BK280.out)⟩; replace BK286 : Aside0 (w184.heap[gb286]? = some (.cells #[.int .i64 t281, .int .i64 t282] 25 (0, 0))) := ⟨by rw [← hq_]; exact (by (with_reducible repeat (first | refine blk_drewN ?_ _ | refine blk_drew ?_ | refine blk_alloc ?_ _)); exact BK286.out)⟩; replace BK287 : Aside0 (w184.heap[gb287]? = some (.cells #[.int .i64 t283, .int .i64 t284] 25 (0, 0))) := ⟨by rw [← hq_]; exact (by (with_reducible repeat (first | refine blk_drewN ?_ _ | refine blk_drew ?_ | refine blk_alloc ?_ _)); exact BK287.out)⟩; replace BK291 : Aside0 (w184.heap[gb291]? = some (.cells #[.int .i64 t288, .int .i64 t289] 25 (0, 0))) := ⟨by rw [← hq_]; exact (by (with_reducible repeat (first | refine blk_drewN ?_ _ | refine blk_drew ?_ | refine blk_alloc ?_ _)); exact BK291.out)⟩; replace HB : Aside0 (Below w.heap.size w w184) := ⟨by rw [← hq_]; exact (by repeat (first | (with_reducible first | exact HB.out | apply below_alloc | apply pw_below_drewN | apply below_drew1 | refine below_set ?_ GE274.out | refine below_set ?_ GE280.out | refine below_set ?_ GE286.out | refine below_set ?_ GE287.out | refine below_set ?_ GE291.out) | exact HB.out))⟩; clear hq_))
                 (try (rw [drewN_self w184]; generalize hq_ : World.drewN w184 _ = w184; replace BK274 : Aside0 (w184.heap[gb274]? = some (.cells #[.int .i64 t272, .int .i64 t273] 25 (0, 0))) := ⟨by rw [← hq_]; exact (by (with_reducible repeat (first | refine blk_drewN ?_ _ | refine blk_drew ?_ | refine blk_alloc ?_ _)); exact BK274.out)⟩; replace BK280 : Aside0 (w184.heap[gb280]? = some (.cells #[.int .i64 t277, .int .i64 t278] 25 (0, 0))) := ⟨by rw [← hq_]; exact (by (with_reducible repeat (first | refine blk_drewN ?_ _ | refine blk_drew ?_ | refine blk_alloc ?_ _)); exact BK280.out)⟩; replace BK286 : Aside0 (w184.heap[gb286]? = some (.cells #[.int .i64 t281, .int .i64 t282] 25 (0, 0))) := ⟨by rw [← hq_]; exact (by (with_reducible repeat (first | refine blk_drewN ?_ _ | refine blk_drew ?_ | refine blk_alloc ?_ _)); exact BK286.out)⟩; replace BK287 : Aside0 (w184.heap[gb287]? = some (.cells #[.int .i64 t283, .int .i64 t284] 25 (0, 0))) := ⟨by rw [← hq_]; exact (by (with_reducible repeat (first | refine blk_drewN ?_ _ | refine blk_drew ?_ | refine blk_alloc ?_ _)); exact BK287.out)⟩; replace BK291 : Aside0 (w184.heap[gb291]? = some (.cells #[.int .i64 t288, .int .i64 t289] 25 (0, 0))) := ⟨by rw [← hq_]; exact (by (with_reducible repeat (first | refine blk_drewN ?_ _ | refine blk_drew ?_ | refine blk_alloc ?_ _)); exact BK291.out)⟩; replace HB : Aside0 (Below w.heap.size w w184) := ⟨by rw [← hq_]; exact (by repeat (first | (with_reducible first | exact HB.out | apply below_alloc | apply pw_below_drewN | apply below_drew1 | refine below_set ?_ GE274.out | refine below_set ?_ GE280.out | refine below_set ?_ GE286.out | refine below_set ?_ GE287.out | refine below_set ?_ GE291.out) | exact HB.out))⟩; clear hq_))
                 replace BK274 := Aside0.mk (blk_drew BK274.out)
                 replace BK280 := Aside0.mk (blk_drew BK280.out)
                 replace BK286 := Aside0.mk (blk_drew BK286.out)
                 replace BK287 := Aside0.mk (blk_drew BK287.out)
                 replace BK291 := Aside0.mk (blk_drew BK291.out)
                 replace HB := Aside0.mk (below_drew1 HB.out)
                 refine start_ (n := 22) (S := fun w' => w'.cell? ⟨gb274, 0, none⟩ = some (.int .i64 t272) ∧ w'.cell? ⟨gb274, 1, none⟩ = some (.int .i64 t273) ∧ w'.cell? ⟨gb286, 0, none⟩ = some (.int .i64 t281) ∧ w'.cell? ⟨gb286, 1, none⟩ = some (.int .i64 t282) ∧ w'.cell? ⟨gb287, 0, none⟩ = some (.int .i64 t283) ∧ w'.cell? ⟨gb287, 1, none⟩ = some (.int .i64 t284)) (ds := []) ba10_14 (by kernel_rfl) rfl rfl ⟨(blk_cell BK274.out 0).trans rfl, (blk_cell BK274.out 1).trans rfl, (blk_cell BK286.out 0).trans rfl, (blk_cell BK286.out 1).trans rfl, (blk_cell BK287.out 0).trans rfl, (blk_cell BK287.out 1).trans rfl⟩ (fun hHeld => ?_); refine with_tabW laws_FnBlocks.tab19 laws_FnBlocks.bits19 (fun HT_ HW_ => ?_)
                 generalize w184.drew = w185 at BK274 BK280 BK286 BK287 BK291 HB hHeld ⊢
                 refine pz_ 1 94 ba10_15 HT_ ?_
                 refine pz_ 4 97 ba10_16 HT_ ?_
                 refine pt_ 0 93 ba10_17 HT_ HW_ hHeld ?_
                 refine pt_ 3 96 ba10_18 HT_ HW_ hHeld ?_
                 refine one_ (i := 2) (N := some 95) ba10_19 rfl rfl (one_of HT_.out (by kernel_rfl)) (by decide) (fun K hK => ?_)
                 refine gz_ Tryd.func16 #[.agg #[.int .i64 t272, .int .i64 t273], .int .i64 (Int.tmod (wrap64 (t272 + (wrap64 (t295 * t296)))) 65536)] ?_
                 with_reducible refine (impl_HasAddr.calls t272 t273 (Int.tmod (wrap64 (t272 + (wrap64 (t295 * t296)))) 65536) t297 _ A137.out).mono ?_
                 rintro e w186 ⟨rfl, hb⟩
                 refine ⟨_, rfl, ?_⟩
                 replace BK274 := Aside0.mk (bb_ BK274 hb)
                 replace BK280 := Aside0.mk (bb_ BK280 hb)
                 replace BK286 := Aside0.mk (bb_ BK286 hb)
                 replace BK287 := Aside0.mk (bb_ BK287 hb)
                 replace BK291 := Aside0.mk (bb_ BK291 hb)
                 replace HB := Aside0.mk (bt_ HB hb)
                 (try clear hb)
                 (try clear hb2)
                 (try clear hk)
                 (try clear hi)
                 refine hK.out _ _ ⟨(blk_cell BK274.out 0).trans rfl, (blk_cell BK274.out 1).trans rfl, (blk_cell BK286.out 0).trans rfl, (blk_cell BK286.out 1).trans rfl, (blk_cell BK287.out 0).trans rfl, (blk_cell BK287.out 1).trans rfl⟩ (fun hHeld => ?_)
                 clear hK K
                 refine nz_ 95 ?_
                 refine one_ (i := 5) (N := some 98) ba10_20 rfl rfl (one_of HT_.out (by kernel_rfl)) (by decide) (fun K hK => ?_)
                 refine gz_ Tryd.func16 #[.agg #[.int .i64 t281, .int .i64 t282], .int .i64 (Int.tmod (wrap64 (t272 + (wrap64 (t295 * t296)))) 65536)] ?_
                 with_reducible refine (impl_HasAddr.calls t281 t282 (Int.tmod (wrap64 (t272 + (wrap64 (t295 * t296)))) 65536) false _ A138.out).mono ?_
                 rintro e w187 ⟨rfl, hb⟩
                 refine ⟨_, rfl, ?_⟩
                 replace BK274 := Aside0.mk (bb_ BK274 hb)
                 replace BK280 := Aside0.mk (bb_ BK280 hb)
                 replace BK286 := Aside0.mk (bb_ BK286 hb)
                 replace BK287 := Aside0.mk (bb_ BK287 hb)
                 replace BK291 := Aside0.mk (bb_ BK291 hb)
                 replace HB := Aside0.mk (bt_ HB hb)
                 (try clear hb)
                 (try clear hb2)
                 (try clear hk)
                 (try clear hi)
                 refine hK.out _ _ ⟨(blk_cell BK274.out 0).trans rfl, (blk_cell BK274.out 1).trans rfl, (blk_cell BK286.out 0).trans rfl, (blk_cell BK286.out 1).trans rfl, (blk_cell BK287.out 0).trans rfl, (blk_cell BK287.out 1).trans rfl⟩ (fun hHeld => ?_)
                 clear hK K
                 refine nz_ 98 ?_
                 refine pz_ 6 99 ba10_21 HT_ ?_
                 refine pz_ 8 101 ba10_39 HT_ ?_
                 refine pt_ 7 100 ba10_23 HT_ HW_ hHeld ?_
                 refine one_ (i := 9) (N := some 102) ba10_24 rfl rfl (one_of HT_.out (by kernel_rfl)) (by decide) (fun K hK => ?_)
                 refine gz_ Tryd.func16 #[.agg #[.int .i64 t283, .int .i64 t284], .int .i64 (Int.tmod (wrap64 (t272 + (wrap64 (t295 * t296)))) 65536)] ?_
                 with_reducible refine (impl_HasAddr.calls t283 t284 (Int.tmod (wrap64 (t272 + (wrap64 (t295 * t296)))) 65536) t301 _ A166.out).mono ?_
                 rintro e w188 ⟨rfl, hb⟩
                 refine ⟨_, rfl, ?_⟩
                 replace BK274 := Aside0.mk (bb_ BK274 hb)
                 replace BK280 := Aside0.mk (bb_ BK280 hb)
                 replace BK286 := Aside0.mk (bb_ BK286 hb)
                 replace BK287 := Aside0.mk (bb_ BK287 hb)
                 replace BK291 := Aside0.mk (bb_ BK291 hb)
                 replace HB := Aside0.mk (bt_ HB hb)
                 (try clear hb)
                 (try clear hb2)
                 (try clear hk)
                 (try clear hi)
                 refine hK.out _ _ ⟨(blk_cell BK274.out 0).trans rfl, (blk_cell BK274.out 1).trans rfl, (blk_cell BK286.out 0).trans rfl, (blk_cell BK286.out 1).trans rfl, (blk_cell BK287.out 0).trans rfl, (blk_cell BK287.out 1).trans rfl⟩ (fun hHeld => ?_)
                 clear hK K
                 refine nz_ 102 ?_
                 refine pz_ 10 103 ba10_25 HT_ ?_
                 refine pz_ 11 104 ba10_26 HT_ ?_
                 refine pz_ 12 105 ba10_27 HT_ ?_
                 refine pz_ 14 107 ba10_37 HT_ ?_
                 refine pt_ 13 106 ba10_29 HT_ HW_ hHeld ?_
                 refine one_ (i := 15) (N := some 108) ba10_30 rfl rfl (one_of HT_.out (by kernel_rfl)) (by decide) (fun K hK => ?_)
                 refine gz_ Tryd.func16 #[.agg #[.int .i64 t281, .int .i64 t282], .int .i64 (Int.tmod (wrap64 (t272 + (wrap64 (t295 * t296)))) 65536)] ?_
                 with_reducible refine (impl_HasAddr.calls t281 t282 (Int.tmod (wrap64 (t272 + (wrap64 (t295 * t296)))) 65536) true _ A173.out).mono ?_
                 rintro e w189 ⟨rfl, hb⟩
                 refine ⟨_, rfl, ?_⟩
                 replace BK274 := Aside0.mk (bb_ BK274 hb)
                 replace BK280 := Aside0.mk (bb_ BK280 hb)
                 replace BK286 := Aside0.mk (bb_ BK286 hb)
                 replace BK287 := Aside0.mk (bb_ BK287 hb)
                 replace BK291 := Aside0.mk (bb_ BK291 hb)
                 replace HB := Aside0.mk (bt_ HB hb)
                 (try clear hb)
                 (try clear hb2)
                 (try clear hk)
                 (try clear hi)
                 refine hK.out _ _ ⟨(blk_cell BK274.out 0).trans rfl, (blk_cell BK274.out 1).trans rfl, (blk_cell BK286.out 0).trans rfl, (blk_cell BK286.out 1).trans rfl, (blk_cell BK287.out 0).trans rfl, (blk_cell BK287.out 1).trans rfl⟩ (fun hHeld => ?_)
                 clear hK K
                 refine nz_ 108 ?_
                 refine pz_ 16 109 ba10_31 HT_ ?_
                 refine pz_ 18 111 ba10_38 HT_ ?_
                 refine pt_ 17 110 ba10_33 HT_ HW_ hHeld ?_
                 refine one_ (i := 19) (N := some 112) ba10_34 rfl rfl (one_of HT_.out (by kernel_rfl)) (by decide) (fun K hK => ?_)
                 refine gz_ Tryd.func16 #[.agg #[.int .i64 t283, .int .i64 t284], .int .i64 (Int.tmod (wrap64 (t272 + (wrap64 (t295 * t296)))) 65536)] ?_
                 with_reducible refine (impl_HasAddr.calls t283 t284 (Int.tmod (wrap64 (t272 + (wrap64 (t295 * t296)))) 65536) false _ A175.out).mono ?_
                 rintro e w190 ⟨rfl, hb⟩
                 refine ⟨_, rfl, ?_⟩
                 replace BK274 := Aside0.mk (bb_ BK274 hb)
                 replace BK280 := Aside0.mk (bb_ BK280 hb)
                 replace BK286 := Aside0.mk (bb_ BK286 hb)
                 replace BK287 := Aside0.mk (bb_ BK287 hb)
                 replace BK291 := Aside0.mk (bb_ BK291 hb)
                 replace HB := Aside0.mk (bt_ HB hb)
                 (try clear hb)
                 (try clear hb2)
                 (try clear hk)
                 (try clear hi)
                 refine hK.out _ _ ⟨(blk_cell BK274.out 0).trans rfl, (blk_cell BK274.out 1).trans rfl, (blk_cell BK286.out 0).trans rfl, (blk_cell BK286.out 1).trans rfl, (blk_cell BK287.out 0).trans rfl, (blk_cell BK287.out 1).trans rfl⟩ (fun hHeld => ?_)
                 clear hK K
                 refine nz_ 112 ?_
                 refine pz_ 20 113 ba10_35 HT_ ?_
                 refine pz_ 21 114 ba10_36 HT_ ?_
                 refine done_ (done_of HT_.out (by kernel_rfl)) ?_
                 try go_wp2
                 go_roundg k3
                 case measure => have := HJ8.out; have := HJ40.out; have := HK3.out; omega
                 case rel => exact ⟨(wrap64 (x11_3 + 1)), (by first | rfl | (simp; done) | (simp [*]; done)), H', ⟨by have := HJ8.out; have := HJ40.out; have := HK3.out; omega⟩, ⟨by (with_reducible repeat (first | refine blk_drewN ?_ _ | refine blk_drew ?_ | refine blk_alloc ?_ _)); exact BK274.out⟩, ⟨by (with_reducible repeat (first | refine blk_drewN ?_ _ | refine blk_drew ?_ | refine blk_alloc ?_ _)); exact BK280.out⟩, ⟨by (with_reducible repeat (first | refine blk_drewN ?_ _ | refine blk_drew ?_ | refine blk_alloc ?_ _)); exact BK286.out⟩, ⟨by (with_reducible repeat (first | refine blk_drewN ?_ _ | refine blk_drew ?_ | refine blk_alloc ?_ _)); exact BK287.out⟩, ⟨by (with_reducible repeat (first | refine blk_drewN ?_ _ | refine blk_drew ?_ | refine blk_alloc ?_ _)); exact BK291.out⟩, ⟨by repeat (first | (with_reducible first | exact HB.out | apply below_alloc | apply pw_below_drewN | apply below_drew1 | refine below_set ?_ GE274.out | refine below_set ?_ GE280.out | refine below_set ?_ GE286.out | refine below_set ?_ GE287.out | refine below_set ?_ GE291.out) | exact HB.out)⟩⟩
               ·replace c174 := Bool.eq_false_iff.mpr c174
                subst c174
                rw [if_neg (show ¬ (false = true) by decide)] at H
                have H' := Aside0.mk H
                clear H
                try go_wp2
                replace BK274 := Aside0.mk (blk_drew BK274.out)
                replace BK280 := Aside0.mk (blk_drew BK280.out)
                replace BK286 := Aside0.mk (blk_drew BK286.out)
                replace BK287 := Aside0.mk (blk_drew BK287.out)
                replace BK291 := Aside0.mk (blk_drew BK291.out)
                replace HB := Aside0.mk (below_drew1 HB.out)
                refine start_ (n := 13) (S := fun w' => w'.cell? ⟨gb274, 0, none⟩ = some (.int .i64 t272) ∧ w'.cell? ⟨gb274, 1, none⟩ = some (.int .i64 t273)) (ds := []) ba10_0 (by kernel_rfl) rfl rfl ⟨(blk_cell BK274.out 0).trans rfl, (blk_cell BK274.out 1).trans rfl⟩ (fun hHeld => ?_); refine with_tabW laws_FnBlocks.tab18 laws_FnBlocks.bits18 (fun HT_ HW_ => ?_)
                generalize wr.drew = w191 at BK274 BK280 BK286 BK287 BK291 HB hHeld ⊢
                refine pz_ 0 81 ba10_1 HT_ ?_
                refine pz_ 2 83 ba10_2 HT_ ?_
                refine pz_ 3 84 ba10_3 HT_ ?_
                refine pz_ 5 86 ba10_4 HT_ ?_
                refine pz_ 6 87 ba10_5 HT_ ?_
                refine pz_ 7 88 ba10_6 HT_ ?_
                refine pt_ 1 82 ba10_7 HT_ HW_ hHeld ?_
                refine one_ (i := 4) (N := some 85) ba10_8 rfl rfl (one_of HT_.out (by kernel_rfl)) (by decide) (fun K hK => ?_)
                refine gz_ Tryd.func15 #[.slice A0 l0.length c0, .int .i64 x11_3] ?_
                with_reducible refine (laws_at.calls _ _ l0 x11_3 t295 _ ?side1 ?side2 A135.out).mono ?_
                (case side1 => exact cb_ HR0 HB)
                (case side2 => exact HC0.out)
                rintro e w' ⟨rfl, ⟨nd, rfl⟩⟩
                refine ⟨_, rfl, ?_⟩
                refine hK.out _ _ ⟨(blk_cell BK274.out 0).trans rfl, (blk_cell BK274.out 1).trans rfl⟩ (fun hHeld => ?_)
                clear hK K
                refine nz_ 85 ?_
                refine one_ (i := 8) (N := some 89) ba10_9 rfl rfl (one_of HT_.out (by kernel_rfl)) (by decide) (fun K hK => ?_)
                refine gz_ Tryd.func15 #[.slice A0 l0.length c0, .int .i64 (wrap64 (x11_3 + 1))] ?_
                with_reducible refine (laws_at.calls _ _ l0 (wrap64 (x11_3 + 1)) t296 _ ?side1 ?side2 A136.out).mono ?_
                (case side1 => exact cc_ HR0 HB)
                (case side2 => exact HC0.out)
                rintro e w' ⟨rfl, ⟨nd, rfl⟩⟩
                refine ⟨_, rfl, ?_⟩
                refine hK.out _ _ ⟨(blk_cell BK274.out 0).trans rfl, (blk_cell BK274.out 1).trans rfl⟩ (fun hHeld => ?_)
                clear hK K
                refine nz_ 89 ?_
                refine pz_ 9 90 ba10_10 HT_ ?_
                refine pz_ 10 91 ba10_11 HT_ ?_
                refine pz_ 11 92 ba10_12 HT_ ?_
                refine pz_ 12 12 ba10_13 HT_ ?_
                refine done_ (done_of HT_.out (by kernel_rfl)) ?_
                try go_wp2
                (try (rw [drewN_self w191]; generalize hq_ : World.drewN w191 _ = w191; replace BK274 : Aside0 (w191.heap[gb274]? = some (.cells #[.int .i64 t272, .int .i64 t273] 25 (0, 0))) := ⟨by rw [← hq_]; exact (by (with_reducible repeat (first | refine blk_drewN ?_ _ | refine blk_drew ?_ | refine blk_alloc ?_ _)); exact BK274.out)⟩; replace BK280 : Aside0 (w191.heap[gb280]? = some (.cells #[.int .i64 t277, .int .i64 t278] 25 (0, 0))) := ⟨by rw [← hq_]; exact (by (with_reducible repeat (first | refine blk_drewN ?_ _ | refine blk_drew ?_ | refine blk_alloc ?_ _)); exact BK280.out)⟩; replace BK286 : Aside0 (w191.heap[gb286]? = some (.cells #[.int .i64 t281, .int .i64 t282] 25 (0, 0))) := ⟨by rw [← hq_]; exact (by (with_reducible repeat (first | refine blk_drewN ?_ _ | refine blk_drew ?_ | refine blk_alloc ?_ _)); exact BK286.out)⟩; replace BK287 : Aside0 (w191.heap[gb287]? = some (.cells #[.int .i64 t283, .int .i64 t284] 25 (0, 0))) := ⟨by rw [← hq_]; exact (by (with_reducible repeat (first | refine blk_drewN ?_ _ | refine blk_drew ?_ | refine blk_alloc ?_ _)); exact BK287.out)⟩; replace BK291 : Aside0 (w191.heap[gb291]? = some (.cells #[.int .i64 t288, .int .i64 t289] 25 (0, 0))) := ⟨by rw [← hq_]; exact (by (with_reducible repeat (first | refine blk_drewN ?_ _ | refine blk_drew ?_ | refine blk_alloc ?_ _)); exact BK291.out)⟩; replace HB : Aside0 (Below w.heap.size w w191) := ⟨by rw [← hq_]; exact (by repeat (first | (with_reducible first | exact HB.out | apply below_alloc | apply pw_below_drewN | apply below_drew1 | refine below_set ?_ GE274.out | refine below_set ?_ GE280.out | refine below_set ?_ GE286.out | refine below_set ?_ GE287.out | refine below_set ?_ GE291.out) | exact HB.out))⟩; clear hq_))
                (try (rw [drewN_self w191]; generalize hq_ : World.drewN w191 _ = w191; replace BK274 : Aside0 (w191.heap[gb274]? = some (.cells #[.int .i64 t272, .int .i64 t273] 25 (0, 0))) := ⟨by rw [← hq_]; exact (by (with_reducible repeat (first | refine blk_drewN ?_ _ | refine blk_drew ?_ | refine blk_alloc ?_ _)); exact BK274.out)⟩; replace BK280 : Aside0 (w191.heap[gb280]? = some (.cells #[.int .i64 t277, .int .i64 t278] 25 (0, 0))) := ⟨by rw [← hq_]; exact (by (with_reducible repeat (first | refine blk_drewN ?_ _ | refine blk_drew ?_ | refine blk_alloc ?_ _)); exact BK280.out)⟩; replace BK286 : Aside0 (w191.heap[gb286]? = some (.cells #[.int .i64 t281, .int .i64 t282] 25 (0, 0))) := ⟨by rw [← hq_]; exact (by (with_reducible repeat (first | refine blk_drewN ?_ _ | refine blk_drew ?_ | refine blk_alloc ?_ _)); exact BK286.out)⟩; replace BK287 : Aside0 (w191.heap[gb287]? = some (.cells #[.int .i64 t283, .int .i64 t284] 25 (0, 0))) := ⟨by rw [← hq_]; exact (by (with_reducible repeat (first | refine blk_drewN ?_ _ | refine blk_drew ?_ | refine blk_alloc ?_ _)); exact BK287.out)⟩; replace BK291 : Aside0 (w191.heap[gb291]? = some (.cells #[.int .i64 t288, .int .i64 t289] 25 (0, 0))) := ⟨by rw [← hq_]; exact (by (with_reducible repeat (first | refine blk_drewN ?_ _ | refine blk_drew ?_ | refine blk_alloc ?_ _)); exact BK291.out)⟩; replace HB : Aside0 (Below w.heap.size w w191) := ⟨by rw [← hq_]; exact (by repeat (first | (with_reducible first | exact HB.out | apply below_alloc | apply pw_below_drewN | apply below_drew1 | refine below_set ?_ GE274.out | refine below_set ?_ GE280.out | refine below_set ?_ GE286.out | refine below_set ?_ GE287.out | refine below_set ?_ GE291.out) | exact HB.out))⟩; clear hq_))
                replace BK274 := Aside0.mk (blk_drew BK274.out)
                replace BK280 := Aside0.mk (blk_drew BK280.out)
                replace BK286 := Aside0.mk (blk_drew BK286.out)
                replace BK287 := Aside0.mk (blk_drew BK287.out)
                replace BK291 := Aside0.mk (blk_drew BK291.out)
                replace HB := Aside0.mk (below_drew1 HB.out)
                refine start_ (n := 22) (S := fun w' => w'.cell? ⟨gb274, 0, none⟩ = some (.int .i64 t272) ∧ w'.cell? ⟨gb274, 1, none⟩ = some (.int .i64 t273) ∧ w'.cell? ⟨gb286, 0, none⟩ = some (.int .i64 t281) ∧ w'.cell? ⟨gb286, 1, none⟩ = some (.int .i64 t282) ∧ w'.cell? ⟨gb287, 0, none⟩ = some (.int .i64 t283) ∧ w'.cell? ⟨gb287, 1, none⟩ = some (.int .i64 t284)) (ds := []) ba10_14 (by kernel_rfl) rfl rfl ⟨(blk_cell BK274.out 0).trans rfl, (blk_cell BK274.out 1).trans rfl, (blk_cell BK286.out 0).trans rfl, (blk_cell BK286.out 1).trans rfl, (blk_cell BK287.out 0).trans rfl, (blk_cell BK287.out 1).trans rfl⟩ (fun hHeld => ?_); refine with_tabW laws_FnBlocks.tab19 laws_FnBlocks.bits19 (fun HT_ HW_ => ?_)
                generalize w191.drew = w192 at BK274 BK280 BK286 BK287 BK291 HB hHeld ⊢
                refine pz_ 1 94 ba10_15 HT_ ?_
                refine pz_ 4 97 ba10_16 HT_ ?_
                refine pt_ 0 93 ba10_17 HT_ HW_ hHeld ?_
                refine pt_ 3 96 ba10_18 HT_ HW_ hHeld ?_
                refine one_ (i := 2) (N := some 95) ba10_19 rfl rfl (one_of HT_.out (by kernel_rfl)) (by decide) (fun K hK => ?_)
                refine gz_ Tryd.func16 #[.agg #[.int .i64 t272, .int .i64 t273], .int .i64 (Int.tmod (wrap64 (t272 + (wrap64 (t295 * t296)))) 65536)] ?_
                with_reducible refine (impl_HasAddr.calls t272 t273 (Int.tmod (wrap64 (t272 + (wrap64 (t295 * t296)))) 65536) t297 _ A137.out).mono ?_
                rintro e w193 ⟨rfl, hb⟩
                refine ⟨_, rfl, ?_⟩
                replace BK274 := Aside0.mk (bb_ BK274 hb)
                replace BK280 := Aside0.mk (bb_ BK280 hb)
                replace BK286 := Aside0.mk (bb_ BK286 hb)
                replace BK287 := Aside0.mk (bb_ BK287 hb)
                replace BK291 := Aside0.mk (bb_ BK291 hb)
                replace HB := Aside0.mk (bt_ HB hb)
                (try clear hb)
                (try clear hb2)
                (try clear hk)
                (try clear hi)
                refine hK.out _ _ ⟨(blk_cell BK274.out 0).trans rfl, (blk_cell BK274.out 1).trans rfl, (blk_cell BK286.out 0).trans rfl, (blk_cell BK286.out 1).trans rfl, (blk_cell BK287.out 0).trans rfl, (blk_cell BK287.out 1).trans rfl⟩ (fun hHeld => ?_)
                clear hK K
                refine nz_ 95 ?_
                refine one_ (i := 5) (N := some 98) ba10_20 rfl rfl (one_of HT_.out (by kernel_rfl)) (by decide) (fun K hK => ?_)
                refine gz_ Tryd.func16 #[.agg #[.int .i64 t281, .int .i64 t282], .int .i64 (Int.tmod (wrap64 (t272 + (wrap64 (t295 * t296)))) 65536)] ?_
                with_reducible refine (impl_HasAddr.calls t281 t282 (Int.tmod (wrap64 (t272 + (wrap64 (t295 * t296)))) 65536) false _ A138.out).mono ?_
                rintro e w194 ⟨rfl, hb⟩
                refine ⟨_, rfl, ?_⟩
                replace BK274 := Aside0.mk (bb_ BK274 hb)
                replace BK280 := Aside0.mk (bb_ BK280 hb)
                replace BK286 := Aside0.mk (bb_ BK286 hb)
                replace BK287 := Aside0.mk (bb_ BK287 hb)
                replace BK291 := Aside0.mk (bb_ BK291 hb)
                replace HB := Aside0.mk (bt_ HB hb)
                (try clear hb)
                (try clear hb2)
                (try clear hk)
                (try clear hi)
                refine hK.out _ _ ⟨(blk_cell BK274.out 0).trans rfl, (blk_cell BK274.out 1).trans rfl, (blk_cell BK286.out 0).trans rfl, (blk_cell BK286.out 1).trans rfl, (blk_cell BK287.out 0).trans rfl, (blk_cell BK287.out 1).trans rfl⟩ (fun hHeld => ?_)
                clear hK K
                refine nz_ 98 ?_
                refine pz_ 6 99 ba10_21 HT_ ?_
                refine pz_ 8 101 ba10_39 HT_ ?_
                refine pt_ 7 100 ba10_23 HT_ HW_ hHeld ?_
                refine one_ (i := 9) (N := some 102) ba10_24 rfl rfl (one_of HT_.out (by kernel_rfl)) (by decide) (fun K hK => ?_)
                refine gz_ Tryd.func16 #[.agg #[.int .i64 t283, .int .i64 t284], .int .i64 (Int.tmod (wrap64 (t272 + (wrap64 (t295 * t296)))) 65536)] ?_
                with_reducible refine (impl_HasAddr.calls t283 t284 (Int.tmod (wrap64 (t272 + (wrap64 (t295 * t296)))) 65536) t301 _ A166.out).mono ?_
                rintro e w195 ⟨rfl, hb⟩
                refine ⟨_, rfl, ?_⟩
                replace BK274 := Aside0.mk (bb_ BK274 hb)
                replace BK280 := Aside0.mk (bb_ BK280 hb)
                replace BK286 := Aside0.mk (bb_ BK286 hb)
                replace BK287 := Aside0.mk (bb_ BK287 hb)
                replace BK291 := Aside0.mk (bb_ BK291 hb)
                replace HB := Aside0.mk (bt_ HB hb)
                (try clear hb)
                (try clear hb2)
                (try clear hk)
                (try clear hi)
                refine hK.out _ _ ⟨(blk_cell BK274.out 0).trans rfl, (blk_cell BK274.out 1).trans rfl, (blk_cell BK286.out 0).trans rfl, (blk_cell BK286.out 1).trans rfl, (blk_cell BK287.out 0).trans rfl, (blk_cell BK287.out 1).trans rfl⟩ (fun hHeld => ?_)
                clear hK K
                refine nz_ 102 ?_
                refine pz_ 10 103 ba10_25 HT_ ?_
                refine pz_ 11 104 ba10_26 HT_ ?_
                refine pz_ 12 105 ba10_27 HT_ ?_
                refine pz_ 14 107 ba10_37 HT_ ?_
                refine pt_ 13 106 ba10_29 HT_ HW_ hHeld ?_
                refine one_ (i := 15) (N := some 108) ba10_30 rfl rfl (one_of HT_.out (by kernel_rfl)) (by decide) (fun K hK => ?_)
                refine gz_ Tryd.func16 #[.agg #[.int .i64 t281, .int .i64 t282], .int .i64 (Int.tmod (wrap64 (t272 + (wrap64 (t295 * t296)))) 65536)] ?_
                with_reducible refine (impl_HasAddr.calls t281 t282 (Int.tmod (wrap64 (t272 + (wrap64 (t295 * t296)))) 65536) false _ A173.out).mono ?_
                rintro e w196 ⟨rfl, hb⟩
                refine ⟨_, rfl, ?_⟩
                replace BK274 := Aside0.mk (bb_ BK274 hb)
                replace BK280 := Aside0.mk (bb_ BK280 hb)
                replace BK286 := Aside0.mk (bb_ BK286 hb)
                replace BK287 := Aside0.mk (bb_ BK287 hb)
                replace BK291 := Aside0.mk (bb_ BK291 hb)
                replace HB := Aside0.mk (bt_ HB hb)
                (try clear hb)
                (try clear hb2)
                (try clear hk)
                (try clear hi)
                refine hK.out _ _ ⟨(blk_cell BK274.out 0).trans rfl, (blk_cell BK274.out 1).trans rfl, (blk_cell BK286.out 0).trans rfl, (blk_cell BK286.out 1).trans rfl, (blk_cell BK287.out 0).trans rfl, (blk_cell BK287.out 1).trans rfl⟩ (fun hHeld => ?_)
                clear hK K
                refine nz_ 108 ?_
                refine pz_ 16 109 ba10_31 HT_ ?_
                refine pu_ 17 110 ba10_32 HT_ ?_
                refine pu_ 18 111 ba10_33 HT_ ?_
                refine pu_ 19 112 ba10_34 HT_ ?_
                refine pz_ 20 113 ba10_35 HT_ ?_
                refine pz_ 21 114 ba10_36 HT_ ?_
                refine done_ (done_of HT_.out (by kernel_rfl)) ?_
                try go_wp2
                go_roundg k3
                case measure => have := HJ8.out; have := HJ40.out; have := HK3.out; omega
                case rel => exact ⟨(wrap64 (x11_3 + 1)), (by first | rfl | (simp; done) | (simp [*]; done)), H', ⟨by have := HJ8.out; have := HJ40.out; have := HK3.out; omega⟩, ⟨by (with_reducible repeat (first | refine blk_drewN ?_ _ | refine blk_drew ?_ | refine blk_alloc ?_ _)); exact BK274.out⟩, ⟨by (with_reducible repeat (first | refine blk_drewN ?_ _ | refine blk_drew ?_ | refine blk_alloc ?_ _)); exact BK280.out⟩, ⟨by (with_reducible repeat (first | refine blk_drewN ?_ _ | refine blk_drew ?_ | refine blk_alloc ?_ _)); exact BK286.out⟩, ⟨by (with_reducible repeat (first | refine blk_drewN ?_ _ | refine blk_drew ?_ | refine blk_alloc ?_ _)); exact BK287.out⟩, ⟨by (with_reducible repeat (first | refine blk_drewN ?_ _ | refine blk_drew ?_ | refine blk_alloc ?_ _)); exact BK291.out⟩, ⟨by repeat (first | (with_reducible first | exact HB.out | apply below_alloc | apply pw_below_drewN | apply below_drew1 | refine below_set ?_ GE274.out | refine below_set ?_ GE280.out | refine below_set ?_ GE286.out | refine below_set ?_ GE287.out | refine below_set ?_ GE291.out) | exact HB.out)⟩⟩
            ·rw [if_neg c134] at H
             have c134b0 : decide (x11_3 < 20) = false := decide_eq_false c134
             clear c134
             obtain rfl := Option.some.inj H
             go_wp2
             go_ret
             exact ⟨by first | rfl | (simp [errW_none, errW_some] <;> rfl) | (simp [*, errW_none, errW_some] <;> rfl), by repeat (first | (with_reducible first | exact HB.out | apply below_alloc | apply pw_below_drewN | apply below_drew1 | refine below_set ?_ GE274.out | refine below_set ?_ GE280.out | refine below_set ?_ GE286.out | refine below_set ?_ GE287.out | refine below_set ?_ GE291.out) | exact HB.out)⟩
  ·replace c6 := Bool.eq_false_iff.mpr c6
   subst c6
   rw [if_neg (show ¬ (false = true) by decide)] at H
   obtain rfl := Option.some.inj H
   go_enter Tryd.func3, Tryd.ntmps3
   go_wp2_with (first | ((with_reducible refine gate_callee (f := 7) rfl ?_); refine gl_ (some 14) Tryd.func7 #[.slice A0 l0.length c0] ?_; (with_reducible refine (laws_big.calls _ _ l0 false _ ?side1 ?side2 A2.out).mono ?_); (case side1 => repeat (first | exact HR0.out | (with_reducible refine Kd.C_alloc ?_ _) | (with_reducible refine Kd.C_drewN ?_ _) | (with_reducible refine Kd.C_drew ?_))); (case side2 => exact HC0.out); rintro e w' ⟨rfl, ⟨nd, rfl⟩⟩; refine ⟨_, rfl, ?_⟩) | ((with_reducible refine gate_callee (f := 8) rfl ?_); refine gl_ (some 16) Tryd.func8 #[.slice A0 l0.length c0] ?_; (with_reducible refine (spec_DrawHalves.calls k _ _ l0 t272 t273 _ ?side1 ?side2 A4.out).mono ?_); (case side1 => repeat (first | exact HR0.out | (with_reducible refine Kd.C_alloc ?_ _) | (with_reducible refine Kd.C_drewN ?_ _) | (with_reducible refine Kd.C_drew ?_))); (case side2 => exact HC0.out); rintro e w197 ⟨rfl, hb⟩; refine ⟨_, rfl, ?_⟩; replace HB := Aside0.mk (bt_ HB hb); (try clear hb); (try clear hb2); (try clear hk); (try clear hi)) | ((with_reducible refine gate_dst (N := 3) rfl ?_); refine box_event ?hg (N := 3) ?hd (cs := #[.int .i64 0, .int .i64 0]) (t := 25) ?hr ?_; (case hd => rfl); (case hg => rfl); (case hr => first | (go_simp; done) | (go_simp; rfl)); intro gb274 hg w198 hbox hb; have BK274 := Aside0.mk hbox; have GW274 := ge_ HB hg; have GE274 := ge_ HB hg; replace HB := Aside0.mk (bt_ HB hb); clear hb hbox hg; have hcz199_0 := cz_ BK274 0 (.int .i64 0); have hcz199_1 := cz_ BK274 1 (.int .i64 0); have hfz199_0 := blk_frozen BK274.out 0; have hfz199_1 := blk_frozen BK274.out 1) | ((with_reducible refine gate_callee (f := 9) rfl ?_); refine gl_ (some 18) Tryd.func9 #[.agg #[.int .i64 t272, .int .i64 t273]] ?_; (with_reducible refine (spec_PrefixOk.calls t272 t273 false _ A5.out).mono ?_); rintro e w200 ⟨rfl, hb⟩; refine ⟨_, rfl, ?_⟩; replace BK274 := Aside0.mk (blk_below (g := gb274) (o := .cells #[.int .i64 t272, .int .i64 t273] 25 (0, 0)) (by (with_reducible repeat (first | refine blk_drewN ?_ _ | refine blk_drew ?_ | refine blk_alloc ?_ _)); refine blk_put (cs := #[.int .i64 t272, .int .i64 0]) ?_ 1 _ rfl; (with_reducible repeat (first | refine blk_drewN ?_ _ | refine blk_drew ?_ | refine blk_alloc ?_ _)); refine blk_put (cs := #[.int .i64 0, .int .i64 0]) ?_ 0 _ rfl; (with_reducible repeat (first | refine blk_drewN ?_ _ | refine blk_drew ?_ | refine blk_alloc ?_ _)); exact BK274.out) hb); replace HB := Aside0.mk (bt_ HB hb); (try clear hb); (try clear hb2); (try clear hk); (try clear hi)))
   go_ret
   exact ⟨by first | rfl | (simp [errW_none, errW_some] <;> rfl) | (simp [*, errW_none, errW_some] <;> rfl), by repeat (first | (with_reducible first | exact HB.out | apply below_alloc | apply pw_below_drewN | apply below_drew1 | refine below_set ?_ GE274.out) | exact HB.out)⟩

end Go.Proofs.YtmbaemcnjdgemaaDoor.QFnBlocks
