/- Contracts of functions that the law reaches: what each call returns and what it leaves in memory. Made by this session over the print of the kit. -/
import Derived.Test.YtflfbaofgfandaaQFnExactPutRoutex0
import Derived.Test.YtflfbaofgfandaaQFnExactPutRoutex2
import Derived.Test.YtflfbaofgfandaaQFnExactPutRoutex3
import Derived.Test.YtflfbaofgfandaaQFnExactPutRoutex7
import Derived.Test.YtflfbaofgfandaaQFnExactPutRoutex12
namespace Go.Proofs.Ytflfbaofgfandaa.QFnExactPutRoute
open Go.RowKit Go.Proofs.YtflfbaofgfandaaP.PrintWords Go.Proofs.YtflfbaofgfandaaP.PrintLast Go.Proofs.YtflfbaofgfandaaP.PrintMore
attribute [local go_sem] max2_int min2_int max_two min_two max_three min_three max_four min_four   -- for this text's walks alone
set_option linter.unusedVariables false
set_option linter.unusedSimpArgs false
def ba13_0 : Array Bool := #[false, false, false, false, false, false, false, false, false, false, false]
def ba13_1 : Array Bool := #[true, false, false, false, false, false, false, false, false, false, false]
def ba13_2 : Array Bool := #[true, false, true, false, false, false, false, false, false, false, false]
def ba13_3 : Array Bool := #[true, true, true, true, true, true, true, true, true, false, false]
def ba13_4 : Array Bool := #[true, true, true, false, false, false, false, false, false, false, false]
def ba13_5 : Array Bool := #[true, false, true, false, false, false, false, false, true, false, false]
def ba13_6 : Array Bool := #[true, true, true, true, false, false, false, false, false, false, false]
def ba13_7 : Array Bool := #[true, true, true, false, false, false, false, false, true, false, false]
def ba13_8 : Array Bool := #[true, true, true, true, true, false, false, false, false, false, false]
def ba13_9 : Array Bool := #[true, true, true, true, false, false, false, false, true, false, false]
def ba13_10 : Array Bool := #[true, true, true, true, true, true, false, false, false, false, false]
def ba13_11 : Array Bool := #[true, true, true, true, true, true, true, false, false, false, false]
def ba13_12 : Array Bool := #[true, true, true, true, true, true, true, true, false, false, false]
def ba13_13 : Array Bool := #[true, true, true, true, true, false, false, false, true, false, false]
def ba13_14 : Array Bool := #[true, true, true, true, true, true, false, false, true, false, false]
def ba13_15 : Array Bool := #[true, true, true, true, true, true, true, false, true, false, false]
def ba13_16 : Array Bool := #[true, true, true, true, true, true, true, true, true, true, false]
def ba13_17 : Array Bool := #[true, true, true, true, true, true, true, true, true, true, true]
def ba13_18 : Array Bool := #[false, false, false, false, false, false, false, false, false, false]
def ba13_19 : Array Bool := #[true, false, false, false, false, false, false, false, false, false]
def ba13_20 : Array Bool := #[true, true, false, false, false, false, false, false, false, false]
def ba13_21 : Array Bool := #[true, true, true, true, true, true, true, true, false, false]
def ba13_22 : Array Bool := #[true, true, true, false, false, false, false, false, false, false]
def ba13_23 : Array Bool := #[true, true, false, false, false, false, false, true, false, false]
def ba13_24 : Array Bool := #[true, true, true, true, false, false, false, false, false, false]
def ba13_25 : Array Bool := #[true, true, true, false, false, false, false, true, false, false]
def ba13_26 : Array Bool := #[true, true, true, true, true, false, false, false, false, false]
def ba13_27 : Array Bool := #[true, true, true, true, true, true, false, false, false, false]
def ba13_28 : Array Bool := #[true, true, true, true, true, true, true, false, false, false]
def ba13_29 : Array Bool := #[true, true, true, true, false, false, false, true, false, false]
def ba13_30 : Array Bool := #[true, true, true, true, true, false, false, true, false, false]
def ba13_31 : Array Bool := #[true, true, true, true, true, true, false, true, false, false]
def ba13_32 : Array Bool := #[true, true, true, true, true, true, true, true, true, false]
def ba13_33 : Array Bool := #[true, true, true, true, true, true, true, true, true, true]
def ba13_34 : Array Bool := #[false, false, false, false, false]
def ba13_35 : Array Bool := #[true, false, false, false, false]
def ba13_36 : Array Bool := #[true, true, false, false, false]
def ba13_37 : Array Bool := #[true, true, true, false, false]
def ba13_38 : Array Bool := #[true, true, true, true, false]
def ba13_39 : Array Bool := #[true, true, true, true, true]

/-! ### laws_FnExactPutRoute: function 4 -/
mutual
def laws_FnExactPutRoute.j0 : Nat → Bool → Bool → Bool → List (S40) → Int → Int → Int → List (S43) → List (S43) → List (S43) → Option (Bool)
 | 0, _, _, _, _, _, _, _, _, _, _ => none
 | k + 1, x7, x10, x46, x277000, x278000, x278001, x278002, x290000, x294000, x302000 => if x46 = true then (some false) else ((laws_toTable.f k x277000).bind fun t303 => ((laws_eqTable.f k x294000 t303).bind fun t306 => (if t306 = true then ((laws_markTable.f k x294000 1).bind fun bt307 => (if bt307.1 < 0 then (laws_FnExactPutRoute.j1 k x7 true x277000 x278000 x278001 x278002 x290000 x302000) else ((laws_eqTable.f k x302000 x290000).bind fun t309 => (if t309 = true then (laws_FnExactPutRoute.j1 k x7 (x10 != x7) x277000 x278000 x278001 x278002 x290000 x302000) else (laws_FnExactPutRoute.j1 k x7 true x277000 x278000 x278001 x278002 x290000 x302000))))) else (some false))))
def laws_FnExactPutRoute.j1 : Nat → Bool → Bool → List (S40) → Int → Int → Int → List (S43) → List (S43) → Option (Bool)
 | 0, _, _, _, _, _, _, _, _ => none
 | k + 1, x7, x67, x277000, x278000, x278001, x278002, x290000, x302000 => if x67 = true then (some false) else ((laws_markTable.f k x302000 1).bind fun bt310 => ((laws_heldTable.f k bt310.2 1).bind fun t312 => (if t312 < 0 then (some false) else (if t312 = bt310.1 then ((laws_toTable.f k x277000).bind fun t313 => ((laws_toRoute.f x278000 x278001 x278002).bind fun bt316 => ((impl_PutRoute.f k t313 bt316.1 bt316.2.1 bt316.2.2).bind fun bt319 => ((laws_eqTable.f k bt319.1 x290000).bind fun t324 => (if t324 = true then (laws_FnExactPutRoute.j2 k bt310.1 (bt319.2 != x7) bt310.2) else (laws_FnExactPutRoute.j2 k bt310.1 true bt310.2)))))) else (some false)))))
def laws_FnExactPutRoute.j2 : Nat → Int → Bool → List (S43) → Option (Bool)
 | 0, _, _, _ => none
 | k + 1, x12, x95, x302000 => if x95 = true then (some false) else ((laws_heldTable.f k x302000 1).bind fun t325 => (if t325 < 0 then (some false) else (if t325 = x12 then (some true) else (some false))))
end
def laws_FnExactPutRoute.f (k : Nat) (l0_0 : List (S40)) (a1_0 : Int) (a1_1 : Int) (a1_2 : Int) : Option (Bool) := (laws_szTable.f l0_0 1048576).bind fun t278 => (if t278 < 0 then (some true) else ((laws_toTable.f k l0_0).bind fun t279 => ((laws_toRoute.f a1_0 a1_1 a1_2).bind fun bt282 => ((spec_PutRoute.f k t279 bt282.1 bt282.2.1 bt282.2.2).bind fun bt285 => ((laws_toTable.f k l0_0).bind fun t290 => ((laws_toRoute.f a1_0 a1_1 a1_2).bind fun bt294 => ((impl_PutRoute.f k t290 bt294.1 bt294.2.1 bt294.2.2).bind fun bt297 => ((laws_eqTable.f k bt297.1 bt285.1).bind fun t302 => (if t302 = true then (laws_FnExactPutRoute.j0 k bt285.2 bt297.2 (bt297.2 != bt285.2) l0_0 a1_0 a1_1 a1_2 bt285.1 t290 bt297.1) else (laws_FnExactPutRoute.j0 k bt285.2 bt297.2 true l0_0 a1_0 a1_1 a1_2 bt285.1 t290 bt297.1))))))))))
theorem laws_FnExactPutRoute.mono_l : ∀ k, (∀ y0 y1 y2 y3 y4 y5 y6 y7 y8 y9, LeO (laws_FnExactPutRoute.j0 k y0 y1 y2 y3 y4 y5 y6 y7 y8 y9) (laws_FnExactPutRoute.j0 (k + 1) y0 y1 y2 y3 y4 y5 y6 y7 y8 y9)) ∧ (∀ y0 y1 y2 y3 y4 y5 y6 y7, LeO (laws_FnExactPutRoute.j1 k y0 y1 y2 y3 y4 y5 y6 y7) (laws_FnExactPutRoute.j1 (k + 1) y0 y1 y2 y3 y4 y5 y6 y7)) ∧ (∀ y0 y1 y2, LeO (laws_FnExactPutRoute.j2 k y0 y1 y2) (laws_FnExactPutRoute.j2 (k + 1) y0 y1 y2))
 | 0 => ⟨fun _ _ _ _ _ _ _ _ _ _ r h => by simp [laws_FnExactPutRoute.j0] at h, fun _ _ _ _ _ _ _ _ r h => by simp [laws_FnExactPutRoute.j1] at h, fun _ _ _ r h => by simp [laws_FnExactPutRoute.j2] at h⟩
 | k + 1 => by
  obtain ⟨ih0, ih1, ih2⟩ := laws_FnExactPutRoute.mono_l k
  refine ⟨?_, ?_, ?_⟩
  ·intro y0 y1 y2 y3 y4 y5 y6 y7 y8 y9
   unfold laws_FnExactPutRoute.j0
   repeat' first
   | (with_reducible exact ih0 _ _ _ _ _ _ _ _ _ _)
   | (with_reducible exact ih1 _ _ _ _ _ _ _ _)
   | (with_reducible exact ih2 _ _ _)
   | (with_reducible exact impl_PutRoute.mono _ _ _ _ _)
   | (with_reducible exact laws_eqTable.mono _ _ _)
   | (with_reducible exact laws_heldTable.mono _ _ _)
   | (with_reducible exact laws_markTable.mono _ _ _)
   | (with_reducible exact laws_toTable.mono _ _)
   | (with_reducible exact spec_PutRoute.mono _ _ _ _ _)
   | (with_reducible exact LeO.refl _)
   | (with_reducible exact LeO.none _)
   | (with_reducible refine LeO.ite ?_ ?_)
   | (with_reducible refine LeO.bind ?_ (fun _ => ?_))
   | exact ih0 _ _ _ _ _ _ _ _ _ _
   | exact ih1 _ _ _ _ _ _ _ _
   | exact ih2 _ _ _
   | exact impl_PutRoute.mono _ _ _ _ _
   | exact laws_eqTable.mono _ _ _
   | exact laws_heldTable.mono _ _ _
   | exact laws_markTable.mono _ _ _
   | exact laws_toTable.mono _ _
   | exact spec_PutRoute.mono _ _ _ _ _
   | exact LeO.none _
   | refine LeO.ite ?_ ?_
   | refine LeO.bind ?_ (fun _ => ?_)
  ·intro y0 y1 y2 y3 y4 y5 y6 y7
   unfold laws_FnExactPutRoute.j1
   repeat' first
   | (with_reducible exact ih0 _ _ _ _ _ _ _ _ _ _)
   | (with_reducible exact ih1 _ _ _ _ _ _ _ _)
   | (with_reducible exact ih2 _ _ _)
   | (with_reducible exact impl_PutRoute.mono _ _ _ _ _)
   | (with_reducible exact laws_eqTable.mono _ _ _)
   | (with_reducible exact laws_heldTable.mono _ _ _)
   | (with_reducible exact laws_markTable.mono _ _ _)
   | (with_reducible exact laws_toTable.mono _ _)
   | (with_reducible exact spec_PutRoute.mono _ _ _ _ _)
   | (with_reducible exact LeO.refl _)
   | (with_reducible exact LeO.none _)
   | (with_reducible refine LeO.ite ?_ ?_)
   | (with_reducible refine LeO.bind ?_ (fun _ => ?_))
   | exact ih0 _ _ _ _ _ _ _ _ _ _
   | exact ih1 _ _ _ _ _ _ _ _
   | exact ih2 _ _ _
   | exact impl_PutRoute.mono _ _ _ _ _
   | exact laws_eqTable.mono _ _ _
   | exact laws_heldTable.mono _ _ _
   | exact laws_markTable.mono _ _ _
   | exact laws_toTable.mono _ _
   | exact spec_PutRoute.mono _ _ _ _ _
   | exact LeO.none _
   | refine LeO.ite ?_ ?_
   | refine LeO.bind ?_ (fun _ => ?_)
  ·intro y0 y1 y2
   unfold laws_FnExactPutRoute.j2
   repeat' first
   | (with_reducible exact ih0 _ _ _ _ _ _ _ _ _ _)
   | (with_reducible exact ih1 _ _ _ _ _ _ _ _)
   | (with_reducible exact ih2 _ _ _)
   | (with_reducible exact impl_PutRoute.mono _ _ _ _ _)
   | (with_reducible exact laws_eqTable.mono _ _ _)
   | (with_reducible exact laws_heldTable.mono _ _ _)
   | (with_reducible exact laws_markTable.mono _ _ _)
   | (with_reducible exact laws_toTable.mono _ _)
   | (with_reducible exact spec_PutRoute.mono _ _ _ _ _)
   | (with_reducible exact LeO.refl _)
   | (with_reducible exact LeO.none _)
   | (with_reducible refine LeO.ite ?_ ?_)
   | (with_reducible refine LeO.bind ?_ (fun _ => ?_))
   | exact ih0 _ _ _ _ _ _ _ _ _ _
   | exact ih1 _ _ _ _ _ _ _ _
   | exact ih2 _ _ _
   | exact impl_PutRoute.mono _ _ _ _ _
   | exact laws_eqTable.mono _ _ _
   | exact laws_heldTable.mono _ _ _
   | exact laws_markTable.mono _ _ _
   | exact laws_toTable.mono _ _
   | exact spec_PutRoute.mono _ _ _ _ _
   | exact LeO.none _
   | refine LeO.ite ?_ ?_
   | refine LeO.bind ?_ (fun _ => ?_)
theorem laws_FnExactPutRoute.mono : ∀ a0 a1 a2 a3 k, LeO (laws_FnExactPutRoute.f k a0 a1 a2 a3) (laws_FnExactPutRoute.f (k + 1) a0 a1 a2 a3) := by
 intro a0 a1 a2 a3 k
 obtain ⟨ih0, ih1, ih2⟩ := laws_FnExactPutRoute.mono_l k
 unfold laws_FnExactPutRoute.f
 repeat' first
   | (with_reducible exact ih0 _ _ _ _ _ _ _ _ _ _)
   | (with_reducible exact ih1 _ _ _ _ _ _ _ _)
   | (with_reducible exact ih2 _ _ _)
   | (with_reducible exact impl_PutRoute.mono _ _ _ _ _)
   | (with_reducible exact laws_eqTable.mono _ _ _)
   | (with_reducible exact laws_heldTable.mono _ _ _)
   | (with_reducible exact laws_markTable.mono _ _ _)
   | (with_reducible exact laws_toTable.mono _ _)
   | (with_reducible exact spec_PutRoute.mono _ _ _ _ _)
   | (with_reducible exact LeO.refl _)
   | (with_reducible exact LeO.none _)
   | (with_reducible refine LeO.ite ?_ ?_)
   | (with_reducible refine LeO.bind ?_ (fun _ => ?_))
   | exact ih0 _ _ _ _ _ _ _ _ _ _
   | exact ih1 _ _ _ _ _ _ _ _
   | exact ih2 _ _ _
   | exact impl_PutRoute.mono _ _ _ _ _
   | exact laws_eqTable.mono _ _ _
   | exact laws_heldTable.mono _ _ _
   | exact laws_markTable.mono _ _ _
   | exact laws_toTable.mono _ _
   | exact spec_PutRoute.mono _ _ _ _ _
   | exact LeO.none _
   | refine LeO.ite ?_ ?_
   | refine LeO.bind ?_ (fun _ => ?_)
def laws_FnExactPutRoute.T5 : Bool × List (List Nat × List Nat) := (true, [([], []), ([0], [0]), ([], []), ([2, 1], [2]), ([1, 3, 3], [1, 3]), ([4], [4]), ([5], [5]), ([5], [5]), ([], []), ([8, 6, 4, 0, 1, 2, 3, 4, 5, 6, 8], [6, 8]), ([7, 9, 0, 1, 2, 3, 4, 5, 6, 7, 8, 9], [7])])
def laws_FnExactPutRoute.B5 : List Nat := [0, 1, 0, 7, 15, 31, 63, 63, 0, 383, 1023]
theorem laws_FnExactPutRoute.tab5 : rtab .any (opsOf Try.f4 5) = laws_FnExactPutRoute.T5 := by kernel_rfl
theorem laws_FnExactPutRoute.bits5 : waitsOk laws_FnExactPutRoute.T5.2 laws_FnExactPutRoute.B5 = true := by kernel_rfl
def laws_FnExactPutRoute.T7 : Bool × List (List Nat × List Nat) := (true, [([], []), ([], []), ([1], [1]), ([0, 2, 2], [0, 2]), ([3], [3]), ([4], [4]), ([4], [4]), ([], []), ([7, 5, 3, 0, 1, 2, 3, 4, 5, 7], [5, 7]), ([6, 8, 0, 1, 2, 3, 4, 5, 6, 7, 8], [6])])
def laws_FnExactPutRoute.B7 : List Nat := [0, 0, 2, 7, 15, 31, 31, 0, 191, 511]
theorem laws_FnExactPutRoute.tab7 : rtab .any (opsOf Try.f4 7) = laws_FnExactPutRoute.T7 := by kernel_rfl
theorem laws_FnExactPutRoute.bits7 : waitsOk laws_FnExactPutRoute.T7.2 laws_FnExactPutRoute.B7 = true := by kernel_rfl
def laws_FnExactPutRoute.T24 : Bool × List (List Nat × List Nat) := (true, [([], []), ([0], [0]), ([], []), ([2, 1], [2]), ([1, 3, 3], [1, 3]), ([4], [4]), ([5], [5]), ([5], [5]), ([], []), ([8, 6, 4, 0, 1, 2, 3, 4, 5, 6, 8], [6, 8]), ([7, 9, 0, 1, 2, 3, 4, 5, 6, 7, 8, 9], [7])])
def laws_FnExactPutRoute.B24 : List Nat := [0, 1, 0, 7, 15, 31, 63, 63, 0, 383, 1023]
theorem laws_FnExactPutRoute.tab24 : rtab .any (opsOf Try.f4 24) = laws_FnExactPutRoute.T24 := by kernel_rfl
theorem laws_FnExactPutRoute.bits24 : waitsOk laws_FnExactPutRoute.T24.2 laws_FnExactPutRoute.B24 = true := by kernel_rfl
set_option maxHeartbeats 8000000 in
set_option maxRecDepth 100000 in
theorem laws_FnExactPutRoute.calls (k : Nat) (A0_0 : Option Addr) (c0_0 : Nat) (l0_0 : List (S40)) (a1_0 : Int) (a1_1 : Int) (a1_2 : Int) (r : Bool) (w : World) (hr0_0 : Kd.C k40 w A0_0 l0_0.length l0_0) (hc0_0 : l0_0.length ≤ c0_0) (h : laws_FnExactPutRoute.f k l0_0 a1_0 a1_1 a1_2 = some r) :
  Calls Try.prog 4 #[.agg #[.slice A0_0 l0_0.length c0_0], .agg #[.int .i64 a1_0, .int .i64 a1_1, .int .i64 a1_2]] w fun e w' => e = .returned (.bool r) ∧ Below w.heap.size w w' := by
 have hu24 := Try.underlying24
 have hu40 := Try.underlying40
 have hu30 := Try.underlying30
 have HR0_0 := Aside0.mk hr0_0
 have HC0_0 := Aside0.mk hc0_0
 clear hr0_0 hc0_0
 have HB := Aside0.mk (Below.refl w.heap.size w)
 have H : ((laws_szTable.f l0_0 1048576).bind fun t278 => (if t278 < 0 then (some true) else ((laws_toTable.f k l0_0).bind fun t279 => ((laws_toRoute.f a1_0 a1_1 a1_2).bind fun bt282 => ((spec_PutRoute.f k t279 bt282.1 bt282.2.1 bt282.2.2).bind fun bt285 => ((laws_toTable.f k l0_0).bind fun t290 => ((laws_toRoute.f a1_0 a1_1 a1_2).bind fun bt294 => ((impl_PutRoute.f k t290 bt294.1 bt294.2.1 bt294.2.2).bind fun bt297 => ((laws_eqTable.f k bt297.1 bt285.1).bind fun t302 => (if t302 = true then (laws_FnExactPutRoute.j0 k bt285.2 bt297.2 (bt297.2 != bt285.2) l0_0 a1_0 a1_1 a1_2 bt285.1 t290 bt297.1) else (laws_FnExactPutRoute.j0 k bt285.2 bt297.2 true l0_0 a1_0 a1_1 a1_2 bt285.1 t290 bt297.1))))))))))) = some r := h
 clear h
 replace H := Option.bind_eq_some_iff.mp H
 obtain ⟨t278, A30, H⟩ := H
 have A3 := Aside0.mk A30
 clear A30
 by_cases c4 : t278 < 0
 ·rw [if_pos c4] at H
  have c4b0 : decide (t278 < 0) = true := decide_eq_true c4
  clear c4
  obtain rfl := Option.some.inj H
  go_enter Try.func4, Try.ntmps4
  go_wp2_with (first | ((with_reducible refine gate_dst (N := 2) rfl ?_); refine box_event ?hg (N := 2) ?hd (cs := #[.slice A0_0 l0_0.length c0_0]) (t := 24) ?hr ?_; (case hd => rfl); (case hg => rfl); (case hr => first | (go_simp; done) | (go_simp; rfl)); intro gb276 hg w5 hbox hb; have BK276 := Aside0.mk hbox; have GW276 := ge_ HB hg; have GE276 := ge_ HB hg; replace HB := Aside0.mk (bt_ HB hb); clear hb hbox hg) | ((with_reducible refine gate_dst (N := 3) rfl ?_); refine box_event ?hg (N := 3) ?hd (cs := #[.int .i64 a1_0, .int .i64 a1_1, .int .i64 a1_2]) (t := 40) ?hr ?_; (case hd => rfl); (case hg => rfl); (case hr => first | (go_simp; done) | (go_simp; rfl)); intro gb277 hg w6 hbox hb; have BK277 := Aside0.mk hbox; have GW277 := ge_ HB hg; have GE277 := ge_ HB hg; have NB276_277 := nl_ BK276 hg; have NB277_276 := ng_ BK276 hg; replace HB := Aside0.mk (bt_ HB hb); replace BK276 := Aside0.mk (bb_ BK276 hb); clear hb hbox hg; have hnb7 := NB276_277.out; have hnc7 := NB277_276.out; have hcz8_0 := cz_ BK276 0 (.slice A0_0 l0_0.length c0_0); have hfz8_0 := blk_frozen BK276.out 0) | ((with_reducible refine gate_callee (f := 7) rfl ?_); refine gl_ (some 18) Try.func7 #[.agg #[.slice A0_0 l0_0.length c0_0], .int .i64 1048576] ?_; (with_reducible refine (laws_szTable.calls _ _ l0_0 1048576 t278 _ ?side1 ?side2 A3.out).mono ?_); (case side1 => exact cb_ HR0_0 HB); (case side2 => exact HC0_0.out); rintro e w9 ⟨rfl, hb⟩; refine ⟨_, rfl, ?_⟩; replace BK276 := Aside0.mk (bb_ BK276 hb); replace BK277 := Aside0.mk (bb_ BK277 hb); replace HB := Aside0.mk (bt_ HB hb); (try clear hb); (try clear hb2); (try clear hk); (try clear hi)))
  go_ret
  exact ⟨by first | rfl | (simp [errW_none, errW_some] <;> rfl) | (simp [*, errW_none, errW_some] <;> rfl), by repeat (first | (with_reducible first | exact HB.out | apply below_alloc | apply pw_below_drewN | apply below_drew1 | refine below_set ?_ GE276.out | refine below_set ?_ GE277.out) | exact HB.out)⟩
 ·rw [if_neg c4] at H
  have c4b0 : decide (t278 < 0) = false := decide_eq_false c4
  clear c4
  replace H := Option.bind_eq_some_iff.mp H
  obtain ⟨t279, A100, H⟩ := H
  have A10 := Aside0.mk A100
  clear A100
  replace H := Option.bind_eq_some_iff.mp H
  obtain ⟨⟨t282, t283, t284⟩, A110, H⟩ := H
  have A11 := Aside0.mk A110
  clear A110
  replace H := Option.bind_eq_some_iff.mp H
  obtain ⟨⟨t285, t288⟩, A120, H⟩ := H
  have A12 := Aside0.mk A120
  clear A120
  replace H := Option.bind_eq_some_iff.mp H
  obtain ⟨t290, A130, H⟩ := H
  have A13 := Aside0.mk A130
  clear A130
  replace H := Option.bind_eq_some_iff.mp H
  obtain ⟨⟨t294, t295, t296⟩, A140, H⟩ := H
  have A14 := Aside0.mk A140
  clear A140
  replace H := Option.bind_eq_some_iff.mp H
  obtain ⟨⟨t297, t300⟩, A150, H⟩ := H
  have A15 := Aside0.mk A150
  clear A150
  have HC16 := Aside0.mk H
  clear H
  go_enter Try.func4, Try.ntmps4
  try go_wp2_with (first | ((with_reducible refine gate_dst (N := 2) rfl ?_); refine box_event ?hg (N := 2) ?hd (cs := #[.slice A0_0 l0_0.length c0_0]) (t := 24) ?hr ?_; (case hd => rfl); (case hg => rfl); (case hr => first | (go_simp; done) | (go_simp; rfl)); intro gb276 hg w17 hbox hb; have BK276 := Aside0.mk hbox; have GW276 := ge_ HB hg; have GE276 := ge_ HB hg; replace HB := Aside0.mk (bt_ HB hb); clear hb hbox hg) | ((with_reducible refine gate_dst (N := 3) rfl ?_); refine box_event ?hg (N := 3) ?hd (cs := #[.int .i64 a1_0, .int .i64 a1_1, .int .i64 a1_2]) (t := 40) ?hr ?_; (case hd => rfl); (case hg => rfl); (case hr => first | (go_simp; done) | (go_simp; rfl)); intro gb277 hg w18 hbox hb; have BK277 := Aside0.mk hbox; have GW277 := ge_ HB hg; have GE277 := ge_ HB hg; have NB276_277 := nl_ BK276 hg; have NB277_276 := ng_ BK276 hg; replace HB := Aside0.mk (bt_ HB hb); replace BK276 := Aside0.mk (bb_ BK276 hb); clear hb hbox hg; have hnb19 := NB276_277.out; have hnc19 := NB277_276.out; have hcz20_0 := cz_ BK276 0 (.slice A0_0 l0_0.length c0_0); have hfz20_0 := blk_frozen BK276.out 0) | ((with_reducible refine gate_callee (f := 7) rfl ?_); refine gl_ (some 18) Try.func7 #[.agg #[.slice A0_0 l0_0.length c0_0], .int .i64 1048576] ?_; (with_reducible refine (laws_szTable.calls _ _ l0_0 1048576 t278 _ ?side1 ?side2 A3.out).mono ?_); (case side1 => exact cb_ HR0_0 HB); (case side2 => exact HC0_0.out); rintro e w21 ⟨rfl, hb⟩; refine ⟨_, rfl, ?_⟩; replace BK276 := Aside0.mk (bb_ BK276 hb); replace BK277 := Aside0.mk (bb_ BK277 hb); replace HB := Aside0.mk (bt_ HB hb); (try clear hb); (try clear hb2); (try clear hk); (try clear hi)))
  replace BK276 := Aside0.mk (blk_drew BK276.out)
  replace BK277 := Aside0.mk (blk_drew BK277.out)
  replace HB := Aside0.mk (below_drew1 HB.out)
  refine start_ (n := 11) (S := fun w' => w'.cell? ⟨gb276, 0, none⟩ = some (.slice A0_0 l0_0.length c0_0) ∧ w'.cell? ⟨gb277, 0, none⟩ = some (.int .i64 a1_0) ∧ w'.cell? ⟨gb277, 1, none⟩ = some (.int .i64 a1_1) ∧ w'.cell? ⟨gb277, 2, none⟩ = some (.int .i64 a1_2)) (ds := []) ba13_0 (by kernel_rfl) rfl rfl ⟨(blk_cell BK276.out 0).trans rfl, (blk_cell BK277.out 0).trans rfl, (blk_cell BK277.out 1).trans rfl, (blk_cell BK277.out 2).trans rfl⟩ (fun hHeld => ?_); refine with_tabW laws_FnExactPutRoute.tab5 laws_FnExactPutRoute.bits5 (fun HT_ HW_ => ?_)
  generalize w21.drew = w22 at BK276 BK277 HB hHeld ⊢
  refine pt_ 0 22 ba13_1 HT_ HW_ hHeld ?_
  refine pt_ 2 24 ba13_2 HT_ HW_ hHeld ?_
  refine join_ (σ := Value × Value × Nat) 2 ba13_3 (fun s_ => [(23, .agg #[s_.1]), (25, .agg #[.int .i64 t282, .int .i64 t283, .int .i64 t284]), (26, .tuple #[.agg #[s_.2.1], .bool t288]), (6, .pointer (some ⟨s_.2.2, 0, none⟩)), (21, .tuple #[.agg #[s_.2.1], .bool t288]), (27, .agg #[s_.2.1]), (28, .bool t288)]) (fun s_ w' => (w'.cell? ⟨gb276, 0, none⟩ = some (.slice A0_0 l0_0.length c0_0) ∧ w'.cell? ⟨gb277, 0, none⟩ = some (.int .i64 a1_0) ∧ w'.cell? ⟨gb277, 1, none⟩ = some (.int .i64 a1_1) ∧ w'.cell? ⟨gb277, 2, none⟩ = some (.int .i64 a1_2)) ∧ (Kd.R k43 43 w' w.heap.size (fun k_ => some k_ ≠ (s_.2.1 : Value).ownBlock) s_.1 t279) ∧ (Kd.R k43 43 w' w.heap.size (fun k_ => some k_ ≠ (s_.1 : Value).ownBlock) s_.2.1 t285) ∧ (w'.heap[gb276]? = some (.cells #[.slice A0_0 l0_0.length c0_0] 24 (0, 0))) ∧ (w'.heap[gb277]? = some (.cells #[.int .i64 a1_0, .int .i64 a1_1, .int .i64 a1_2] 40 (0, 0))) ∧ (w'.heap[s_.2.2]? = some (.cells #[.slice none 0 0] 30 (0, 0))) ∧ (w.heap.size ≤ s_.2.2) ∧ (w.heap.size ≤ s_.2.2) ∧ (gb276 ≠ s_.2.2) ∧ (s_.2.2 ≠ gb276) ∧ (gb277 ≠ s_.2.2) ∧ (s_.2.2 ≠ gb277) ∧ (Below w.heap.size w w')) ?_ ?_
  rotate_left
  ·intro hCont
   refine two_ (i := 1) (j := 8) (Ni := some 23) (Nj := some 6) ba13_4 ba13_5 rfl rfl rfl rfl (two_of HT_.out (by kernel_rfl)) (by decide) (by decide) (fun K hK => ?_) (fun K hK => ?_)
   ·skip
    refine gz_ Try.func9 #[.agg #[.slice A0_0 l0_0.length c0_0]] ?_
    with_reducible refine (laws_toTable.calls k _ _ l0_0 t279 _ ?side1 ?side2 A10.out).mono ?_
    (case side1 => exact cb_ HR0_0 HB)
    (case side2 => exact HC0_0.out)
    rintro e w23 ⟨v280, rfl, ho0, hb⟩
    refine ⟨_, rfl, ?_⟩
    have HO281 := Aside0.mk (Kd.R_lower ho0 (bz_ HB))
    replace BK276 := Aside0.mk (bb_ BK276 hb)
    replace BK277 := Aside0.mk (bb_ BK277 hb)
    replace HB := Aside0.mk (bt_ HB hb)
    (try clear hb)
    (try clear hb2)
    (try clear hk)
    (try clear hi)
    (try clear ho0)
    refine hK.out _ _ ⟨(blk_cell BK276.out 0).trans rfl, (blk_cell BK277.out 0).trans rfl, (blk_cell BK277.out 1).trans rfl, (blk_cell BK277.out 2).trans rfl⟩ (fun hHeld => ?_)
    clear hK K
    refine nz_ 23 ?_
    refine two_ (i := 3) (j := 8) (Ni := some 25) (Nj := some 6) ba13_6 ba13_7 rfl rfl rfl rfl (two_of HT_.out (by kernel_rfl)) (by decide) (by decide) (fun K hK => ?_) (fun K hK => ?_)
    ·skip
     refine gz_ Try.func16 #[.agg #[.int .i64 a1_0, .int .i64 a1_1, .int .i64 a1_2]] ?_
     with_reducible refine (laws_toRoute.calls a1_0 a1_1 a1_2 t282 t283 t284 _ A11.out).mono ?_
     rintro e w24 ⟨rfl, hb⟩
     refine ⟨_, rfl, ?_⟩
     replace HO281 := rb_ HO281 hb
     replace BK276 := Aside0.mk (bb_ BK276 hb)
     replace BK277 := Aside0.mk (bb_ BK277 hb)
     replace HB := Aside0.mk (bt_ HB hb)
     (try clear hb)
     (try clear hb2)
     (try clear hk)
     (try clear hi)
     obtain ⟨Ao25, co25, eo25⟩ := Kd.R_slice HO281.out
     (first | subst eo25 | (injection eo25 with f1_ f2_ f3_; have f4_ := f1_.symm; have f5_ := f3_.symm; clear f1_ f2_ f3_; subst f4_; subst f5_))
     refine hK.out _ _ ⟨(blk_cell BK276.out 0).trans rfl, (blk_cell BK277.out 0).trans rfl, (blk_cell BK277.out 1).trans rfl, (blk_cell BK277.out 2).trans rfl⟩ (fun hHeld => ?_)
     clear hK K
     refine nz_ 25 ?_
     refine two_ (i := 4) (j := 8) (Ni := some 26) (Nj := some 6) ba13_8 ba13_9 rfl rfl rfl rfl (two_of HT_.out (by kernel_rfl)) (by decide) (by decide) (fun K hK => ?_) (fun K hK => ?_)
     ·skip
      refine gz_ Try.func15 #[.agg #[.slice Ao25 t279.length co25], .agg #[.int .i64 t282, .int .i64 t283, .int .i64 t284]] ?_
      with_reducible refine (spec_PutRoute.calls k _ _ t279 t282 t283 t284 t285 t288 _ ?side1 ?side2 A12.out).mono ?_
      (case side1 => exact rc_ HO281)
      (case side2 => exact (Kd.R_reads' HO281.out).2.1)
      rintro e w26 ⟨v286, rfl, ho0, hb⟩
      refine ⟨_, rfl, ?_⟩
      have HO287 := Aside0.mk (Kd.R_lower (Kd.R_new' ho0 (Kd.R_lt (hd_ HO281))) (bz_ HB))
      replace HO281 := Aside0.mk (Kd.R_elder' (hd_ HO281) (Kd.R_base ho0) hb)
      replace BK276 := Aside0.mk (bb_ BK276 hb)
      replace BK277 := Aside0.mk (bb_ BK277 hb)
      replace HB := Aside0.mk (bt_ HB hb)
      (try clear hb)
      (try clear hb2)
      (try clear hk)
      (try clear hi)
      (try clear ho0)
      refine hK.out _ _ ⟨(blk_cell BK276.out 0).trans rfl, (blk_cell BK277.out 0).trans rfl, (blk_cell BK277.out 1).trans rfl, (blk_cell BK277.out 2).trans rfl⟩ (fun hHeld => ?_)
      clear hK K
      refine nz_ 26 ?_
      refine pz_ 5 21 ba13_10 HT_ ?_
      refine pz_ 6 27 ba13_11 HT_ ?_
      refine pz_ 7 28 ba13_12 HT_ ?_
      refine one_ (i := 8) (N := some 6) ba13_3 rfl rfl (one_of HT_.out (by kernel_rfl)) (by decide) (fun K hK => ?_)
      refine box_step ?hg (N := 6) ?hd (cs := #[.slice none 0 0]) (t := 30) ?hr ?_; (case hd => rfl); (case hg => rfl); (case hr => first | (go_simp; done) | (go_simp; rfl))
      intro gb289 hg w27 hbox hb
      have BK289 := Aside0.mk hbox
      have GW289 := ge_ HB hg
      have GE289 := ge_ HB hg
      have NB276_289 := nl_ BK276 hg
      have NB289_276 := ng_ BK276 hg
      have NB277_289 := nl_ BK277 hg
      have NB289_277 := ng_ BK277 hg
      replace HO281 := rb_ HO281 hb
      replace HO287 := rb_ HO287 hb
      replace HB := Aside0.mk (bt_ HB hb)
      replace BK276 := Aside0.mk (bb_ BK276 hb)
      replace BK277 := Aside0.mk (bb_ BK277 hb)
      clear hb hbox hg
      refine hK.out _ _ ⟨(blk_cell BK276.out 0).trans rfl, (blk_cell BK277.out 0).trans rfl, (blk_cell BK277.out 1).trans rfl, (blk_cell BK277.out 2).trans rfl⟩ (fun hHeld => ?_)
      clear hK K
      refine nz_ 6 ?_
      exact norm_ (by simp only [putAll, Act.put, List.setIfInBounds_toArray, List.set_cons_zero, List.set_cons_succ]) (hCont (.slice Ao25 t279.length co25, v286, gb289) _ ⟨hHeld, (by (with_reducible repeat (first | apply Kd.R_alloc | apply Kd.R_drewN | apply Kd.R_drew)); exact Kd.R_mono HO281.out (fun _ hk => hk.2)), (by (with_reducible repeat (first | apply Kd.R_alloc | apply Kd.R_drewN | apply Kd.R_drew)); exact Kd.R_mono HO287.out (fun _ hk => hk.2)), (by (with_reducible repeat (first | refine blk_drewN ?_ _ | refine blk_drew ?_ | refine blk_alloc ?_ _)); exact BK276.out), (by (with_reducible repeat (first | refine blk_drewN ?_ _ | refine blk_drew ?_ | refine blk_alloc ?_ _)); exact BK277.out), (by (with_reducible repeat (first | refine blk_drewN ?_ _ | refine blk_drew ?_ | refine blk_alloc ?_ _)); exact BK289.out), GW289.out, GE289.out, NB276_289.out, NB289_276.out, NB277_289.out, NB289_277.out, (by repeat (first | (with_reducible first | exact HB.out | apply below_alloc | apply pw_below_drewN | apply below_drew1 | refine below_set ?_ GE276.out | refine below_set ?_ GE277.out | refine below_set ?_ GE289.out) | exact HB.out))⟩)
     ·skip
      refine box_step ?hg (N := 6) ?hd (cs := #[.slice none 0 0]) (t := 30) ?hr ?_; (case hd => rfl); (case hg => rfl); (case hr => first | (go_simp; done) | (go_simp; rfl))
      intro gb289 hg w25 hbox hb
      have BK289 := Aside0.mk hbox
      have GW289 := ge_ HB hg
      have GE289 := ge_ HB hg
      have NB276_289 := nl_ BK276 hg
      have NB289_276 := ng_ BK276 hg
      have NB277_289 := nl_ BK277 hg
      have NB289_277 := ng_ BK277 hg
      replace HO281 := rb_ HO281 hb
      replace HB := Aside0.mk (bt_ HB hb)
      replace BK276 := Aside0.mk (bb_ BK276 hb)
      replace BK277 := Aside0.mk (bb_ BK277 hb)
      clear hb hbox hg
      obtain ⟨Ao26, co26, eo26⟩ := Kd.R_slice HO281.out
      (first | subst eo26 | (injection eo26 with f1_ f2_ f3_; have f4_ := f1_.symm; have f5_ := f3_.symm; clear f1_ f2_ f3_; subst f4_; subst f5_))
      refine hK.out _ _ ⟨(blk_cell BK276.out 0).trans rfl, (blk_cell BK277.out 0).trans rfl, (blk_cell BK277.out 1).trans rfl, (blk_cell BK277.out 2).trans rfl⟩ (fun hHeld => ?_)
      clear hK K
      refine nz_ 6 ?_
      refine one_ (i := 4) (N := some 26) ba13_13 rfl rfl (one_of HT_.out (by kernel_rfl)) (by decide) (fun K hK => ?_)
      refine gz_ Try.func15 #[.agg #[.slice Ao26 t279.length co26], .agg #[.int .i64 t282, .int .i64 t283, .int .i64 t284]] ?_
      with_reducible refine (spec_PutRoute.calls k _ _ t279 t282 t283 t284 t285 t288 _ ?side1 ?side2 A12.out).mono ?_
      (case side1 => exact rc_ HO281)
      (case side2 => exact (Kd.R_reads' HO281.out).2.1)
      rintro e w27 ⟨v286, rfl, ho0, hb⟩
      refine ⟨_, rfl, ?_⟩
      have HO287 := Aside0.mk (Kd.R_lower (Kd.R_new' ho0 (Kd.R_lt (hd_ HO281))) (bz_ HB))
      replace HO281 := Aside0.mk (Kd.R_elder' (hd_ HO281) (Kd.R_base ho0) hb)
      replace BK276 := Aside0.mk (bb_ BK276 hb)
      replace BK277 := Aside0.mk (bb_ BK277 hb)
      replace BK289 := Aside0.mk (bb_ BK289 hb)
      replace HB := Aside0.mk (bt_ HB hb)
      (try clear hb)
      (try clear hb2)
      (try clear hk)
      (try clear hi)
      (try clear ho0)
      refine hK.out _ _ ⟨(blk_cell BK276.out 0).trans rfl, (blk_cell BK277.out 0).trans rfl, (blk_cell BK277.out 1).trans rfl, (blk_cell BK277.out 2).trans rfl⟩ (fun hHeld => ?_)
      clear hK K
      refine nz_ 26 ?_
      refine pz_ 5 21 ba13_14 HT_ ?_
      refine pz_ 6 27 ba13_15 HT_ ?_
      refine pz_ 7 28 ba13_3 HT_ ?_
      exact norm_ (by simp only [putAll, Act.put, List.setIfInBounds_toArray, List.set_cons_zero, List.set_cons_succ]) (hCont (.slice Ao26 t279.length co26, v286, gb289) _ ⟨hHeld, (by (with_reducible repeat (first | apply Kd.R_alloc | apply Kd.R_drewN | apply Kd.R_drew)); exact Kd.R_mono HO281.out (fun _ hk => hk.2)), (by (with_reducible repeat (first | apply Kd.R_alloc | apply Kd.R_drewN | apply Kd.R_drew)); exact Kd.R_mono HO287.out (fun _ hk => hk.2)), (by (with_reducible repeat (first | refine blk_drewN ?_ _ | refine blk_drew ?_ | refine blk_alloc ?_ _)); exact BK276.out), (by (with_reducible repeat (first | refine blk_drewN ?_ _ | refine blk_drew ?_ | refine blk_alloc ?_ _)); exact BK277.out), (by (with_reducible repeat (first | refine blk_drewN ?_ _ | refine blk_drew ?_ | refine blk_alloc ?_ _)); exact BK289.out), GW289.out, GE289.out, NB276_289.out, NB289_276.out, NB277_289.out, NB289_277.out, (by repeat (first | (with_reducible first | exact HB.out | apply below_alloc | apply pw_below_drewN | apply below_drew1 | refine below_set ?_ GE276.out | refine below_set ?_ GE277.out | refine below_set ?_ GE289.out) | exact HB.out))⟩)
    ·skip
     refine box_step ?hg (N := 6) ?hd (cs := #[.slice none 0 0]) (t := 30) ?hr ?_; (case hd => rfl); (case hg => rfl); (case hr => first | (go_simp; done) | (go_simp; rfl))
     intro gb289 hg w24 hbox hb
     have BK289 := Aside0.mk hbox
     have GW289 := ge_ HB hg
     have GE289 := ge_ HB hg
     have NB276_289 := nl_ BK276 hg
     have NB289_276 := ng_ BK276 hg
     have NB277_289 := nl_ BK277 hg
     have NB289_277 := ng_ BK277 hg
     replace HO281 := rb_ HO281 hb
     replace HB := Aside0.mk (bt_ HB hb)
     replace BK276 := Aside0.mk (bb_ BK276 hb)
     replace BK277 := Aside0.mk (bb_ BK277 hb)
     clear hb hbox hg
     refine hK.out _ _ ⟨(blk_cell BK276.out 0).trans rfl, (blk_cell BK277.out 0).trans rfl, (blk_cell BK277.out 1).trans rfl, (blk_cell BK277.out 2).trans rfl⟩ (fun hHeld => ?_)
     clear hK K
     refine nz_ 6 ?_
     refine one_ (i := 3) (N := some 25) ba13_9 rfl rfl (one_of HT_.out (by kernel_rfl)) (by decide) (fun K hK => ?_)
     refine gz_ Try.func16 #[.agg #[.int .i64 a1_0, .int .i64 a1_1, .int .i64 a1_2]] ?_
     with_reducible refine (laws_toRoute.calls a1_0 a1_1 a1_2 t282 t283 t284 _ A11.out).mono ?_
     rintro e w25 ⟨rfl, hb⟩
     refine ⟨_, rfl, ?_⟩
     replace HO281 := rb_ HO281 hb
     replace BK276 := Aside0.mk (bb_ BK276 hb)
     replace BK277 := Aside0.mk (bb_ BK277 hb)
     replace BK289 := Aside0.mk (bb_ BK289 hb)
     replace HB := Aside0.mk (bt_ HB hb)
     (try clear hb)
     (try clear hb2)
     (try clear hk)
     (try clear hi)
     obtain ⟨Ao26, co26, eo26⟩ := Kd.R_slice HO281.out
     (first | subst eo26 | (injection eo26 with f1_ f2_ f3_; have f4_ := f1_.symm; have f5_ := f3_.symm; clear f1_ f2_ f3_; subst f4_; subst f5_))
     refine hK.out _ _ ⟨(blk_cell BK276.out 0).trans rfl, (blk_cell BK277.out 0).trans rfl, (blk_cell BK277.out 1).trans rfl, (blk_cell BK277.out 2).trans rfl⟩ (fun hHeld => ?_)
     clear hK K
     refine nz_ 25 ?_
     refine one_ (i := 4) (N := some 26) ba13_13 rfl rfl (one_of HT_.out (by kernel_rfl)) (by decide) (fun K hK => ?_)
     refine gz_ Try.func15 #[.agg #[.slice Ao26 t279.length co26], .agg #[.int .i64 t282, .int .i64 t283, .int .i64 t284]] ?_
     with_reducible refine (spec_PutRoute.calls k _ _ t279 t282 t283 t284 t285 t288 _ ?side1 ?side2 A12.out).mono ?_
     (case side1 => exact rc_ HO281)
     (case side2 => exact (Kd.R_reads' HO281.out).2.1)
     rintro e w27 ⟨v286, rfl, ho0, hb⟩
     refine ⟨_, rfl, ?_⟩
     have HO287 := Aside0.mk (Kd.R_lower (Kd.R_new' ho0 (Kd.R_lt (hd_ HO281))) (bz_ HB))
     replace HO281 := Aside0.mk (Kd.R_elder' (hd_ HO281) (Kd.R_base ho0) hb)
     replace BK276 := Aside0.mk (bb_ BK276 hb)
     replace BK277 := Aside0.mk (bb_ BK277 hb)
     replace BK289 := Aside0.mk (bb_ BK289 hb)
     replace HB := Aside0.mk (bt_ HB hb)
     (try clear hb)
     (try clear hb2)
     (try clear hk)
     (try clear hi)
     (try clear ho0)
     refine hK.out _ _ ⟨(blk_cell BK276.out 0).trans rfl, (blk_cell BK277.out 0).trans rfl, (blk_cell BK277.out 1).trans rfl, (blk_cell BK277.out 2).trans rfl⟩ (fun hHeld => ?_)
     clear hK K
     refine nz_ 26 ?_
     refine pz_ 5 21 ba13_14 HT_ ?_
     refine pz_ 6 27 ba13_15 HT_ ?_
     refine pz_ 7 28 ba13_3 HT_ ?_
     exact norm_ (by simp only [putAll, Act.put, List.setIfInBounds_toArray, List.set_cons_zero, List.set_cons_succ]) (hCont (.slice Ao26 t279.length co26, v286, gb289) _ ⟨hHeld, (by (with_reducible repeat (first | apply Kd.R_alloc | apply Kd.R_drewN | apply Kd.R_drew)); exact Kd.R_mono HO281.out (fun _ hk => hk.2)), (by (with_reducible repeat (first | apply Kd.R_alloc | apply Kd.R_drewN | apply Kd.R_drew)); exact Kd.R_mono HO287.out (fun _ hk => hk.2)), (by (with_reducible repeat (first | refine blk_drewN ?_ _ | refine blk_drew ?_ | refine blk_alloc ?_ _)); exact BK276.out), (by (with_reducible repeat (first | refine blk_drewN ?_ _ | refine blk_drew ?_ | refine blk_alloc ?_ _)); exact BK277.out), (by (with_reducible repeat (first | refine blk_drewN ?_ _ | refine blk_drew ?_ | refine blk_alloc ?_ _)); exact BK289.out), GW289.out, GE289.out, NB276_289.out, NB289_276.out, NB277_289.out, NB289_277.out, (by repeat (first | (with_reducible first | exact HB.out | apply below_alloc | apply pw_below_drewN | apply below_drew1 | refine below_set ?_ GE276.out | refine below_set ?_ GE277.out | refine below_set ?_ GE289.out) | exact HB.out))⟩)
   ·skip
    refine box_step ?hg (N := 6) ?hd (cs := #[.slice none 0 0]) (t := 30) ?hr ?_; (case hd => rfl); (case hg => rfl); (case hr => first | (go_simp; done) | (go_simp; rfl))
    intro gb289 hg w23 hbox hb
    have BK289 := Aside0.mk hbox
    have GW289 := ge_ HB hg
    have GE289 := ge_ HB hg
    have NB276_289 := nl_ BK276 hg
    have NB289_276 := ng_ BK276 hg
    have NB277_289 := nl_ BK277 hg
    have NB289_277 := ng_ BK277 hg
    replace HB := Aside0.mk (bt_ HB hb)
    replace BK276 := Aside0.mk (bb_ BK276 hb)
    replace BK277 := Aside0.mk (bb_ BK277 hb)
    clear hb hbox hg
    refine hK.out _ _ ⟨(blk_cell BK276.out 0).trans rfl, (blk_cell BK277.out 0).trans rfl, (blk_cell BK277.out 1).trans rfl, (blk_cell BK277.out 2).trans rfl⟩ (fun hHeld => ?_)
    clear hK K
    refine nz_ 6 ?_
    refine one_ (i := 1) (N := some 23) ba13_7 rfl rfl (one_of HT_.out (by kernel_rfl)) (by decide) (fun K hK => ?_)
    refine gz_ Try.func9 #[.agg #[.slice A0_0 l0_0.length c0_0]] ?_
    with_reducible refine (laws_toTable.calls k _ _ l0_0 t279 _ ?side1 ?side2 A10.out).mono ?_
    (case side1 => exact cb_ HR0_0 HB)
    (case side2 => exact HC0_0.out)
    rintro e w24 ⟨v280, rfl, ho0, hb⟩
    refine ⟨_, rfl, ?_⟩
    have HO281 := Aside0.mk (Kd.R_lower ho0 (bz_ HB))
    replace BK276 := Aside0.mk (bb_ BK276 hb)
    replace BK277 := Aside0.mk (bb_ BK277 hb)
    replace BK289 := Aside0.mk (bb_ BK289 hb)
    replace HB := Aside0.mk (bt_ HB hb)
    (try clear hb)
    (try clear hb2)
    (try clear hk)
    (try clear hi)
    (try clear ho0)
    refine hK.out _ _ ⟨(blk_cell BK276.out 0).trans rfl, (blk_cell BK277.out 0).trans rfl, (blk_cell BK277.out 1).trans rfl, (blk_cell BK277.out 2).trans rfl⟩ (fun hHeld => ?_)
    clear hK K
    refine nz_ 23 ?_
    refine one_ (i := 3) (N := some 25) ba13_9 rfl rfl (one_of HT_.out (by kernel_rfl)) (by decide) (fun K hK => ?_)
    refine gz_ Try.func16 #[.agg #[.int .i64 a1_0, .int .i64 a1_1, .int .i64 a1_2]] ?_
    with_reducible refine (laws_toRoute.calls a1_0 a1_1 a1_2 t282 t283 t284 _ A11.out).mono ?_
    rintro e w25 ⟨rfl, hb⟩
    refine ⟨_, rfl, ?_⟩
    replace HO281 := rb_ HO281 hb
    replace BK276 := Aside0.mk (bb_ BK276 hb)
    replace BK277 := Aside0.mk (bb_ BK277 hb)
    replace BK289 := Aside0.mk (bb_ BK289 hb)
    replace HB := Aside0.mk (bt_ HB hb)
    (try clear hb)
    (try clear hb2)
    (try clear hk)
    (try clear hi)
    obtain ⟨Ao26, co26, eo26⟩ := Kd.R_slice HO281.out
    (first | subst eo26 | (injection eo26 with f1_ f2_ f3_; have f4_ := f1_.symm; have f5_ := f3_.symm; clear f1_ f2_ f3_; subst f4_; subst f5_))
    refine hK.out _ _ ⟨(blk_cell BK276.out 0).trans rfl, (blk_cell BK277.out 0).trans rfl, (blk_cell BK277.out 1).trans rfl, (blk_cell BK277.out 2).trans rfl⟩ (fun hHeld => ?_)
    clear hK K
    refine nz_ 25 ?_
    refine one_ (i := 4) (N := some 26) ba13_13 rfl rfl (one_of HT_.out (by kernel_rfl)) (by decide) (fun K hK => ?_)
    refine gz_ Try.func15 #[.agg #[.slice Ao26 t279.length co26], .agg #[.int .i64 t282, .int .i64 t283, .int .i64 t284]] ?_
    with_reducible refine (spec_PutRoute.calls k _ _ t279 t282 t283 t284 t285 t288 _ ?side1 ?side2 A12.out).mono ?_
    (case side1 => exact rc_ HO281)
    (case side2 => exact (Kd.R_reads' HO281.out).2.1)
    rintro e w27 ⟨v286, rfl, ho0, hb⟩
    refine ⟨_, rfl, ?_⟩
    have HO287 := Aside0.mk (Kd.R_lower (Kd.R_new' ho0 (Kd.R_lt (hd_ HO281))) (bz_ HB))
    replace HO281 := Aside0.mk (Kd.R_elder' (hd_ HO281) (Kd.R_base ho0) hb)
    replace BK276 := Aside0.mk (bb_ BK276 hb)
    replace BK277 := Aside0.mk (bb_ BK277 hb)
    replace BK289 := Aside0.mk (bb_ BK289 hb)
    replace HB := Aside0.mk (bt_ HB hb)
    (try clear hb)
    (try clear hb2)
    (try clear hk)
    (try clear hi)
    (try clear ho0)
    refine hK.out _ _ ⟨(blk_cell BK276.out 0).trans rfl, (blk_cell BK277.out 0).trans rfl, (blk_cell BK277.out 1).trans rfl, (blk_cell BK277.out 2).trans rfl⟩ (fun hHeld => ?_)
    clear hK K
    refine nz_ 26 ?_
    refine pz_ 5 21 ba13_14 HT_ ?_
    refine pz_ 6 27 ba13_15 HT_ ?_
    refine pz_ 7 28 ba13_3 HT_ ?_
    exact norm_ (by simp only [putAll, Act.put, List.setIfInBounds_toArray, List.set_cons_zero, List.set_cons_succ]) (hCont (.slice Ao26 t279.length co26, v286, gb289) _ ⟨hHeld, (by (with_reducible repeat (first | apply Kd.R_alloc | apply Kd.R_drewN | apply Kd.R_drew)); exact Kd.R_mono HO281.out (fun _ hk => hk.2)), (by (with_reducible repeat (first | apply Kd.R_alloc | apply Kd.R_drewN | apply Kd.R_drew)); exact Kd.R_mono HO287.out (fun _ hk => hk.2)), (by (with_reducible repeat (first | refine blk_drewN ?_ _ | refine blk_drew ?_ | refine blk_alloc ?_ _)); exact BK276.out), (by (with_reducible repeat (first | refine blk_drewN ?_ _ | refine blk_drew ?_ | refine blk_alloc ?_ _)); exact BK277.out), (by (with_reducible repeat (first | refine blk_drewN ?_ _ | refine blk_drew ?_ | refine blk_alloc ?_ _)); exact BK289.out), GW289.out, GE289.out, NB276_289.out, NB289_276.out, NB277_289.out, NB289_277.out, (by repeat (first | (with_reducible first | exact HB.out | apply below_alloc | apply pw_below_drewN | apply below_drew1 | refine below_set ?_ GE276.out | refine below_set ?_ GE277.out | refine below_set ?_ GE289.out) | exact HB.out))⟩)
  rintro ⟨v280, v286, gb289⟩ w28 ⟨hS_, h0_, h1_, h2_, h3_, h4_, h5_, h6_, h7_, h8_, h9_, h10_, h11_⟩
  have HO281 : Aside0 (Kd.R k43 43 w28 w.heap.size (fun k_ => some k_ ≠ (v286 : Value).ownBlock) v280 t279) := ⟨h0_⟩
  have HO287 : Aside0 (Kd.R k43 43 w28 w.heap.size (fun k_ => some k_ ≠ (v280 : Value).ownBlock) v286 t285) := ⟨h1_⟩
  have BK289 : Aside0 (w28.heap[gb289]? = some (.cells #[.slice none 0 0] 30 (0, 0))) := ⟨h4_⟩
  have GW289 : Aside0 (w.heap.size ≤ gb289) := ⟨h5_⟩
  have GE289 : Aside0 (w.heap.size ≤ gb289) := ⟨h6_⟩
  have NB276_289 : Aside0 (gb276 ≠ gb289) := ⟨h7_⟩
  have NB289_276 : Aside0 (gb289 ≠ gb276) := ⟨h8_⟩
  have NB277_289 : Aside0 (gb277 ≠ gb289) := ⟨h9_⟩
  have NB289_277 : Aside0 (gb289 ≠ gb277) := ⟨h10_⟩
  replace BK276 : Aside0 (w28.heap[gb276]? = some (.cells #[.slice A0_0 l0_0.length c0_0] 24 (0, 0))) := ⟨h2_⟩
  replace BK277 : Aside0 (w28.heap[gb277]? = some (.cells #[.int .i64 a1_0, .int .i64 a1_1, .int .i64 a1_2] 40 (0, 0))) := ⟨h3_⟩
  replace HB : Aside0 (Below w.heap.size w w28) := ⟨h11_⟩
  clear h0_ h1_ h2_ h3_ h4_ h5_ h6_ h7_ h8_ h9_ h10_ h11_
  have hHeld : w28.cell? ⟨gb276, 0, none⟩ = some (.slice A0_0 l0_0.length c0_0) ∧ w28.cell? ⟨gb277, 0, none⟩ = some (.int .i64 a1_0) ∧ w28.cell? ⟨gb277, 1, none⟩ = some (.int .i64 a1_1) ∧ w28.cell? ⟨gb277, 2, none⟩ = some (.int .i64 a1_2) := hS_
  obtain ⟨Ao29, co29, eo29⟩ := Kd.R_slice HO287.out
  (first | subst eo29 | (injection eo29 with f1_ f2_ f3_; have f4_ := f1_.symm; have f5_ := f3_.symm; clear f1_ f2_ f3_; subst f4_; subst f5_))
  refine norm_ (a' := ?_) ?_ ?_
  rotate_left; · simp only [putAll, Act.put, List.setIfInBounds_toArray, List.set_cons_zero, List.set_cons_succ]; rfl
  refine one_ (i := 9) (N := none) ba13_16 rfl rfl (one_of HT_.out (by kernel_rfl)) (by decide) (fun K hK => ?_)
  have hs30 : w28.cell? ⟨gb289, 0, none⟩ = some (.slice none 0 0) := (blk_cell BK289.out 0).trans rfl
  have hfs30 := blk_frozen BK289.out 0
  have hns30_0 := NB276_289.out
  have hns30_1 := NB277_289.out
  have hms30_0 := NB289_276.out
  have hms30_1 := NB289_277.out
  refine skip_ (w1 := ?_) (by rfl) rfl ?_ ?_
  rotate_left; · go_simp; rfl
  refine hK.out _ _ ⟨((cell_far (p := ⟨gb289, _, none⟩) NB276_289.out _).trans (hHeld.1)), ((cell_far (p := ⟨gb289, _, none⟩) NB277_289.out _).trans (hHeld.2.1)), ((cell_far (p := ⟨gb289, _, none⟩) NB277_289.out _).trans (hHeld.2.2.1)), ((cell_far (p := ⟨gb289, _, none⟩) NB277_289.out _).trans (hHeld.2.2.2))⟩ (fun hHeld => ?_)
  clear hK K
  refine pz_ 10 7 ba13_17 HT_ ?_
  refine done_ (done_of HT_.out (by kernel_rfl)) ?_
  have hnb31 := NB276_289.out
  have hnc31 := NB289_276.out
  have hcz32_0 := cz_ BK276 0 (.slice A0_0 l0_0.length c0_0)
  have hfz32_0 := blk_frozen BK276.out 0
  try go_wp2_with (first | ((with_reducible refine gate_callee (f := 9) rfl ?_); refine gl_ (some 30) Try.func9 #[.agg #[.slice A0_0 l0_0.length c0_0]] ?_; (with_reducible refine (laws_toTable.calls k _ _ l0_0 t290 _ ?side1 ?side2 A13.out).mono ?_); (case side1 => exact Kd.C_below HR0_0.out (by repeat (first | (with_reducible first | exact HB.out | apply below_alloc | apply pw_below_drewN | apply below_drew1 | refine below_set ?_ GE276.out | refine below_set ?_ GE277.out | refine below_set ?_ GE289.out) | exact HB.out))); (case side2 => exact HC0_0.out); rintro e w33 ⟨v291, rfl, ho0, hb⟩; refine ⟨_, rfl, ?_⟩; have HO292 := Aside0.mk (Kd.R_lower (Kd.R_new' (Kd.R_new' ho0 (Kd.R_lt (hs_ HO281 BK289))) (Kd.R_lt (hs_ HO287 BK289))) (bz_ HB)); replace HO281 := Aside0.mk (Kd.R_elder' (hs_ HO281 BK289) (Kd.R_base ho0) hb); replace HO287 := Aside0.mk (Kd.R_elder' (hs_ HO287 BK289) (Kd.R_base ho0) hb); replace BK276 := bf_ BK276 NB276_289 hb; replace BK277 := bf_ BK277 NB277_289 hb; replace BK289 := Aside0.mk (blk_below (g := gb289) (o := .cells #[.slice Ao29 t285.length co29] 30 (0, 0)) (by (with_reducible repeat (first | refine blk_drewN ?_ _ | refine blk_drew ?_ | refine blk_alloc ?_ _)); refine blk_put (cs := #[.slice none 0 0]) ?_ 0 _ rfl; (with_reducible repeat (first | refine blk_drewN ?_ _ | refine blk_drew ?_ | refine blk_alloc ?_ _)); exact BK289.out) hb); replace HB := Aside0.mk (bt_ HB hb); (try clear hb); (try clear hb2); (try clear hk); (try clear hi); (try clear ho0)) | ((with_reducible refine gate_dst (N := 8) rfl ?_); refine box_event ?hg (N := 8) ?hd (cs := #[.slice none 0 0]) (t := 30) ?hr ?_; (case hd => rfl); (case hg => rfl); (case hr => first | (go_simp; done) | (go_simp; rfl)); intro gb293 hg w34 hbox hb; have BK293 := Aside0.mk hbox; have GW293 := ge_ HB hg; have GE293 := ge_ HB hg; have NB276_293 := nl_ BK276 hg; have NB293_276 := ng_ BK276 hg; have NB277_293 := nl_ BK277 hg; have NB293_277 := ng_ BK277 hg; have NB289_293 := nl_ BK289 hg; have NB293_289 := ng_ BK289 hg; replace HO281 := rb_ HO281 hb; replace HO287 := rb_ HO287 hb; replace HO292 := rb_ HO292 hb; replace HB := Aside0.mk (bt_ HB hb); replace BK276 := Aside0.mk (bb_ BK276 hb); replace BK277 := Aside0.mk (bb_ BK277 hb); replace BK289 := Aside0.mk (bb_ BK289 hb); clear hb hbox hg; obtain ⟨Ao35, co35, eo35⟩ := Kd.R_slice HO292.out; subst eo35; have hnb36 := NB293_276.out; have hnc36 := NB276_293.out; have hnb37 := NB293_277.out; have hnc37 := NB277_293.out; have hnb38 := NB293_289.out; have hnc38 := NB289_293.out; have hcz39_0 := cz_ BK293 0 (.slice none 0 0); have hfz39_0 := blk_frozen BK293.out 0))
  have n0_ : Aside0 (Kd.R k43 43 (w34.setCell ⟨gb293, 0, none⟩ (.slice Ao35 t290.length co35)) w.heap.size (fun k_ => some k_ ≠ (.slice Ao29 t285.length co29 : Value).ownBlock ∧ some k_ ≠ (.slice Ao35 t290.length co35 : Value).ownBlock) v280 t279) := ⟨by (with_reducible repeat (first | apply Kd.R_alloc | apply Kd.R_drewN | apply Kd.R_drew)); exact Kd.R_mono (Kd.R_far (p := ⟨gb293, 0, none⟩) (Kd.R_types HO281.out BK293.out (by decide)) (fun _ hk => hk.2) (.slice Ao35 t290.length co35)) (fun _ hk => by first | exact ⟨hk.1.1, hk.1.2⟩ | grind)⟩
  have n1_ : Aside0 (Kd.R k43 43 (w34.setCell ⟨gb293, 0, none⟩ (.slice Ao35 t290.length co35)) w.heap.size (fun k_ => some k_ ≠ (v280 : Value).ownBlock ∧ some k_ ≠ (.slice Ao35 t290.length co35 : Value).ownBlock) (.slice Ao29 t285.length co29) t285) := ⟨by (with_reducible repeat (first | apply Kd.R_alloc | apply Kd.R_drewN | apply Kd.R_drew)); exact Kd.R_mono (Kd.R_far (p := ⟨gb293, 0, none⟩) (Kd.R_types HO287.out BK293.out (by decide)) (fun _ hk => hk.2) (.slice Ao35 t290.length co35)) (fun _ hk => by first | exact ⟨hk.1.1, hk.1.2⟩ | grind)⟩
  have n2_ : Aside0 (Kd.R k43 43 (w34.setCell ⟨gb293, 0, none⟩ (.slice Ao35 t290.length co35)) w.heap.size (fun k_ => some k_ ≠ (v280 : Value).ownBlock ∧ some k_ ≠ (.slice Ao29 t285.length co29 : Value).ownBlock) (.slice Ao35 t290.length co35) t290) := ⟨by (with_reducible repeat (first | apply Kd.R_alloc | apply Kd.R_drewN | apply Kd.R_drew)); exact Kd.R_mono (Kd.R_far (p := ⟨gb293, 0, none⟩) (Kd.R_types HO292.out BK293.out (by decide)) (fun _ hk => hk.2) (.slice Ao35 t290.length co35)) (fun _ hk => by first | exact ⟨hk.1.1.2, hk.1.2⟩ | grind)⟩
  have n3_ : Aside0 ((w34.setCell ⟨gb293, 0, none⟩ (.slice Ao35 t290.length co35)).heap[gb276]? = some (.cells #[.slice A0_0 l0_0.length c0_0] 24 (0, 0))) := ⟨by (with_reducible repeat (first | refine blk_drewN ?_ _ | refine blk_drew ?_ | refine blk_alloc ?_ _)); refine blk_far ?_ NB276_293.out _; (with_reducible repeat (first | refine blk_drewN ?_ _ | refine blk_drew ?_ | refine blk_alloc ?_ _)); exact BK276.out⟩
  have n4_ : Aside0 ((w34.setCell ⟨gb293, 0, none⟩ (.slice Ao35 t290.length co35)).heap[gb277]? = some (.cells #[.int .i64 a1_0, .int .i64 a1_1, .int .i64 a1_2] 40 (0, 0))) := ⟨by (with_reducible repeat (first | refine blk_drewN ?_ _ | refine blk_drew ?_ | refine blk_alloc ?_ _)); refine blk_far ?_ NB277_293.out _; (with_reducible repeat (first | refine blk_drewN ?_ _ | refine blk_drew ?_ | refine blk_alloc ?_ _)); exact BK277.out⟩
  have n5_ : Aside0 ((w34.setCell ⟨gb293, 0, none⟩ (.slice Ao35 t290.length co35)).heap[gb289]? = some (.cells #[.slice Ao29 t285.length co29] 30 (0, 0))) := ⟨by (with_reducible repeat (first | refine blk_drewN ?_ _ | refine blk_drew ?_ | refine blk_alloc ?_ _)); refine blk_far ?_ NB289_293.out _; (with_reducible repeat (first | refine blk_drewN ?_ _ | refine blk_drew ?_ | refine blk_alloc ?_ _)); exact BK289.out⟩
  have n6_ : Aside0 ((w34.setCell ⟨gb293, 0, none⟩ (.slice Ao35 t290.length co35)).heap[gb293]? = some (.cells #[.slice Ao35 t290.length co35] 30 (0, 0))) := ⟨by (with_reducible repeat (first | refine blk_drewN ?_ _ | refine blk_drew ?_ | refine blk_alloc ?_ _)); refine blk_put (cs := #[.slice none 0 0]) ?_ 0 _ rfl; (with_reducible repeat (first | refine blk_drewN ?_ _ | refine blk_drew ?_ | refine blk_alloc ?_ _)); exact BK293.out⟩
  have n7_ : Aside0 (Below w.heap.size w (w34.setCell ⟨gb293, 0, none⟩ (.slice Ao35 t290.length co35))) := ⟨by repeat (first | (with_reducible first | exact HB.out | apply below_alloc | apply pw_below_drewN | apply below_drew1 | refine below_set ?_ GE276.out | refine below_set ?_ GE277.out | refine below_set ?_ GE289.out | refine below_set ?_ GE293.out) | exact HB.out)⟩
  (try clear HO281)
  (try clear HO287)
  (try clear HO292)
  (try clear BK276)
  (try clear BK277)
  (try clear BK289)
  (try clear BK293)
  (try clear HB)
  generalize (w34.setCell ⟨gb293, 0, none⟩ (.slice Ao35 t290.length co35)) = w40 at n0_ n1_ n2_ n3_ n4_ n5_ n6_ n7_ ⊢
  have HO281 := n0_
  have HO287 := n1_
  have HO292 := n2_
  have BK276 := n3_
  have BK277 := n4_
  have BK289 := n5_
  have BK293 := n6_
  have HB := n7_
  clear n0_ n1_ n2_ n3_ n4_ n5_ n6_ n7_
  replace HO281 := Aside0.mk (Kd.R_drew HO281.out)
  replace HO287 := Aside0.mk (Kd.R_drew HO287.out)
  replace HO292 := Aside0.mk (Kd.R_drew HO292.out)
  replace BK276 := Aside0.mk (blk_drew BK276.out)
  replace BK277 := Aside0.mk (blk_drew BK277.out)
  replace BK289 := Aside0.mk (blk_drew BK289.out)
  replace BK293 := Aside0.mk (blk_drew BK293.out)
  replace HB := Aside0.mk (below_drew1 HB.out)
  refine start_ (n := 10) (S := fun w' => w'.cell? ⟨gb293, 0, none⟩ = some (.slice Ao35 t290.length co35) ∧ w'.cell? ⟨gb277, 0, none⟩ = some (.int .i64 a1_0) ∧ w'.cell? ⟨gb277, 1, none⟩ = some (.int .i64 a1_1) ∧ w'.cell? ⟨gb277, 2, none⟩ = some (.int .i64 a1_2)) (ds := []) ba13_18 (by kernel_rfl) rfl rfl ⟨(blk_cell BK293.out 0).trans rfl, (blk_cell BK277.out 0).trans rfl, (blk_cell BK277.out 1).trans rfl, (blk_cell BK277.out 2).trans rfl⟩ (fun hHeld => ?_); refine with_tabW laws_FnExactPutRoute.tab7 laws_FnExactPutRoute.bits7 (fun HT_ HW_ => ?_)
  generalize w40.drew = w41 at HO281 HO287 HO292 BK276 BK277 BK289 BK293 HB hHeld ⊢
  refine pt_ 0 32 ba13_19 HT_ HW_ hHeld ?_
  refine pt_ 1 33 ba13_20 HT_ HW_ hHeld ?_
  refine join_ (σ := Value × Nat) 2 ba13_21 (fun s_ => [(34, .agg #[.int .i64 t294, .int .i64 t295, .int .i64 t296]), (35, .tuple #[.agg #[s_.1], .bool t300]), (9, .pointer (some ⟨s_.2, 0, none⟩)), (31, .tuple #[.agg #[s_.1], .bool t300]), (36, .agg #[s_.1]), (37, .bool t300)]) (fun s_ w' => (w'.cell? ⟨gb293, 0, none⟩ = some (.slice Ao35 t290.length co35) ∧ w'.cell? ⟨gb277, 0, none⟩ = some (.int .i64 a1_0) ∧ w'.cell? ⟨gb277, 1, none⟩ = some (.int .i64 a1_1) ∧ w'.cell? ⟨gb277, 2, none⟩ = some (.int .i64 a1_2)) ∧ (Kd.R k43 43 w' w.heap.size (fun k_ => some k_ ≠ (.slice Ao29 t285.length co29 : Value).ownBlock ∧ some k_ ≠ (.slice Ao35 t290.length co35 : Value).ownBlock ∧ some k_ ≠ (s_.1 : Value).ownBlock) v280 t279) ∧ (Kd.R k43 43 w' w.heap.size (fun k_ => some k_ ≠ (v280 : Value).ownBlock ∧ some k_ ≠ (.slice Ao35 t290.length co35 : Value).ownBlock ∧ some k_ ≠ (s_.1 : Value).ownBlock) (.slice Ao29 t285.length co29) t285) ∧ (Kd.R k43 43 w' w.heap.size (fun k_ => some k_ ≠ (v280 : Value).ownBlock ∧ some k_ ≠ (.slice Ao29 t285.length co29 : Value).ownBlock ∧ some k_ ≠ (s_.1 : Value).ownBlock) (.slice Ao35 t290.length co35) t290) ∧ (Kd.R k43 43 w' w.heap.size (fun k_ => some k_ ≠ (v280 : Value).ownBlock ∧ some k_ ≠ (.slice Ao29 t285.length co29 : Value).ownBlock ∧ some k_ ≠ (.slice Ao35 t290.length co35 : Value).ownBlock) s_.1 t297) ∧ (w'.heap[gb276]? = some (.cells #[.slice A0_0 l0_0.length c0_0] 24 (0, 0))) ∧ (w'.heap[gb277]? = some (.cells #[.int .i64 a1_0, .int .i64 a1_1, .int .i64 a1_2] 40 (0, 0))) ∧ (w'.heap[gb289]? = some (.cells #[.slice Ao29 t285.length co29] 30 (0, 0))) ∧ (w'.heap[gb293]? = some (.cells #[.slice Ao35 t290.length co35] 30 (0, 0))) ∧ (w'.heap[s_.2]? = some (.cells #[.slice none 0 0] 30 (0, 0))) ∧ (w.heap.size ≤ s_.2) ∧ (w.heap.size ≤ s_.2) ∧ (gb276 ≠ s_.2) ∧ (s_.2 ≠ gb276) ∧ (gb277 ≠ s_.2) ∧ (s_.2 ≠ gb277) ∧ (gb289 ≠ s_.2) ∧ (s_.2 ≠ gb289) ∧ (gb293 ≠ s_.2) ∧ (s_.2 ≠ gb293) ∧ (Below w.heap.size w w')) ?_ ?_
  rotate_left
  ·intro hCont
   refine two_ (i := 2) (j := 7) (Ni := some 34) (Nj := some 9) ba13_22 ba13_23 rfl rfl rfl rfl (two_of HT_.out (by kernel_rfl)) (by decide) (by decide) (fun K hK => ?_) (fun K hK => ?_)
   ·skip
    refine gz_ Try.func16 #[.agg #[.int .i64 a1_0, .int .i64 a1_1, .int .i64 a1_2]] ?_
    with_reducible refine (laws_toRoute.calls a1_0 a1_1 a1_2 t294 t295 t296 _ A14.out).mono ?_
    rintro e w42 ⟨rfl, hb⟩
    refine ⟨_, rfl, ?_⟩
    replace HO281 := rb_ HO281 hb
    replace HO287 := rb_ HO287 hb
    replace HO292 := rb_ HO292 hb
    replace BK276 := Aside0.mk (bb_ BK276 hb)
    replace BK277 := Aside0.mk (bb_ BK277 hb)
    replace BK289 := Aside0.mk (bb_ BK289 hb)
    replace BK293 := Aside0.mk (bb_ BK293 hb)
    replace HB := Aside0.mk (bt_ HB hb)
    (try clear hb)
    (try clear hb2)
    (try clear hk)
    (try clear hi)
    refine hK.out _ _ ⟨(blk_cell BK293.out 0).trans rfl, (blk_cell BK277.out 0).trans rfl, (blk_cell BK277.out 1).trans rfl, (blk_cell BK277.out 2).trans rfl⟩ (fun hHeld => ?_)
    clear hK K
    refine nz_ 34 ?_
    refine two_ (i := 3) (j := 7) (Ni := some 35) (Nj := some 9) ba13_24 ba13_25 rfl rfl rfl rfl (two_of HT_.out (by kernel_rfl)) (by decide) (by decide) (fun K hK => ?_) (fun K hK => ?_)
    ·skip
     refine gz_ Try.func17 #[.agg #[.slice Ao35 t290.length co35], .agg #[.int .i64 t294, .int .i64 t295, .int .i64 t296]] ?_
     with_reducible refine (impl_PutRoute.calls k _ _ t290 t294 t295 t296 t297 t300 _ ?side1 ?side2 A15.out).mono ?_
     (case side1 => exact rc_ HO292)
     (case side2 => exact (Kd.R_reads' HO292.out).2.1)
     rintro e w43 ⟨v298, rfl, ho0, hb⟩
     refine ⟨_, rfl, ?_⟩
     have HO299 := Aside0.mk (Kd.R_lower (Kd.R_new' (Kd.R_new' (Kd.R_new' ho0 (Kd.R_lt (hd_ HO281))) (Kd.R_lt (hd_ HO287))) (Kd.R_lt (hd_ HO292))) (bz_ HB))
     replace HO281 := Aside0.mk (Kd.R_elder' (hd_ HO281) (Kd.R_base ho0) hb)
     replace HO287 := Aside0.mk (Kd.R_elder' (hd_ HO287) (Kd.R_base ho0) hb)
     replace HO292 := Aside0.mk (Kd.R_elder' (hd_ HO292) (Kd.R_base ho0) hb)
     replace BK276 := Aside0.mk (bb_ BK276 hb)
     replace BK277 := Aside0.mk (bb_ BK277 hb)
     replace BK289 := Aside0.mk (bb_ BK289 hb)
     replace BK293 := Aside0.mk (bb_ BK293 hb)
     replace HB := Aside0.mk (bt_ HB hb)
     (try clear hb)
     (try clear hb2)
     (try clear hk)
     (try clear hi)
     (try clear ho0)
     refine hK.out _ _ ⟨(blk_cell BK293.out 0).trans rfl, (blk_cell BK277.out 0).trans rfl, (blk_cell BK277.out 1).trans rfl, (blk_cell BK277.out 2).trans rfl⟩ (fun hHeld => ?_)
     clear hK K
     refine nz_ 35 ?_
     refine pz_ 4 31 ba13_26 HT_ ?_
     refine pz_ 5 36 ba13_27 HT_ ?_
     refine pz_ 6 37 ba13_28 HT_ ?_
     refine one_ (i := 7) (N := some 9) ba13_21 rfl rfl (one_of HT_.out (by kernel_rfl)) (by decide) (fun K hK => ?_)
     refine box_step ?hg (N := 9) ?hd (cs := #[.slice none 0 0]) (t := 30) ?hr ?_; (case hd => rfl); (case hg => rfl); (case hr => first | (go_simp; done) | (go_simp; rfl))
     intro gb301 hg w44 hbox hb
     have BK301 := Aside0.mk hbox
     have GW301 := ge_ HB hg
     have GE301 := ge_ HB hg
     have NB276_301 := nl_ BK276 hg
     have NB301_276 := ng_ BK276 hg
     have NB277_301 := nl_ BK277 hg
     have NB301_277 := ng_ BK277 hg
     have NB289_301 := nl_ BK289 hg
     have NB301_289 := ng_ BK289 hg
     have NB293_301 := nl_ BK293 hg
     have NB301_293 := ng_ BK293 hg
     replace HO281 := rb_ HO281 hb
     replace HO287 := rb_ HO287 hb
     replace HO292 := rb_ HO292 hb
     replace HO299 := rb_ HO299 hb
     replace HB := Aside0.mk (bt_ HB hb)
     replace BK276 := Aside0.mk (bb_ BK276 hb)
     replace BK277 := Aside0.mk (bb_ BK277 hb)
     replace BK289 := Aside0.mk (bb_ BK289 hb)
     replace BK293 := Aside0.mk (bb_ BK293 hb)
     clear hb hbox hg
     refine hK.out _ _ ⟨(blk_cell BK293.out 0).trans rfl, (blk_cell BK277.out 0).trans rfl, (blk_cell BK277.out 1).trans rfl, (blk_cell BK277.out 2).trans rfl⟩ (fun hHeld => ?_)
     clear hK K
     refine nz_ 9 ?_
     exact norm_ (by simp only [putAll, Act.put, List.setIfInBounds_toArray, List.set_cons_zero, List.set_cons_succ]) (hCont (v298, gb301) _ ⟨hHeld, (by (with_reducible repeat (first | apply Kd.R_alloc | apply Kd.R_drewN | apply Kd.R_drew)); exact Kd.R_mono HO281.out (fun _ hk => ⟨hk.1.1, ⟨hk.1.2, hk.2⟩⟩)), (by (with_reducible repeat (first | apply Kd.R_alloc | apply Kd.R_drewN | apply Kd.R_drew)); exact Kd.R_mono HO287.out (fun _ hk => ⟨hk.1.1, ⟨hk.1.2, hk.2⟩⟩)), (by (with_reducible repeat (first | apply Kd.R_alloc | apply Kd.R_drewN | apply Kd.R_drew)); exact Kd.R_mono HO292.out (fun _ hk => ⟨hk.1.1, ⟨hk.1.2, hk.2⟩⟩)), (by (with_reducible repeat (first | apply Kd.R_alloc | apply Kd.R_drewN | apply Kd.R_drew)); exact Kd.R_mono HO299.out (fun _ hk => ⟨hk.1.1.2, ⟨hk.1.2, hk.2⟩⟩)), (by (with_reducible repeat (first | refine blk_drewN ?_ _ | refine blk_drew ?_ | refine blk_alloc ?_ _)); exact BK276.out), (by (with_reducible repeat (first | refine blk_drewN ?_ _ | refine blk_drew ?_ | refine blk_alloc ?_ _)); exact BK277.out), (by (with_reducible repeat (first | refine blk_drewN ?_ _ | refine blk_drew ?_ | refine blk_alloc ?_ _)); exact BK289.out), (by (with_reducible repeat (first | refine blk_drewN ?_ _ | refine blk_drew ?_ | refine blk_alloc ?_ _)); exact BK293.out), (by (with_reducible repeat (first | refine blk_drewN ?_ _ | refine blk_drew ?_ | refine blk_alloc ?_ _)); exact BK301.out), GW301.out, GE301.out, NB276_301.out, NB301_276.out, NB277_301.out, NB301_277.out, NB289_301.out, NB301_289.out, NB293_301.out, NB301_293.out, (by repeat (first | (with_reducible first | exact HB.out | apply below_alloc | apply pw_below_drewN | apply below_drew1 | refine below_set ?_ GE276.out | refine below_set ?_ GE277.out | refine below_set ?_ GE289.out | refine below_set ?_ GE293.out | refine below_set ?_ GE301.out) | exact HB.out))⟩)
    ·skip
     refine box_step ?hg (N := 9) ?hd (cs := #[.slice none 0 0]) (t := 30) ?hr ?_; (case hd => rfl); (case hg => rfl); (case hr => first | (go_simp; done) | (go_simp; rfl))
     intro gb301 hg w43 hbox hb
     have BK301 := Aside0.mk hbox
     have GW301 := ge_ HB hg
     have GE301 := ge_ HB hg
     have NB276_301 := nl_ BK276 hg
     have NB301_276 := ng_ BK276 hg
     have NB277_301 := nl_ BK277 hg
     have NB301_277 := ng_ BK277 hg
     have NB289_301 := nl_ BK289 hg
     have NB301_289 := ng_ BK289 hg
     have NB293_301 := nl_ BK293 hg
     have NB301_293 := ng_ BK293 hg
     replace HO281 := rb_ HO281 hb
     replace HO287 := rb_ HO287 hb
     replace HO292 := rb_ HO292 hb
     replace HB := Aside0.mk (bt_ HB hb)
     replace BK276 := Aside0.mk (bb_ BK276 hb)
     replace BK277 := Aside0.mk (bb_ BK277 hb)
     replace BK289 := Aside0.mk (bb_ BK289 hb)
     replace BK293 := Aside0.mk (bb_ BK293 hb)
     clear hb hbox hg
     refine hK.out _ _ ⟨(blk_cell BK293.out 0).trans rfl, (blk_cell BK277.out 0).trans rfl, (blk_cell BK277.out 1).trans rfl, (blk_cell BK277.out 2).trans rfl⟩ (fun hHeld => ?_)
     clear hK K
     refine nz_ 9 ?_
     refine one_ (i := 3) (N := some 35) ba13_29 rfl rfl (one_of HT_.out (by kernel_rfl)) (by decide) (fun K hK => ?_)
     refine gz_ Try.func17 #[.agg #[.slice Ao35 t290.length co35], .agg #[.int .i64 t294, .int .i64 t295, .int .i64 t296]] ?_
     with_reducible refine (impl_PutRoute.calls k _ _ t290 t294 t295 t296 t297 t300 _ ?side1 ?side2 A15.out).mono ?_
     (case side1 => exact rc_ HO292)
     (case side2 => exact (Kd.R_reads' HO292.out).2.1)
     rintro e w44 ⟨v298, rfl, ho0, hb⟩
     refine ⟨_, rfl, ?_⟩
     have HO299 := Aside0.mk (Kd.R_lower (Kd.R_new' (Kd.R_new' (Kd.R_new' ho0 (Kd.R_lt (hd_ HO281))) (Kd.R_lt (hd_ HO287))) (Kd.R_lt (hd_ HO292))) (bz_ HB))
     replace HO281 := Aside0.mk (Kd.R_elder' (hd_ HO281) (Kd.R_base ho0) hb)
     replace HO287 := Aside0.mk (Kd.R_elder' (hd_ HO287) (Kd.R_base ho0) hb)
     replace HO292 := Aside0.mk (Kd.R_elder' (hd_ HO292) (Kd.R_base ho0) hb)
     replace BK276 := Aside0.mk (bb_ BK276 hb)
     replace BK277 := Aside0.mk (bb_ BK277 hb)
     replace BK289 := Aside0.mk (bb_ BK289 hb)
     replace BK293 := Aside0.mk (bb_ BK293 hb)
     replace BK301 := Aside0.mk (bb_ BK301 hb)
     replace HB := Aside0.mk (bt_ HB hb)
     (try clear hb)
     (try clear hb2)
     (try clear hk)
     (try clear hi)
     (try clear ho0)
     refine hK.out _ _ ⟨(blk_cell BK293.out 0).trans rfl, (blk_cell BK277.out 0).trans rfl, (blk_cell BK277.out 1).trans rfl, (blk_cell BK277.out 2).trans rfl⟩ (fun hHeld => ?_)
     clear hK K
     refine nz_ 35 ?_
     refine pz_ 4 31 ba13_30 HT_ ?_
     refine pz_ 5 36 ba13_31 HT_ ?_
     refine pz_ 6 37 ba13_21 HT_ ?_
     exact norm_ (by simp only [putAll, Act.put, List.setIfInBounds_toArray, List.set_cons_zero, List.set_cons_succ]) (hCont (v298, gb301) _ ⟨hHeld, (by (with_reducible repeat (first | apply Kd.R_alloc | apply Kd.R_drewN | apply Kd.R_drew)); exact Kd.R_mono HO281.out (fun _ hk => ⟨hk.1.1, ⟨hk.1.2, hk.2⟩⟩)), (by (with_reducible repeat (first | apply Kd.R_alloc | apply Kd.R_drewN | apply Kd.R_drew)); exact Kd.R_mono HO287.out (fun _ hk => ⟨hk.1.1, ⟨hk.1.2, hk.2⟩⟩)), (by (with_reducible repeat (first | apply Kd.R_alloc | apply Kd.R_drewN | apply Kd.R_drew)); exact Kd.R_mono HO292.out (fun _ hk => ⟨hk.1.1, ⟨hk.1.2, hk.2⟩⟩)), (by (with_reducible repeat (first | apply Kd.R_alloc | apply Kd.R_drewN | apply Kd.R_drew)); exact Kd.R_mono HO299.out (fun _ hk => ⟨hk.1.1.2, ⟨hk.1.2, hk.2⟩⟩)), (by (with_reducible repeat (first | refine blk_drewN ?_ _ | refine blk_drew ?_ | refine blk_alloc ?_ _)); exact BK276.out), (by (with_reducible repeat (first | refine blk_drewN ?_ _ | refine blk_drew ?_ | refine blk_alloc ?_ _)); exact BK277.out), (by (with_reducible repeat (first | refine blk_drewN ?_ _ | refine blk_drew ?_ | refine blk_alloc ?_ _)); exact BK289.out), (by (with_reducible repeat (first | refine blk_drewN ?_ _ | refine blk_drew ?_ | refine blk_alloc ?_ _)); exact BK293.out), (by (with_reducible repeat (first | refine blk_drewN ?_ _ | refine blk_drew ?_ | refine blk_alloc ?_ _)); exact BK301.out), GW301.out, GE301.out, NB276_301.out, NB301_276.out, NB277_301.out, NB301_277.out, NB289_301.out, NB301_289.out, NB293_301.out, NB301_293.out, (by repeat (first | (with_reducible first | exact HB.out | apply below_alloc | apply pw_below_drewN | apply below_drew1 | refine below_set ?_ GE276.out | refine below_set ?_ GE277.out | refine below_set ?_ GE289.out | refine below_set ?_ GE293.out | refine below_set ?_ GE301.out) | exact HB.out))⟩)
   ·skip
    refine box_step ?hg (N := 9) ?hd (cs := #[.slice none 0 0]) (t := 30) ?hr ?_; (case hd => rfl); (case hg => rfl); (case hr => first | (go_simp; done) | (go_simp; rfl))
    intro gb301 hg w42 hbox hb
    have BK301 := Aside0.mk hbox
    have GW301 := ge_ HB hg
    have GE301 := ge_ HB hg
    have NB276_301 := nl_ BK276 hg
    have NB301_276 := ng_ BK276 hg
    have NB277_301 := nl_ BK277 hg
    have NB301_277 := ng_ BK277 hg
    have NB289_301 := nl_ BK289 hg
    have NB301_289 := ng_ BK289 hg
    have NB293_301 := nl_ BK293 hg
    have NB301_293 := ng_ BK293 hg
    replace HO281 := rb_ HO281 hb
    replace HO287 := rb_ HO287 hb
    replace HO292 := rb_ HO292 hb
    replace HB := Aside0.mk (bt_ HB hb)
    replace BK276 := Aside0.mk (bb_ BK276 hb)
    replace BK277 := Aside0.mk (bb_ BK277 hb)
    replace BK289 := Aside0.mk (bb_ BK289 hb)
    replace BK293 := Aside0.mk (bb_ BK293 hb)
    clear hb hbox hg
    refine hK.out _ _ ⟨(blk_cell BK293.out 0).trans rfl, (blk_cell BK277.out 0).trans rfl, (blk_cell BK277.out 1).trans rfl, (blk_cell BK277.out 2).trans rfl⟩ (fun hHeld => ?_)
    clear hK K
    refine nz_ 9 ?_
    refine one_ (i := 2) (N := some 34) ba13_25 rfl rfl (one_of HT_.out (by kernel_rfl)) (by decide) (fun K hK => ?_)
    refine gz_ Try.func16 #[.agg #[.int .i64 a1_0, .int .i64 a1_1, .int .i64 a1_2]] ?_
    with_reducible refine (laws_toRoute.calls a1_0 a1_1 a1_2 t294 t295 t296 _ A14.out).mono ?_
    rintro e w43 ⟨rfl, hb⟩
    refine ⟨_, rfl, ?_⟩
    replace HO281 := rb_ HO281 hb
    replace HO287 := rb_ HO287 hb
    replace HO292 := rb_ HO292 hb
    replace BK276 := Aside0.mk (bb_ BK276 hb)
    replace BK277 := Aside0.mk (bb_ BK277 hb)
    replace BK289 := Aside0.mk (bb_ BK289 hb)
    replace BK293 := Aside0.mk (bb_ BK293 hb)
    replace BK301 := Aside0.mk (bb_ BK301 hb)
    replace HB := Aside0.mk (bt_ HB hb)
    (try clear hb)
    (try clear hb2)
    (try clear hk)
    (try clear hi)
    refine hK.out _ _ ⟨(blk_cell BK293.out 0).trans rfl, (blk_cell BK277.out 0).trans rfl, (blk_cell BK277.out 1).trans rfl, (blk_cell BK277.out 2).trans rfl⟩ (fun hHeld => ?_)
    clear hK K
    refine nz_ 34 ?_
    refine one_ (i := 3) (N := some 35) ba13_29 rfl rfl (one_of HT_.out (by kernel_rfl)) (by decide) (fun K hK => ?_)
    refine gz_ Try.func17 #[.agg #[.slice Ao35 t290.length co35], .agg #[.int .i64 t294, .int .i64 t295, .int .i64 t296]] ?_
    with_reducible refine (impl_PutRoute.calls k _ _ t290 t294 t295 t296 t297 t300 _ ?side1 ?side2 A15.out).mono ?_
    (case side1 => exact rc_ HO292)
    (case side2 => exact (Kd.R_reads' HO292.out).2.1)
    rintro e w44 ⟨v298, rfl, ho0, hb⟩
    refine ⟨_, rfl, ?_⟩
    have HO299 := Aside0.mk (Kd.R_lower (Kd.R_new' (Kd.R_new' (Kd.R_new' ho0 (Kd.R_lt (hd_ HO281))) (Kd.R_lt (hd_ HO287))) (Kd.R_lt (hd_ HO292))) (bz_ HB))
    replace HO281 := Aside0.mk (Kd.R_elder' (hd_ HO281) (Kd.R_base ho0) hb)
    replace HO287 := Aside0.mk (Kd.R_elder' (hd_ HO287) (Kd.R_base ho0) hb)
    replace HO292 := Aside0.mk (Kd.R_elder' (hd_ HO292) (Kd.R_base ho0) hb)
    replace BK276 := Aside0.mk (bb_ BK276 hb)
    replace BK277 := Aside0.mk (bb_ BK277 hb)
    replace BK289 := Aside0.mk (bb_ BK289 hb)
    replace BK293 := Aside0.mk (bb_ BK293 hb)
    replace BK301 := Aside0.mk (bb_ BK301 hb)
    replace HB := Aside0.mk (bt_ HB hb)
    (try clear hb)
    (try clear hb2)
    (try clear hk)
    (try clear hi)
    (try clear ho0)
    refine hK.out _ _ ⟨(blk_cell BK293.out 0).trans rfl, (blk_cell BK277.out 0).trans rfl, (blk_cell BK277.out 1).trans rfl, (blk_cell BK277.out 2).trans rfl⟩ (fun hHeld => ?_)
    clear hK K
    refine nz_ 35 ?_
    refine pz_ 4 31 ba13_30 HT_ ?_
    refine pz_ 5 36 ba13_31 HT_ ?_
    refine pz_ 6 37 ba13_21 HT_ ?_
    exact norm_ (by simp only [putAll, Act.put, List.setIfInBounds_toArray, List.set_cons_zero, List.set_cons_succ]) (hCont (v298, gb301) _ ⟨hHeld, (by (with_reducible repeat (first | apply Kd.R_alloc | apply Kd.R_drewN | apply Kd.R_drew)); exact Kd.R_mono HO281.out (fun _ hk => ⟨hk.1.1, ⟨hk.1.2, hk.2⟩⟩)), (by (with_reducible repeat (first | apply Kd.R_alloc | apply Kd.R_drewN | apply Kd.R_drew)); exact Kd.R_mono HO287.out (fun _ hk => ⟨hk.1.1, ⟨hk.1.2, hk.2⟩⟩)), (by (with_reducible repeat (first | apply Kd.R_alloc | apply Kd.R_drewN | apply Kd.R_drew)); exact Kd.R_mono HO292.out (fun _ hk => ⟨hk.1.1, ⟨hk.1.2, hk.2⟩⟩)), (by (with_reducible repeat (first | apply Kd.R_alloc | apply Kd.R_drewN | apply Kd.R_drew)); exact Kd.R_mono HO299.out (fun _ hk => ⟨hk.1.1.2, ⟨hk.1.2, hk.2⟩⟩)), (by (with_reducible repeat (first | refine blk_drewN ?_ _ | refine blk_drew ?_ | refine blk_alloc ?_ _)); exact BK276.out), (by (with_reducible repeat (first | refine blk_drewN ?_ _ | refine blk_drew ?_ | refine blk_alloc ?_ _)); exact BK277.out), (by (with_reducible repeat (first | refine blk_drewN ?_ _ | refine blk_drew ?_ | refine blk_alloc ?_ _)); exact BK289.out), (by (with_reducible repeat (first | refine blk_drewN ?_ _ | refine blk_drew ?_ | refine blk_alloc ?_ _)); exact BK293.out), (by (with_reducible repeat (first | refine blk_drewN ?_ _ | refine blk_drew ?_ | refine blk_alloc ?_ _)); exact BK301.out), GW301.out, GE301.out, NB276_301.out, NB301_276.out, NB277_301.out, NB301_277.out, NB289_301.out, NB301_289.out, NB293_301.out, NB301_293.out, (by repeat (first | (with_reducible first | exact HB.out | apply below_alloc | apply pw_below_drewN | apply below_drew1 | refine below_set ?_ GE276.out | refine below_set ?_ GE277.out | refine below_set ?_ GE289.out | refine below_set ?_ GE293.out | refine below_set ?_ GE301.out) | exact HB.out))⟩)
  rintro ⟨v298, gb301⟩ w45 ⟨hS_, h0_, h1_, h2_, h3_, h4_, h5_, h6_, h7_, h8_, h9_, h10_, h11_, h12_, h13_, h14_, h15_, h16_, h17_, h18_, h19_⟩
  have HO299 : Aside0 (Kd.R k43 43 w45 w.heap.size (fun k_ => some k_ ≠ (v280 : Value).ownBlock ∧ some k_ ≠ (.slice Ao29 t285.length co29 : Value).ownBlock ∧ some k_ ≠ (.slice Ao35 t290.length co35 : Value).ownBlock) v298 t297) := ⟨h3_⟩
  have BK301 : Aside0 (w45.heap[gb301]? = some (.cells #[.slice none 0 0] 30 (0, 0))) := ⟨h8_⟩
  have GW301 : Aside0 (w.heap.size ≤ gb301) := ⟨h9_⟩
  have GE301 : Aside0 (w.heap.size ≤ gb301) := ⟨h10_⟩
  have NB276_301 : Aside0 (gb276 ≠ gb301) := ⟨h11_⟩
  have NB301_276 : Aside0 (gb301 ≠ gb276) := ⟨h12_⟩
  have NB277_301 : Aside0 (gb277 ≠ gb301) := ⟨h13_⟩
  have NB301_277 : Aside0 (gb301 ≠ gb277) := ⟨h14_⟩
  have NB289_301 : Aside0 (gb289 ≠ gb301) := ⟨h15_⟩
  have NB301_289 : Aside0 (gb301 ≠ gb289) := ⟨h16_⟩
  have NB293_301 : Aside0 (gb293 ≠ gb301) := ⟨h17_⟩
  have NB301_293 : Aside0 (gb301 ≠ gb293) := ⟨h18_⟩
  replace HO281 : Aside0 (Kd.R k43 43 w45 w.heap.size (fun k_ => some k_ ≠ (.slice Ao29 t285.length co29 : Value).ownBlock ∧ some k_ ≠ (.slice Ao35 t290.length co35 : Value).ownBlock ∧ some k_ ≠ (v298 : Value).ownBlock) v280 t279) := ⟨h0_⟩
  replace HO287 : Aside0 (Kd.R k43 43 w45 w.heap.size (fun k_ => some k_ ≠ (v280 : Value).ownBlock ∧ some k_ ≠ (.slice Ao35 t290.length co35 : Value).ownBlock ∧ some k_ ≠ (v298 : Value).ownBlock) (.slice Ao29 t285.length co29) t285) := ⟨h1_⟩
  replace HO292 : Aside0 (Kd.R k43 43 w45 w.heap.size (fun k_ => some k_ ≠ (v280 : Value).ownBlock ∧ some k_ ≠ (.slice Ao29 t285.length co29 : Value).ownBlock ∧ some k_ ≠ (v298 : Value).ownBlock) (.slice Ao35 t290.length co35) t290) := ⟨h2_⟩
  replace BK276 : Aside0 (w45.heap[gb276]? = some (.cells #[.slice A0_0 l0_0.length c0_0] 24 (0, 0))) := ⟨h4_⟩
  replace BK277 : Aside0 (w45.heap[gb277]? = some (.cells #[.int .i64 a1_0, .int .i64 a1_1, .int .i64 a1_2] 40 (0, 0))) := ⟨h5_⟩
  replace BK289 : Aside0 (w45.heap[gb289]? = some (.cells #[.slice Ao29 t285.length co29] 30 (0, 0))) := ⟨h6_⟩
  replace BK293 : Aside0 (w45.heap[gb293]? = some (.cells #[.slice Ao35 t290.length co35] 30 (0, 0))) := ⟨h7_⟩
  replace HB : Aside0 (Below w.heap.size w w45) := ⟨h19_⟩
  clear h0_ h1_ h2_ h3_ h4_ h5_ h6_ h7_ h8_ h9_ h10_ h11_ h12_ h13_ h14_ h15_ h16_ h17_ h18_ h19_
  have hHeld : w45.cell? ⟨gb293, 0, none⟩ = some (.slice Ao35 t290.length co35) ∧ w45.cell? ⟨gb277, 0, none⟩ = some (.int .i64 a1_0) ∧ w45.cell? ⟨gb277, 1, none⟩ = some (.int .i64 a1_1) ∧ w45.cell? ⟨gb277, 2, none⟩ = some (.int .i64 a1_2) := hS_
  obtain ⟨Ao46, co46, eo46⟩ := Kd.R_slice HO299.out
  (first | subst eo46 | (injection eo46 with f1_ f2_ f3_; have f4_ := f1_.symm; have f5_ := f3_.symm; clear f1_ f2_ f3_; subst f4_; subst f5_))
  refine norm_ (a' := ?_) ?_ ?_
  rotate_left; · simp only [putAll, Act.put, List.setIfInBounds_toArray, List.set_cons_zero, List.set_cons_succ]; rfl
  refine one_ (i := 8) (N := none) ba13_32 rfl rfl (one_of HT_.out (by kernel_rfl)) (by decide) (fun K hK => ?_)
  have hs47 : w45.cell? ⟨gb301, 0, none⟩ = some (.slice none 0 0) := (blk_cell BK301.out 0).trans rfl
  have hfs47 := blk_frozen BK301.out 0
  have hns47_0 := NB276_301.out
  have hns47_1 := NB277_301.out
  have hns47_2 := NB289_301.out
  have hns47_3 := NB293_301.out
  have hms47_0 := NB301_276.out
  have hms47_1 := NB301_277.out
  have hms47_2 := NB301_289.out
  have hms47_3 := NB301_293.out
  refine skip_ (w1 := ?_) (by rfl) rfl ?_ ?_
  rotate_left; · go_simp; rfl
  refine hK.out _ _ ⟨((cell_far (p := ⟨gb301, _, none⟩) NB293_301.out _).trans (hHeld.1)), ((cell_far (p := ⟨gb301, _, none⟩) NB277_301.out _).trans (hHeld.2.1)), ((cell_far (p := ⟨gb301, _, none⟩) NB277_301.out _).trans (hHeld.2.2.1)), ((cell_far (p := ⟨gb301, _, none⟩) NB277_301.out _).trans (hHeld.2.2.2))⟩ (fun hHeld => ?_)
  clear hK K
  refine pz_ 9 10 ba13_33 HT_ ?_
  refine done_ (done_of HT_.out (by kernel_rfl)) ?_
  go_upto_region 8 with (fail)
  go_cut [46] (fun v46 wc => ∃ (kq : Nat) (x46_15 : Bool), v46 = .bool x46_15 ∧ Aside0 (laws_FnExactPutRoute.j0 kq t288 t300 x46_15 l0_0 a1_0 a1_1 a1_2 t285 t290 t297 = some r) ∧ Aside0 (kq ≤ k) ∧ Aside0 (Kd.R k43 43 wc w.heap.size (fun k_ => some k_ ≠ ((.slice Ao35 t290.length co35) : Value).ownBlock ∧ some k_ ≠ ((.slice Ao46 t297.length co46) : Value).ownBlock) (.slice Ao29 t285.length co29) t285) ∧ Aside0 (Kd.R k43 43 wc w.heap.size (fun k_ => some k_ ≠ ((.slice Ao29 t285.length co29) : Value).ownBlock ∧ some k_ ≠ ((.slice Ao46 t297.length co46) : Value).ownBlock) (.slice Ao35 t290.length co35) t290) ∧ Aside0 (Kd.R k43 43 wc w.heap.size (fun k_ => some k_ ≠ ((.slice Ao29 t285.length co29) : Value).ownBlock ∧ some k_ ≠ ((.slice Ao35 t290.length co35) : Value).ownBlock) (.slice Ao46 t297.length co46) t297) ∧ Aside0 (wc.heap[gb276]? = some (.cells #[(.slice A0_0 l0_0.length c0_0)] 24 (0, 0))) ∧ Aside0 (wc.heap[gb277]? = some (.cells #[.int .i64 a1_0, .int .i64 a1_1, .int .i64 a1_2] 40 (0, 0))) ∧ Aside0 (wc.heap[gb289]? = some (.cells #[(.slice Ao29 t285.length co29)] 30 (0, 0))) ∧ Aside0 (wc.heap[gb293]? = some (.cells #[(.slice Ao35 t290.length co35)] 30 (0, 0))) ∧ Aside0 (wc.heap[gb301]? = some (.cells #[(.slice Ao46 t297.length co46)] 30 (0, 0))) ∧ Aside0 (Below w.heap.size w wc))
  case first =>
   have H := HC16.out
   clear HC16
   replace H := Option.bind_eq_some_iff.mp H
   obtain ⟨t302, A480, H⟩ := H
   have A48 := Aside0.mk A480
   clear A480
   by_cases c49 : t302 = true
   ·subst c49
    rw [if_pos rfl] at H
    have H' := Aside0.mk H
    clear H
    have hnb50 := NB301_276.out
    have hnc50 := NB276_301.out
    have hnb51 := NB301_277.out
    have hnc51 := NB277_301.out
    have hnb52 := NB301_289.out
    have hnc52 := NB289_301.out
    have hnb53 := NB301_293.out
    have hnc53 := NB293_301.out
    have hcz54_0 := cz_ BK301 0 (.slice none 0 0)
    have hfz54_0 := blk_frozen BK301.out 0
    have hnb55 := NB289_276.out
    have hnc55 := NB276_289.out
    have hnb56 := NB289_277.out
    have hnc56 := NB277_289.out
    have hnb57 := NB289_293.out
    have hnc57 := NB293_289.out
    have hcz58_0 := cz_ BK289 0 (.slice Ao29 t285.length co29)
    have hfz58_0 := blk_frozen BK289.out 0
    go_wp2_with (first | ((with_reducible refine gate_callee (f := 12) rfl ?_); refine gl_ (some 40) Try.func12 #[.agg #[.slice Ao46 t297.length co46], .agg #[.slice Ao29 t285.length co29]] ?_; (with_reducible refine (laws_eqTable.calls k _ _ t297 _ _ t285 true _ ?side1 ?side2 ?side3 ?side4 A48.out).mono ?_); (case side1 => refine (Kd.R_reads' (e := 43) (base := w.heap.size) (ok := fun k_ => (some k_ ≠ (v280 : Value).ownBlock ∧ (some k_ ≠ (.slice Ao29 t285.length co29 : Value).ownBlock ∧ some k_ ≠ (.slice Ao35 t290.length co35 : Value).ownBlock))) (n := t297.length) (c := co46) ?_).2.2; exact (hs_ HO299 BK301)); (case side2 => exact (Kd.R_reads' HO299.out).2.1); (case side3 => refine (Kd.R_reads' (e := 43) (base := w.heap.size) (ok := fun k_ => (some k_ ≠ (v280 : Value).ownBlock ∧ (some k_ ≠ (.slice Ao35 t290.length co35 : Value).ownBlock ∧ some k_ ≠ (.slice Ao46 t297.length co46 : Value).ownBlock))) (n := t285.length) (c := co29) ?_).2.2; exact (hs_ HO287 BK301)); (case side4 => exact (Kd.R_reads' HO287.out).2.1); rintro e w59 ⟨rfl, hb⟩; refine ⟨_, rfl, ?_⟩; replace HO281 := rs_ HO281 BK301 hb; replace HO287 := rs_ HO287 BK301 hb; replace HO292 := rs_ HO292 BK301 hb; replace HO299 := rs_ HO299 BK301 hb; replace BK276 := bf_ BK276 NB276_301 hb; replace BK277 := bf_ BK277 NB277_301 hb; replace BK289 := bf_ BK289 NB289_301 hb; replace BK293 := bf_ BK293 NB293_301 hb; replace BK301 := Aside0.mk (blk_below (g := gb301) (o := .cells #[.slice Ao46 t297.length co46] 30 (0, 0)) (by (with_reducible repeat (first | refine blk_drewN ?_ _ | refine blk_drew ?_ | refine blk_alloc ?_ _)); refine blk_put (cs := #[.slice none 0 0]) ?_ 0 _ rfl; (with_reducible repeat (first | refine blk_drewN ?_ _ | refine blk_drew ?_ | refine blk_alloc ?_ _)); exact BK301.out) hb); replace HB := Aside0.mk (bt_ HB hb); (try clear hb); (try clear hb2); (try clear hk); (try clear hi)))
    go_meet
    case rel => exact ⟨_, ((t300 != t288)), (by first | rfl | (simp; done) | (simp [*]; done)), H', ⟨by first | omega | exact Nat.le_refl _⟩, ⟨by (with_reducible repeat (first | apply Kd.R_alloc | apply Kd.R_drewN | apply Kd.R_drew)); exact Kd.R_mono HO287.out (fun _ hk => by first | exact ⟨hk.2.1, hk.2.2⟩ | grind)⟩, ⟨by (with_reducible repeat (first | apply Kd.R_alloc | apply Kd.R_drewN | apply Kd.R_drew)); exact Kd.R_mono HO292.out (fun _ hk => by first | exact ⟨hk.2.1, hk.2.2⟩ | grind)⟩, ⟨by (with_reducible repeat (first | apply Kd.R_alloc | apply Kd.R_drewN | apply Kd.R_drew)); exact Kd.R_mono HO299.out (fun _ hk => by first | exact ⟨hk.2.1, hk.2.2⟩ | grind)⟩, ⟨by (with_reducible repeat (first | refine blk_drewN ?_ _ | refine blk_drew ?_ | refine blk_alloc ?_ _)); exact BK276.out⟩, ⟨by (with_reducible repeat (first | refine blk_drewN ?_ _ | refine blk_drew ?_ | refine blk_alloc ?_ _)); exact BK277.out⟩, ⟨by (with_reducible repeat (first | refine blk_drewN ?_ _ | refine blk_drew ?_ | refine blk_alloc ?_ _)); exact BK289.out⟩, ⟨by (with_reducible repeat (first | refine blk_drewN ?_ _ | refine blk_drew ?_ | refine blk_alloc ?_ _)); exact BK293.out⟩, ⟨by (with_reducible repeat (first | refine blk_drewN ?_ _ | refine blk_drew ?_ | refine blk_alloc ?_ _)); exact BK301.out⟩, ⟨by repeat (first | (with_reducible first | exact HB.out | apply below_alloc | apply pw_below_drewN | apply below_drew1 | refine below_set ?_ GE276.out | refine below_set ?_ GE277.out | refine below_set ?_ GE289.out | refine below_set ?_ GE293.out | refine below_set ?_ GE301.out) | exact HB.out)⟩⟩
   ·replace c49 := Bool.eq_false_iff.mpr c49
    subst c49
    rw [if_neg (show ¬ (false = true) by decide)] at H
    have H' := Aside0.mk H
    clear H
    have hnb60 := NB301_276.out
    have hnc60 := NB276_301.out
    have hnb61 := NB301_277.out
    have hnc61 := NB277_301.out
    have hnb62 := NB301_289.out
    have hnc62 := NB289_301.out
    have hnb63 := NB301_293.out
    have hnc63 := NB293_301.out
    have hcz64_0 := cz_ BK301 0 (.slice none 0 0)
    have hfz64_0 := blk_frozen BK301.out 0
    have hnb65 := NB289_276.out
    have hnc65 := NB276_289.out
    have hnb66 := NB289_277.out
    have hnc66 := NB277_289.out
    have hnb67 := NB289_293.out
    have hnc67 := NB293_289.out
    have hcz68_0 := cz_ BK289 0 (.slice Ao29 t285.length co29)
    have hfz68_0 := blk_frozen BK289.out 0
    go_wp2_with (first | ((with_reducible refine gate_callee (f := 12) rfl ?_); refine gl_ (some 40) Try.func12 #[.agg #[.slice Ao46 t297.length co46], .agg #[.slice Ao29 t285.length co29]] ?_; (with_reducible refine (laws_eqTable.calls k _ _ t297 _ _ t285 false _ ?side1 ?side2 ?side3 ?side4 A48.out).mono ?_); (case side1 => refine (Kd.R_reads' (e := 43) (base := w.heap.size) (ok := fun k_ => (some k_ ≠ (v280 : Value).ownBlock ∧ (some k_ ≠ (.slice Ao29 t285.length co29 : Value).ownBlock ∧ some k_ ≠ (.slice Ao35 t290.length co35 : Value).ownBlock))) (n := t297.length) (c := co46) ?_).2.2; exact (hs_ HO299 BK301)); (case side2 => exact (Kd.R_reads' HO299.out).2.1); (case side3 => refine (Kd.R_reads' (e := 43) (base := w.heap.size) (ok := fun k_ => (some k_ ≠ (v280 : Value).ownBlock ∧ (some k_ ≠ (.slice Ao35 t290.length co35 : Value).ownBlock ∧ some k_ ≠ (.slice Ao46 t297.length co46 : Value).ownBlock))) (n := t285.length) (c := co29) ?_).2.2; exact (hs_ HO287 BK301)); (case side4 => exact (Kd.R_reads' HO287.out).2.1); rintro e w69 ⟨rfl, hb⟩; refine ⟨_, rfl, ?_⟩; replace HO281 := rs_ HO281 BK301 hb; replace HO287 := rs_ HO287 BK301 hb; replace HO292 := rs_ HO292 BK301 hb; replace HO299 := rs_ HO299 BK301 hb; replace BK276 := bf_ BK276 NB276_301 hb; replace BK277 := bf_ BK277 NB277_301 hb; replace BK289 := bf_ BK289 NB289_301 hb; replace BK293 := bf_ BK293 NB293_301 hb; replace BK301 := Aside0.mk (blk_below (g := gb301) (o := .cells #[.slice Ao46 t297.length co46] 30 (0, 0)) (by (with_reducible repeat (first | refine blk_drewN ?_ _ | refine blk_drew ?_ | refine blk_alloc ?_ _)); refine blk_put (cs := #[.slice none 0 0]) ?_ 0 _ rfl; (with_reducible repeat (first | refine blk_drewN ?_ _ | refine blk_drew ?_ | refine blk_alloc ?_ _)); exact BK301.out) hb); replace HB := Aside0.mk (bt_ HB hb); (try clear hb); (try clear hb2); (try clear hk); (try clear hi)))
    go_meet
    case rel => exact ⟨_, (true), (by first | rfl | (simp; done) | (simp [*]; done)), H', ⟨by first | omega | exact Nat.le_refl _⟩, ⟨by (with_reducible repeat (first | apply Kd.R_alloc | apply Kd.R_drewN | apply Kd.R_drew)); exact Kd.R_mono HO287.out (fun _ hk => by first | exact ⟨hk.2.1, hk.2.2⟩ | grind)⟩, ⟨by (with_reducible repeat (first | apply Kd.R_alloc | apply Kd.R_drewN | apply Kd.R_drew)); exact Kd.R_mono HO292.out (fun _ hk => by first | exact ⟨hk.2.1, hk.2.2⟩ | grind)⟩, ⟨by (with_reducible repeat (first | apply Kd.R_alloc | apply Kd.R_drewN | apply Kd.R_drew)); exact Kd.R_mono HO299.out (fun _ hk => by first | exact ⟨hk.2.1, hk.2.2⟩ | grind)⟩, ⟨by (with_reducible repeat (first | refine blk_drewN ?_ _ | refine blk_drew ?_ | refine blk_alloc ?_ _)); exact BK276.out⟩, ⟨by (with_reducible repeat (first | refine blk_drewN ?_ _ | refine blk_drew ?_ | refine blk_alloc ?_ _)); exact BK277.out⟩, ⟨by (with_reducible repeat (first | refine blk_drewN ?_ _ | refine blk_drew ?_ | refine blk_alloc ?_ _)); exact BK289.out⟩, ⟨by (with_reducible repeat (first | refine blk_drewN ?_ _ | refine blk_drew ?_ | refine blk_alloc ?_ _)); exact BK293.out⟩, ⟨by (with_reducible repeat (first | refine blk_drewN ?_ _ | refine blk_drew ?_ | refine blk_alloc ?_ _)); exact BK301.out⟩, ⟨by repeat (first | (with_reducible first | exact HB.out | apply below_alloc | apply pw_below_drewN | apply below_drew1 | refine below_set ?_ GE276.out | refine below_set ?_ GE277.out | refine below_set ?_ GE289.out | refine below_set ?_ GE293.out | refine below_set ?_ GE301.out) | exact HB.out)⟩⟩
  case rest =>
   clear HC16
   try clear c1
   try clear p2
   try clear c4
   try clear c5
   try clear c6
   try clear c12
   try clear c16
   try clear c17
   try clear c49
   try clear c50
   try clear c51
   try clear c52
   try clear c53
   try clear c55
   try clear c56
   try clear c57
   try clear c60
   try clear c61
   try clear c62
   try clear c63
   try clear c65
   try clear c66
   try clear c67
   try clear hcz54_0
   try clear hcz58_0
   try clear hcz64_0
   try clear hcz68_0
   try clear hfz54_0
   try clear hfz58_0
   try clear hfz64_0
   try clear hfz68_0
   obtain ⟨kq, x46_15, rfl, HA, HJ15, HO_290000, HO_294000, HO_302000, BK276, BK277, BK289, BK293, BK301, HB⟩ := hcut
   cases kq with
   | zero => exact absurd HA.out (by simp [laws_FnExactPutRoute.j0])
   | succ kj15 =>
    have H := HA.out
    clear HA
    simp only [laws_FnExactPutRoute.j0] at H
    by_cases c70 : x46_15 = true
    ·subst c70
     rw [if_pos rfl] at H
     obtain rfl := Option.some.inj H
     go_wp2
     go_ret
     exact ⟨by first | rfl | (simp [errW_none, errW_some] <;> rfl) | (simp [*, errW_none, errW_some] <;> rfl), by repeat (first | (with_reducible first | exact HB.out | apply below_alloc | apply pw_below_drewN | apply below_drew1 | refine below_set ?_ GE276.out | refine below_set ?_ GE277.out | refine below_set ?_ GE289.out | refine below_set ?_ GE293.out | refine below_set ?_ GE301.out) | exact HB.out)⟩
    ·replace c70 := Bool.eq_false_iff.mpr c70
     subst c70
     rw [if_neg (show ¬ (false = true) by decide)] at H
     replace H := Option.bind_eq_some_iff.mp H
     obtain ⟨t303, A710, H⟩ := H
     have A71 := Aside0.mk A710
     clear A710
     replace H := Option.bind_eq_some_iff.mp H
     obtain ⟨t306, A720, H⟩ := H
     have A72 := Aside0.mk A720
     clear A720
     by_cases c73 : t306 = true
     ·subst c73
      rw [if_pos rfl] at H
      replace H := Option.bind_eq_some_iff.mp H
      obtain ⟨⟨t307, t308⟩, A740, H⟩ := H
      have A74 := Aside0.mk A740
      clear A740
      have HC75 := Aside0.mk H
      clear H
      try go_wp2
      replace HO_290000 := Aside0.mk (Kd.R_drew HO_290000.out)
      replace HO_294000 := Aside0.mk (Kd.R_drew HO_294000.out)
      replace HO_302000 := Aside0.mk (Kd.R_drew HO_302000.out)
      replace BK276 := Aside0.mk (blk_drew BK276.out)
      replace BK277 := Aside0.mk (blk_drew BK277.out)
      replace BK289 := Aside0.mk (blk_drew BK289.out)
      replace BK293 := Aside0.mk (blk_drew BK293.out)
      replace BK301 := Aside0.mk (blk_drew BK301.out)
      replace HB := Aside0.mk (below_drew1 HB.out)
      refine start_ (n := 5) (S := fun w' => w'.cell? ⟨gb293, 0, none⟩ = some (.slice Ao35 t290.length co35) ∧ w'.cell? ⟨gb276, 0, none⟩ = some (.slice A0_0 l0_0.length c0_0)) (ds := []) ba13_34 (by kernel_rfl) rfl rfl ⟨(blk_cell BK293.out 0).trans rfl, (blk_cell BK276.out 0).trans rfl⟩ (fun hHeld => ?_)
      generalize wc.drew = w76 at HO_290000 HO_294000 HO_302000 BK276 BK277 BK289 BK293 BK301 HB hHeld ⊢
      refine take_ (i := 0) (N := some 47) (v := ?_) (a' := ?_) ba13_35 rfl rfl (by kernel_rfl) (fun _ _ _ h => h) (Or.inl ⟨by rfl, ?_⟩) hHeld ?_ ?_
      rotate_left; · rintro w' ⟨s0, s1⟩; go_simp; with_reducible rfl
      rotate_left; · simp only [Act.put, List.setIfInBounds_toArray, List.set_cons_zero, List.set_cons_succ, i64_w, i32_w]; rfl
      refine take_ (i := 1) (N := some 48) (v := ?_) (a' := ?_) ba13_36 rfl rfl (by kernel_rfl) (fun _ _ _ h => h) (Or.inl ⟨by rfl, ?_⟩) hHeld ?_ ?_
      rotate_left; · rintro w' ⟨s0, s1⟩; go_simp; with_reducible rfl
      rotate_left; · simp only [Act.put, List.setIfInBounds_toArray, List.set_cons_zero, List.set_cons_succ, i64_w, i32_w]; rfl
      refine one_ (i := 2) (N := some 49) ba13_37 rfl rfl (by kernel_rfl) (by decide) (fun K hK => ?_)
      refine gz_ Try.func9 #[.agg #[.slice A0_0 l0_0.length c0_0]] ?_
      with_reducible refine (laws_toTable.calls kj15 _ _ l0_0 t303 _ ?side1 ?side2 A71.out).mono ?_
      (case side1 => exact cb_ HR0_0 HB)
      (case side2 => exact HC0_0.out)
      rintro e w77 ⟨v304, rfl, ho0, hb⟩
      refine ⟨_, rfl, ?_⟩
      have HO305 := Aside0.mk (Kd.R_lower (Kd.R_new' (Kd.R_new' (Kd.R_new' ho0 (Kd.R_lt (hd_ HO_290000))) (Kd.R_lt (hd_ HO_294000))) (Kd.R_lt (hd_ HO_302000))) (bz_ HB))
      replace HO_290000 := Aside0.mk (Kd.R_elder' (hd_ HO_290000) (Kd.R_base ho0) hb)
      replace HO_294000 := Aside0.mk (Kd.R_elder' (hd_ HO_294000) (Kd.R_base ho0) hb)
      replace HO_302000 := Aside0.mk (Kd.R_elder' (hd_ HO_302000) (Kd.R_base ho0) hb)
      replace BK276 := Aside0.mk (bb_ BK276 hb)
      replace BK277 := Aside0.mk (bb_ BK277 hb)
      replace BK289 := Aside0.mk (bb_ BK289 hb)
      replace BK293 := Aside0.mk (bb_ BK293 hb)
      replace BK301 := Aside0.mk (bb_ BK301 hb)
      replace HB := Aside0.mk (bt_ HB hb)
      (try clear hb)
      (try clear hb2)
      (try clear hk)
      (try clear hi)
      (try clear ho0)
      obtain ⟨Ao78, co78, eo78⟩ := Kd.R_slice HO305.out
      (first | subst eo78 | (injection eo78 with f1_ f2_ f3_; have f4_ := f1_.symm; have f5_ := f3_.symm; clear f1_ f2_ f3_; subst f4_; subst f5_))
      refine hK.out _ _ ⟨(blk_cell BK293.out 0).trans rfl, (blk_cell BK276.out 0).trans rfl⟩ (fun hHeld => ?_)
      clear hK K
      refine nz_ 49 ?_
      refine one_ (i := 3) (N := some 50) ba13_38 rfl rfl (by kernel_rfl) (by decide) (fun K hK => ?_)
      refine gz_ Try.func12 #[.agg #[.slice Ao35 t290.length co35], .agg #[.slice Ao78 t303.length co78]] ?_
      with_reducible refine (laws_eqTable.calls kj15 _ _ t290 _ _ t303 true _ ?side1 ?side2 ?side3 ?side4 A72.out).mono ?_
      (case side1 => exact rc_ HO_294000)
      (case side2 => exact (Kd.R_reads' HO_294000.out).2.1)
      (case side3 => exact rc_ HO305)
      (case side4 => exact (Kd.R_reads' HO305.out).2.1)
      rintro e w79 ⟨rfl, hb⟩
      refine ⟨_, rfl, ?_⟩
      replace HO_290000 := rb_ HO_290000 hb
      replace HO_294000 := rb_ HO_294000 hb
      replace HO_302000 := rb_ HO_302000 hb
      replace HO305 := rb_ HO305 hb
      replace BK276 := Aside0.mk (bb_ BK276 hb)
      replace BK277 := Aside0.mk (bb_ BK277 hb)
      replace BK289 := Aside0.mk (bb_ BK289 hb)
      replace BK293 := Aside0.mk (bb_ BK293 hb)
      replace BK301 := Aside0.mk (bb_ BK301 hb)
      replace HB := Aside0.mk (bt_ HB hb)
      (try clear hb)
      (try clear hb2)
      (try clear hk)
      (try clear hi)
      refine hK.out _ _ ⟨(blk_cell BK293.out 0).trans rfl, (blk_cell BK276.out 0).trans rfl⟩ (fun hHeld => ?_)
      clear hK K
      refine nz_ 50 ?_
      refine pure_ (i := 4) (N := some 51) (v := ?_) (a' := ?_) ba13_39 rfl rfl (by kernel_rfl) (fun _ _ _ h => h) (Or.inl ⟨by rfl, ?_⟩) ?_ ?_
      rotate_left; · intro w'; go_simp; with_reducible rfl
      rotate_left; · simp only [Act.put, List.setIfInBounds_toArray, List.set_cons_zero, List.set_cons_succ, i64_w, i32_w]; rfl
      refine done_ (by kernel_rfl) ?_
      have hnb80 := NB293_276.out
      have hnc80 := NB276_293.out
      have hnb81 := NB293_277.out
      have hnc81 := NB277_293.out
      have hnb82 := NB293_289.out
      have hnc82 := NB289_293.out
      have hnb83 := NB293_301.out
      have hnc83 := NB301_293.out
      have hcz84_0 := cz_ BK293 0 (.slice Ao35 t290.length co35)
      have hfz84_0 := blk_frozen BK293.out 0
      go_upto_region 14 with (first | ((with_reducible refine gate_callee (f := 13) rfl ?_); refine gl_ (some 54) Try.func13 #[.agg #[.slice Ao35 t290.length co35], .int .i64 1] ?_; (with_reducible refine (laws_markTable.calls kj15 (fun k_ => some k_ = (.slice Ao35 t290.length co35 : Value).ownBlock) (.slice Ao35 t290.length co35) t290 1 t307 t308 w _ ?side1 ?side2 A74.out).mono ?_); (case side1 => exact by_ HB); (case side2 => exact Kd.R_tight rfl HO_294000.out); rintro e w85 ⟨rfl, hy0, hb, hkp⟩; refine ⟨_, rfl, ?_⟩; replace HO_290000 := kp_ (fun k_ => some k_ ≠ (.slice Ao35 t290.length co35 : Value).ownBlock ∧ some k_ ≠ (.slice Ao46 t297.length co46 : Value).ownBlock ∧ some k_ ≠ (.slice Ao78 t303.length co78 : Value).ownBlock) (HO_290000.out) hkp; replace HO_302000 := kp_ (fun k_ => some k_ ≠ (.slice Ao29 t285.length co29 : Value).ownBlock ∧ some k_ ≠ (.slice Ao35 t290.length co35 : Value).ownBlock ∧ some k_ ≠ (.slice Ao78 t303.length co78 : Value).ownBlock) (HO_302000.out) hkp; replace BK276 := bk_ BK276 hkp (fun hs_ => (Kd.R_ne HO_294000.out BK276.out (by decide)) hs_); replace BK277 := bk_ BK277 hkp (fun hs_ => (Kd.R_ne HO_294000.out BK277.out (by decide)) hs_); replace BK289 := bk_ BK289 hkp (fun hs_ => (Kd.R_ne HO_294000.out BK289.out (by decide)) hs_); replace BK293 := bk_ BK293 hkp (fun hs_ => (Kd.R_ne HO_294000.out BK293.out (by decide)) hs_); replace BK301 := bk_ BK301 hkp (fun hs_ => (Kd.R_ne HO_294000.out BK301.out (by decide)) hs_); replace HO_294000 := Aside0.mk (Kd.R_reok rfl hy0 (fun k_ e_ => HO_294000.out.1 k_ e_)); replace HO305 := kp_ (fun k_ => some k_ ≠ (.slice Ao29 t285.length co29 : Value).ownBlock ∧ some k_ ≠ (.slice Ao35 t290.length co35 : Value).ownBlock ∧ some k_ ≠ (.slice Ao46 t297.length co46 : Value).ownBlock) (HO305.out) hkp; replace HB := Aside0.mk (hb); (try clear hb); (try clear hkp); (try clear hy0)))
      (try simp only [Act.put, List.setIfInBounds_toArray, List.set_cons_zero, List.set_cons_succ])
      go_cut [67] (fun v67 wc => ∃ (kq : Nat) (x67_74 : Bool), v67 = .bool x67_74 ∧ Aside0 (laws_FnExactPutRoute.j1 kq t288 x67_74 l0_0 a1_0 a1_1 a1_2 t285 t297 = some r) ∧ Aside0 (kq ≤ kj15) ∧ Aside0 (Kd.R k43 43 wc w.heap.size (fun k_ => some k_ ≠ ((.slice Ao35 t290.length co35) : Value).ownBlock ∧ some k_ ≠ ((.slice Ao46 t297.length co46) : Value).ownBlock) (.slice Ao29 t285.length co29) t285) ∧ Aside0 (Kd.R k43 43 wc w.heap.size (fun k_ => some k_ ≠ ((.slice Ao29 t285.length co29) : Value).ownBlock ∧ some k_ ≠ ((.slice Ao46 t297.length co46) : Value).ownBlock) (.slice Ao35 t290.length co35) t308) ∧ Aside0 (Kd.R k43 43 wc w.heap.size (fun k_ => some k_ ≠ ((.slice Ao29 t285.length co29) : Value).ownBlock ∧ some k_ ≠ ((.slice Ao35 t290.length co35) : Value).ownBlock) (.slice Ao46 t297.length co46) t297) ∧ Aside0 (wc.heap[gb276]? = some (.cells #[(.slice A0_0 l0_0.length c0_0)] 24 (0, 0))) ∧ Aside0 (wc.heap[gb277]? = some (.cells #[.int .i64 a1_0, .int .i64 a1_1, .int .i64 a1_2] 40 (0, 0))) ∧ Aside0 (wc.heap[gb289]? = some (.cells #[(.slice Ao29 t285.length co29)] 30 (0, 0))) ∧ Aside0 (wc.heap[gb293]? = some (.cells #[(.slice Ao35 t290.length co35)] 30 (0, 0))) ∧ Aside0 (wc.heap[gb301]? = some (.cells #[(.slice Ao46 t297.length co46)] 30 (0, 0))) ∧ Aside0 (Below w.heap.size w wc))
      case first =>
       have H := HC75.out
       clear HC75
       by_cases c86 : t307 < 0
       ·rw [if_pos c86] at H
        have c86b0 : decide (t307 < 0) = true := decide_eq_true c86
        clear c86
        (first | rw [c86b0] | (simp only [i64_w, i32_w]; rw [c86b0]) | skip)
        have H' := Aside0.mk H
        clear H
        go_wp2
        go_meet
        case rel => exact ⟨_, (true), (by first | rfl | (simp; done) | (simp [*]; done)), H', ⟨by have := HJ15.out; first | omega | exact Nat.le_refl _⟩, ⟨by (with_reducible repeat (first | apply Kd.R_alloc | apply Kd.R_drewN | apply Kd.R_drew)); exact Kd.R_mono HO_290000.out (fun _ hk => by first | exact ⟨hk.1, hk.2.1⟩ | grind)⟩, ⟨by (with_reducible repeat (first | apply Kd.R_alloc | apply Kd.R_drewN | apply Kd.R_drew)); exact Kd.R_mono HO_294000.out (fun _ hk => by first | exact ⟨hk.1.1, hk.1.2⟩ | grind)⟩, ⟨by (with_reducible repeat (first | apply Kd.R_alloc | apply Kd.R_drewN | apply Kd.R_drew)); exact Kd.R_mono HO_302000.out (fun _ hk => by first | exact ⟨hk.1, hk.2.1⟩ | grind)⟩, ⟨by (with_reducible repeat (first | refine blk_drewN ?_ _ | refine blk_drew ?_ | refine blk_alloc ?_ _)); exact BK276.out⟩, ⟨by (with_reducible repeat (first | refine blk_drewN ?_ _ | refine blk_drew ?_ | refine blk_alloc ?_ _)); exact BK277.out⟩, ⟨by (with_reducible repeat (first | refine blk_drewN ?_ _ | refine blk_drew ?_ | refine blk_alloc ?_ _)); exact BK289.out⟩, ⟨by (with_reducible repeat (first | refine blk_drewN ?_ _ | refine blk_drew ?_ | refine blk_alloc ?_ _)); exact BK293.out⟩, ⟨by (with_reducible repeat (first | refine blk_drewN ?_ _ | refine blk_drew ?_ | refine blk_alloc ?_ _)); exact BK301.out⟩, ⟨by repeat (first | (with_reducible first | exact HB.out | apply below_alloc | apply pw_below_drewN | apply below_drew1 | refine below_set ?_ GE276.out | refine below_set ?_ GE277.out | refine below_set ?_ GE289.out | refine below_set ?_ GE293.out | refine below_set ?_ GE301.out) | exact HB.out)⟩⟩
       ·rw [if_neg c86] at H
        have c86b0 : decide (t307 < 0) = false := decide_eq_false c86
        clear c86
        (first | rw [c86b0] | (simp only [i64_w, i32_w]; rw [c86b0]) | skip)
        replace H := Option.bind_eq_some_iff.mp H
        obtain ⟨t309, A870, H⟩ := H
        have A87 := Aside0.mk A870
        clear A870
        by_cases c88 : t309 = true
        ·subst c88
         rw [if_pos rfl] at H
         have H' := Aside0.mk H
         clear H
         have hnb89 := NB301_276.out
         have hnc89 := NB276_301.out
         have hnb90 := NB301_277.out
         have hnc90 := NB277_301.out
         have hnb91 := NB301_289.out
         have hnc91 := NB289_301.out
         have hnb92 := NB301_293.out
         have hnc92 := NB293_301.out
         have hcz93_0 := cz_ BK301 0 (.slice Ao46 t297.length co46)
         have hfz93_0 := blk_frozen BK301.out 0
         have hnb94 := NB289_276.out
         have hnc94 := NB276_289.out
         have hnb95 := NB289_277.out
         have hnc95 := NB277_289.out
         have hnb96 := NB289_293.out
         have hnc96 := NB293_289.out
         have hcz97_0 := cz_ BK289 0 (.slice Ao29 t285.length co29)
         have hfz97_0 := blk_frozen BK289.out 0
         go_wp2_with (first | (go_at_call 12; (with_reducible refine (laws_eqTable.calls kj15 _ _ t297 _ _ t285 true _ ?side1 ?side2 ?side3 ?side4 A87.out).mono ?_); (case side1 => exact rc_ HO_302000); (case side2 => exact (Kd.R_reads' HO_302000.out).2.1); (case side3 => exact rc_ HO_290000); (case side4 => exact (Kd.R_reads' HO_290000.out).2.1); rintro e w98 ⟨rfl, hb⟩; replace HO_290000 := rb_ HO_290000 hb; replace HO_294000 := rb_ HO_294000 hb; replace HO_302000 := rb_ HO_302000 hb; replace HO305 := rb_ HO305 hb; replace BK276 := Aside0.mk (bb_ BK276 hb); replace BK277 := Aside0.mk (bb_ BK277 hb); replace BK289 := Aside0.mk (bb_ BK289 hb); replace BK293 := Aside0.mk (bb_ BK293 hb); replace BK301 := Aside0.mk (bb_ BK301 hb); replace HB := Aside0.mk (bt_ HB hb); (try clear hb); (try clear hb2); (try clear hk); (try clear hi)))
         go_meet
         case rel => exact ⟨_, ((t300 != t288)), (by first | rfl | (simp; done) | (simp [*]; done)), H', ⟨by have := HJ15.out; first | omega | exact Nat.le_refl _⟩, ⟨by (with_reducible repeat (first | apply Kd.R_alloc | apply Kd.R_drewN | apply Kd.R_drew)); exact Kd.R_mono HO_290000.out (fun _ hk => by first | exact ⟨hk.1, hk.2.1⟩ | grind)⟩, ⟨by (with_reducible repeat (first | apply Kd.R_alloc | apply Kd.R_drewN | apply Kd.R_drew)); exact Kd.R_mono HO_294000.out (fun _ hk => by first | exact ⟨hk.1.1, hk.1.2⟩ | grind)⟩, ⟨by (with_reducible repeat (first | apply Kd.R_alloc | apply Kd.R_drewN | apply Kd.R_drew)); exact Kd.R_mono HO_302000.out (fun _ hk => by first | exact ⟨hk.1, hk.2.1⟩ | grind)⟩, ⟨by (with_reducible repeat (first | refine blk_drewN ?_ _ | refine blk_drew ?_ | refine blk_alloc ?_ _)); exact BK276.out⟩, ⟨by (with_reducible repeat (first | refine blk_drewN ?_ _ | refine blk_drew ?_ | refine blk_alloc ?_ _)); exact BK277.out⟩, ⟨by (with_reducible repeat (first | refine blk_drewN ?_ _ | refine blk_drew ?_ | refine blk_alloc ?_ _)); exact BK289.out⟩, ⟨by (with_reducible repeat (first | refine blk_drewN ?_ _ | refine blk_drew ?_ | refine blk_alloc ?_ _)); exact BK293.out⟩, ⟨by (with_reducible repeat (first | refine blk_drewN ?_ _ | refine blk_drew ?_ | refine blk_alloc ?_ _)); exact BK301.out⟩, ⟨by repeat (first | (with_reducible first | exact HB.out | apply below_alloc | apply pw_below_drewN | apply below_drew1 | refine below_set ?_ GE276.out | refine below_set ?_ GE277.out | refine below_set ?_ GE289.out | refine below_set ?_ GE293.out | refine below_set ?_ GE301.out) | exact HB.out)⟩⟩
        ·replace c88 := Bool.eq_false_iff.mpr c88
         subst c88
         rw [if_neg (show ¬ (false = true) by decide)] at H
         have H' := Aside0.mk H
         clear H
         have hnb99 := NB301_276.out
         have hnc99 := NB276_301.out
         have hnb100 := NB301_277.out
         have hnc100 := NB277_301.out
         have hnb101 := NB301_289.out
         have hnc101 := NB289_301.out
         have hnb102 := NB301_293.out
         have hnc102 := NB293_301.out
         have hcz103_0 := cz_ BK301 0 (.slice Ao46 t297.length co46)
         have hfz103_0 := blk_frozen BK301.out 0
         have hnb104 := NB289_276.out
         have hnc104 := NB276_289.out
         have hnb105 := NB289_277.out
         have hnc105 := NB277_289.out
         have hnb106 := NB289_293.out
         have hnc106 := NB293_289.out
         have hcz107_0 := cz_ BK289 0 (.slice Ao29 t285.length co29)
         have hfz107_0 := blk_frozen BK289.out 0
         go_wp2_with (first | (go_at_call 12; (with_reducible refine (laws_eqTable.calls kj15 _ _ t297 _ _ t285 false _ ?side1 ?side2 ?side3 ?side4 A87.out).mono ?_); (case side1 => exact rc_ HO_302000); (case side2 => exact (Kd.R_reads' HO_302000.out).2.1); (case side3 => exact rc_ HO_290000); (case side4 => exact (Kd.R_reads' HO_290000.out).2.1); rintro e w108 ⟨rfl, hb⟩; replace HO_290000 := rb_ HO_290000 hb; replace HO_294000 := rb_ HO_294000 hb; replace HO_302000 := rb_ HO_302000 hb; replace HO305 := rb_ HO305 hb; replace BK276 := Aside0.mk (bb_ BK276 hb); replace BK277 := Aside0.mk (bb_ BK277 hb); replace BK289 := Aside0.mk (bb_ BK289 hb); replace BK293 := Aside0.mk (bb_ BK293 hb); replace BK301 := Aside0.mk (bb_ BK301 hb); replace HB := Aside0.mk (bt_ HB hb); (try clear hb); (try clear hb2); (try clear hk); (try clear hi)))
         go_meet
         case rel => exact ⟨_, (true), (by first | rfl | (simp; done) | (simp [*]; done)), H', ⟨by have := HJ15.out; first | omega | exact Nat.le_refl _⟩, ⟨by (with_reducible repeat (first | apply Kd.R_alloc | apply Kd.R_drewN | apply Kd.R_drew)); exact Kd.R_mono HO_290000.out (fun _ hk => by first | exact ⟨hk.1, hk.2.1⟩ | grind)⟩, ⟨by (with_reducible repeat (first | apply Kd.R_alloc | apply Kd.R_drewN | apply Kd.R_drew)); exact Kd.R_mono HO_294000.out (fun _ hk => by first | exact ⟨hk.1.1, hk.1.2⟩ | grind)⟩, ⟨by (with_reducible repeat (first | apply Kd.R_alloc | apply Kd.R_drewN | apply Kd.R_drew)); exact Kd.R_mono HO_302000.out (fun _ hk => by first | exact ⟨hk.1, hk.2.1⟩ | grind)⟩, ⟨by (with_reducible repeat (first | refine blk_drewN ?_ _ | refine blk_drew ?_ | refine blk_alloc ?_ _)); exact BK276.out⟩, ⟨by (with_reducible repeat (first | refine blk_drewN ?_ _ | refine blk_drew ?_ | refine blk_alloc ?_ _)); exact BK277.out⟩, ⟨by (with_reducible repeat (first | refine blk_drewN ?_ _ | refine blk_drew ?_ | refine blk_alloc ?_ _)); exact BK289.out⟩, ⟨by (with_reducible repeat (first | refine blk_drewN ?_ _ | refine blk_drew ?_ | refine blk_alloc ?_ _)); exact BK293.out⟩, ⟨by (with_reducible repeat (first | refine blk_drewN ?_ _ | refine blk_drew ?_ | refine blk_alloc ?_ _)); exact BK301.out⟩, ⟨by repeat (first | (with_reducible first | exact HB.out | apply below_alloc | apply pw_below_drewN | apply below_drew1 | refine below_set ?_ GE276.out | refine below_set ?_ GE277.out | refine below_set ?_ GE289.out | refine below_set ?_ GE293.out | refine below_set ?_ GE301.out) | exact HB.out)⟩⟩
      case rest =>
       clear HC75
       try clear c1
       try clear p2
       try clear c4
       try clear c5
       try clear c6
       try clear c7
       try clear c8
       try clear c9
       try clear c10
       try clear c12
       try clear c13
       try clear c16
       try clear c17
       try clear c49
       try clear c50
       try clear c51
       try clear c52
       try clear c53
       try clear c55
       try clear c56
       try clear c57
       try clear c60
       try clear c61
       try clear c62
       try clear c63
       try clear c65
       try clear c66
       try clear c67
       try clear c70
       try clear c73
       try clear c80
       try clear c81
       try clear c82
       try clear c83
       try clear c86
       try clear c86b0
       try clear c88
       try clear c89
       try clear c90
       try clear c91
       try clear c92
       try clear c94
       try clear c95
       try clear c96
       try clear c99
       try clear c100
       try clear c101
       try clear c102
       try clear c104
       try clear c105
       try clear c106
       try clear hcz103_0
       try clear hcz107_0
       try clear hcz54_0
       try clear hcz58_0
       try clear hcz64_0
       try clear hcz68_0
       try clear hcz84_0
       try clear hcz93_0
       try clear hcz97_0
       try clear hfz103_0
       try clear hfz107_0
       try clear hfz54_0
       try clear hfz58_0
       try clear hfz64_0
       try clear hfz68_0
       try clear hfz84_0
       try clear hfz93_0
       try clear hfz97_0
       try clear p2
       obtain ⟨kq, x67_74, rfl, HA, HJ74, HO_290000, HO_294000, HO_302000, BK276, BK277, BK289, BK293, BK301, HB⟩ := hcut
       have hl294000_74 := (Kd.R_reads' HO_294000.out).1
       rw [hl294000_74] at HO_294000
       (try simp only [hl294000_74])
       (try simp only [hl294000_74] at BK276)
       (try simp only [hl294000_74] at BK277)
       (try simp only [hl294000_74] at BK289)
       (try simp only [hl294000_74] at BK293)
       (try simp only [hl294000_74] at BK301)
       (try simp only [hl294000_74] at HO_290000)
       (try simp only [hl294000_74] at HO_302000)
       cases kq with
       | zero => exact absurd HA.out (by simp [laws_FnExactPutRoute.j1])
       | succ kj74 =>
        have H := HA.out
        clear HA
        simp only [laws_FnExactPutRoute.j1] at H
        by_cases c109 : x67_74 = true
        ·subst c109
         rw [if_pos rfl] at H
         obtain rfl := Option.some.inj H
         go_wp2
         go_ret
         exact ⟨by first | rfl | (simp [errW_none, errW_some] <;> rfl) | (simp [*, errW_none, errW_some] <;> rfl), by repeat (first | (with_reducible first | exact HB.out | apply below_alloc | apply pw_below_drewN | apply below_drew1 | refine below_set ?_ GE276.out | refine below_set ?_ GE277.out | refine below_set ?_ GE289.out | refine below_set ?_ GE293.out | refine below_set ?_ GE301.out) | exact HB.out)⟩
        ·replace c109 := Bool.eq_false_iff.mpr c109
         subst c109
         rw [if_neg (show ¬ (false = true) by decide)] at H
         replace H := Option.bind_eq_some_iff.mp H
         obtain ⟨⟨t310, t311⟩, A1100, H⟩ := H
         have A110 := Aside0.mk A1100
         clear A1100
         replace H := Option.bind_eq_some_iff.mp H
         obtain ⟨t312, A1110, H⟩ := H
         have A111 := Aside0.mk A1110
         clear A1110
         by_cases c112 : t312 < 0
         ·rw [if_pos c112] at H
          have c112b0 : decide (t312 < 0) = true := decide_eq_true c112
          clear c112
          obtain rfl := Option.some.inj H
          have hnb113 := NB301_276.out
          have hnc113 := NB276_301.out
          have hnb114 := NB301_277.out
          have hnc114 := NB277_301.out
          have hnb115 := NB301_289.out
          have hnc115 := NB289_301.out
          have hnb116 := NB301_293.out
          have hnc116 := NB293_301.out
          have hcz117_0 := cz_ BK301 0 (.slice Ao46 t297.length co46)
          have hfz117_0 := blk_frozen BK301.out 0
          go_wp2_with (first | ((with_reducible refine gate_callee (f := 13) rfl ?_); refine gl_ (some 70) Try.func13 #[.agg #[.slice Ao46 t297.length co46], .int .i64 1] ?_; (with_reducible refine (laws_markTable.calls kj74 (fun k_ => some k_ = (.slice Ao46 t297.length co46 : Value).ownBlock) (.slice Ao46 t297.length co46) t297 1 t310 t311 w _ ?side1 ?side2 A110.out).mono ?_); (case side1 => exact by_ HB); (case side2 => exact Kd.R_tight rfl HO_302000.out); rintro e w118 ⟨rfl, hy0, hb, hkp⟩; refine ⟨_, rfl, ?_⟩; replace HO_290000 := kp_ (fun k_ => some k_ ≠ (.slice Ao35 t308.length co35 : Value).ownBlock ∧ some k_ ≠ (.slice Ao46 t297.length co46 : Value).ownBlock) (HO_290000.out) hkp; replace HO_294000 := kp_ (fun k_ => some k_ ≠ (.slice Ao29 t285.length co29 : Value).ownBlock ∧ some k_ ≠ (.slice Ao46 t297.length co46 : Value).ownBlock) (HO_294000.out) hkp; replace BK276 := bk_ BK276 hkp (fun hs_ => (Kd.R_ne HO_302000.out BK276.out (by decide)) hs_); replace BK277 := bk_ BK277 hkp (fun hs_ => (Kd.R_ne HO_302000.out BK277.out (by decide)) hs_); replace BK289 := bk_ BK289 hkp (fun hs_ => (Kd.R_ne HO_302000.out BK289.out (by decide)) hs_); replace BK293 := bk_ BK293 hkp (fun hs_ => (Kd.R_ne HO_302000.out BK293.out (by decide)) hs_); replace BK301 := bk_ BK301 hkp (fun hs_ => (Kd.R_ne HO_302000.out BK301.out (by decide)) hs_); replace HO_302000 := Aside0.mk (Kd.R_reok rfl hy0 (fun k_ e_ => HO_302000.out.1 k_ e_)); replace HB := Aside0.mk (hb); (try clear hb); (try clear hkp); (try clear hy0); have hcz119_0 := cz_ BK301 0 (.slice Ao46 t297.length co46); have hfz119_0 := blk_frozen BK301.out 0) | ((with_reducible refine gate_callee (f := 14) rfl ?_); refine goesL_ (some 73) rfl rfl Try.func14 (by kernel_rfl) rfl #[.agg #[.slice Ao46 t311.length co46], .int .i64 1] rfl (by (try simp only [List.map_toArray, List.map_cons, List.map_nil]); first | done | (rw [show t311.length = t297.length from (Kd.R_reads' HO_302000.out).1.symm] <;> rfl) | rfl | (simp only [List.length_drop, List.length_take]; rfl)) ?_; (with_reducible refine (laws_heldTable.calls kj74 _ _ t311 1 t312 _ ?side1 ?side2 A111.out).mono ?_); (case side1 => exact rc_ HO_302000); (case side2 => rw [show t311.length = t297.length from (Kd.R_reads' HO_302000.out).1.symm]; exact (Kd.R_reads' HO_302000.out).2.1); rintro e w120 ⟨rfl, hb⟩; refine ⟨_, rfl, ?_⟩; replace HO_290000 := rb_ HO_290000 hb; replace HO_294000 := rb_ HO_294000 hb; replace HO_302000 := rb_ HO_302000 hb; replace BK276 := Aside0.mk (bb_ BK276 hb); replace BK277 := Aside0.mk (bb_ BK277 hb); replace BK289 := Aside0.mk (bb_ BK289 hb); replace BK293 := Aside0.mk (bb_ BK293 hb); replace BK301 := Aside0.mk (bb_ BK301 hb); replace HB := Aside0.mk (bt_ HB hb); (try clear hb); (try clear hb2); (try clear hk); (try clear hi)))
          go_ret
          exact ⟨by first | rfl | (simp [errW_none, errW_some] <;> rfl) | (simp [*, errW_none, errW_some] <;> rfl), by repeat (first | (with_reducible first | exact HB.out | apply below_alloc | apply pw_below_drewN | apply below_drew1 | refine below_set ?_ GE276.out | refine below_set ?_ GE277.out | refine below_set ?_ GE289.out | refine below_set ?_ GE293.out | refine below_set ?_ GE301.out) | exact HB.out)⟩
         ·rw [if_neg c112] at H
          have c112b0 : decide (t312 < 0) = false := decide_eq_false c112
          clear c112
          by_cases c121 : t312 = t310
          ·rw [if_pos c121] at H
           have c121b0 : (t312 == t310) = true := beq_iff_eq.mpr c121
           have c121b1 : (t312 != t310) = false := bne_eq_false_iff_eq.mpr c121
           clear c121
           replace H := Option.bind_eq_some_iff.mp H
           obtain ⟨t313, A1220, H⟩ := H
           have A122 := Aside0.mk A1220
           clear A1220
           replace H := Option.bind_eq_some_iff.mp H
           obtain ⟨⟨t316, t317, t318⟩, A1230, H⟩ := H
           have A123 := Aside0.mk A1230
           clear A1230
           replace H := Option.bind_eq_some_iff.mp H
           obtain ⟨⟨t319, t322⟩, A1240, H⟩ := H
           have A124 := Aside0.mk A1240
           clear A1240
           have HC125 := Aside0.mk H
           clear H
           have hnb126 := NB301_276.out
           have hnc126 := NB276_301.out
           have hnb127 := NB301_277.out
           have hnc127 := NB277_301.out
           have hnb128 := NB301_289.out
           have hnc128 := NB289_301.out
           have hnb129 := NB301_293.out
           have hnc129 := NB293_301.out
           have hcz130_0 := cz_ BK301 0 (.slice Ao46 t297.length co46)
           have hfz130_0 := blk_frozen BK301.out 0
           try go_wp2_with (first | ((with_reducible refine gate_callee (f := 13) rfl ?_); refine gl_ (some 70) Try.func13 #[.agg #[.slice Ao46 t297.length co46], .int .i64 1] ?_; (with_reducible refine (laws_markTable.calls kj74 (fun k_ => some k_ = (.slice Ao46 t297.length co46 : Value).ownBlock) (.slice Ao46 t297.length co46) t297 1 t310 t311 w _ ?side1 ?side2 A110.out).mono ?_); (case side1 => exact by_ HB); (case side2 => exact Kd.R_tight rfl HO_302000.out); rintro e w131 ⟨rfl, hy0, hb, hkp⟩; refine ⟨_, rfl, ?_⟩; replace HO_290000 := kp_ (fun k_ => some k_ ≠ (.slice Ao35 t308.length co35 : Value).ownBlock ∧ some k_ ≠ (.slice Ao46 t297.length co46 : Value).ownBlock) (HO_290000.out) hkp; replace HO_294000 := kp_ (fun k_ => some k_ ≠ (.slice Ao29 t285.length co29 : Value).ownBlock ∧ some k_ ≠ (.slice Ao46 t297.length co46 : Value).ownBlock) (HO_294000.out) hkp; replace BK276 := bk_ BK276 hkp (fun hs_ => (Kd.R_ne HO_302000.out BK276.out (by decide)) hs_); replace BK277 := bk_ BK277 hkp (fun hs_ => (Kd.R_ne HO_302000.out BK277.out (by decide)) hs_); replace BK289 := bk_ BK289 hkp (fun hs_ => (Kd.R_ne HO_302000.out BK289.out (by decide)) hs_); replace BK293 := bk_ BK293 hkp (fun hs_ => (Kd.R_ne HO_302000.out BK293.out (by decide)) hs_); replace BK301 := bk_ BK301 hkp (fun hs_ => (Kd.R_ne HO_302000.out BK301.out (by decide)) hs_); replace HO_302000 := Aside0.mk (Kd.R_reok rfl hy0 (fun k_ e_ => HO_302000.out.1 k_ e_)); replace HB := Aside0.mk (hb); (try clear hb); (try clear hkp); (try clear hy0); have hcz132_0 := cz_ BK301 0 (.slice Ao46 t297.length co46); have hfz132_0 := blk_frozen BK301.out 0) | ((with_reducible refine gate_callee (f := 14) rfl ?_); refine goesL_ (some 73) rfl rfl Try.func14 (by kernel_rfl) rfl #[.agg #[.slice Ao46 t311.length co46], .int .i64 1] rfl (by (try simp only [List.map_toArray, List.map_cons, List.map_nil]); first | done | (rw [show t311.length = t297.length from (Kd.R_reads' HO_302000.out).1.symm] <;> rfl) | rfl | (simp only [List.length_drop, List.length_take]; rfl)) ?_; (with_reducible refine (laws_heldTable.calls kj74 _ _ t311 1 t312 _ ?side1 ?side2 A111.out).mono ?_); (case side1 => exact rc_ HO_302000); (case side2 => rw [show t311.length = t297.length from (Kd.R_reads' HO_302000.out).1.symm]; exact (Kd.R_reads' HO_302000.out).2.1); rintro e w133 ⟨rfl, hb⟩; refine ⟨_, rfl, ?_⟩; replace HO_290000 := rb_ HO_290000 hb; replace HO_294000 := rb_ HO_294000 hb; replace HO_302000 := rb_ HO_302000 hb; replace BK276 := Aside0.mk (bb_ BK276 hb); replace BK277 := Aside0.mk (bb_ BK277 hb); replace BK289 := Aside0.mk (bb_ BK289 hb); replace BK293 := Aside0.mk (bb_ BK293 hb); replace BK301 := Aside0.mk (bb_ BK301 hb); replace HB := Aside0.mk (bt_ HB hb); (try clear hb); (try clear hb2); (try clear hk); (try clear hi)))
           replace HO_290000 := Aside0.mk (Kd.R_drew HO_290000.out)
           replace HO_294000 := Aside0.mk (Kd.R_drew HO_294000.out)
           replace HO_302000 := Aside0.mk (Kd.R_drew HO_302000.out)
           replace BK276 := Aside0.mk (blk_drew BK276.out)
           replace BK277 := Aside0.mk (blk_drew BK277.out)
           replace BK289 := Aside0.mk (blk_drew BK289.out)
           replace BK293 := Aside0.mk (blk_drew BK293.out)
           replace BK301 := Aside0.mk (blk_drew BK301.out)
           replace HB := Aside0.mk (below_drew1 HB.out)
           refine start_ (n := 11) (S := fun w' => w'.cell? ⟨gb276, 0, none⟩ = some (.slice A0_0 l0_0.length c0_0) ∧ w'.cell? ⟨gb277, 0, none⟩ = some (.int .i64 a1_0) ∧ w'.cell? ⟨gb277, 1, none⟩ = some (.int .i64 a1_1) ∧ w'.cell? ⟨gb277, 2, none⟩ = some (.int .i64 a1_2)) (ds := []) ba13_0 (by kernel_rfl) rfl rfl ⟨(blk_cell BK276.out 0).trans rfl, (blk_cell BK277.out 0).trans rfl, (blk_cell BK277.out 1).trans rfl, (blk_cell BK277.out 2).trans rfl⟩ (fun hHeld => ?_); refine with_tabW laws_FnExactPutRoute.tab24 laws_FnExactPutRoute.bits24 (fun HT_ HW_ => ?_)
           generalize w133.drew = w134 at HO_290000 HO_294000 HO_302000 BK276 BK277 BK289 BK293 BK301 HB hHeld ⊢
           refine pt_ 0 80 ba13_1 HT_ HW_ hHeld ?_
           refine pt_ 2 82 ba13_2 HT_ HW_ hHeld ?_
           refine join_ (σ := Value × Value × Nat) 2 ba13_3 (fun s_ => [(81, .agg #[s_.1]), (83, .agg #[.int .i64 t316, .int .i64 t317, .int .i64 t318]), (84, .tuple #[.agg #[s_.2.1], .bool t322]), (14, .pointer (some ⟨s_.2.2, 0, none⟩)), (79, .tuple #[.agg #[s_.2.1], .bool t322]), (85, .agg #[s_.2.1]), (86, .bool t322)]) (fun s_ w' => (w'.cell? ⟨gb276, 0, none⟩ = some (.slice A0_0 l0_0.length c0_0) ∧ w'.cell? ⟨gb277, 0, none⟩ = some (.int .i64 a1_0) ∧ w'.cell? ⟨gb277, 1, none⟩ = some (.int .i64 a1_1) ∧ w'.cell? ⟨gb277, 2, none⟩ = some (.int .i64 a1_2)) ∧ (Kd.R k43 43 w' w.heap.size (fun k_ => some k_ ≠ (s_.2.1 : Value).ownBlock ∧ some k_ ≠ (.slice Ao29 t285.length co29 : Value).ownBlock ∧ some k_ ≠ (.slice Ao35 t308.length co35 : Value).ownBlock ∧ some k_ ≠ (.slice Ao46 t297.length co46 : Value).ownBlock) s_.1 t313) ∧ (Kd.R k43 43 w' w.heap.size (fun k_ => some k_ ≠ (s_.1 : Value).ownBlock ∧ some k_ ≠ (.slice Ao29 t285.length co29 : Value).ownBlock ∧ some k_ ≠ (.slice Ao35 t308.length co35 : Value).ownBlock ∧ some k_ ≠ (.slice Ao46 t297.length co46 : Value).ownBlock) s_.2.1 t319) ∧ (Kd.R k43 43 w' w.heap.size (fun k_ => some k_ ≠ (s_.1 : Value).ownBlock ∧ some k_ ≠ (s_.2.1 : Value).ownBlock ∧ some k_ ≠ (.slice Ao35 t308.length co35 : Value).ownBlock ∧ some k_ ≠ (.slice Ao46 t297.length co46 : Value).ownBlock) (.slice Ao29 t285.length co29) t285) ∧ (Kd.R k43 43 w' w.heap.size (fun k_ => some k_ ≠ (s_.1 : Value).ownBlock ∧ some k_ ≠ (s_.2.1 : Value).ownBlock ∧ some k_ ≠ (.slice Ao29 t285.length co29 : Value).ownBlock ∧ some k_ ≠ (.slice Ao46 t297.length co46 : Value).ownBlock) (.slice Ao35 t308.length co35) t308) ∧ (Kd.R k43 43 w' w.heap.size (fun k_ => some k_ ≠ (s_.1 : Value).ownBlock ∧ some k_ ≠ (s_.2.1 : Value).ownBlock ∧ some k_ ≠ (.slice Ao29 t285.length co29 : Value).ownBlock ∧ some k_ ≠ (.slice Ao35 t308.length co35 : Value).ownBlock) (.slice Ao46 t297.length co46) t311) ∧ (w'.heap[gb276]? = some (.cells #[.slice A0_0 l0_0.length c0_0] 24 (0, 0))) ∧ (w'.heap[gb277]? = some (.cells #[.int .i64 a1_0, .int .i64 a1_1, .int .i64 a1_2] 40 (0, 0))) ∧ (w'.heap[gb289]? = some (.cells #[.slice Ao29 t285.length co29] 30 (0, 0))) ∧ (w'.heap[gb293]? = some (.cells #[.slice Ao35 t308.length co35] 30 (0, 0))) ∧ (w'.heap[gb301]? = some (.cells #[.slice Ao46 t297.length co46] 30 (0, 0))) ∧ (w'.heap[s_.2.2]? = some (.cells #[.slice none 0 0] 30 (0, 0))) ∧ (w.heap.size ≤ s_.2.2) ∧ (w.heap.size ≤ s_.2.2) ∧ (gb276 ≠ s_.2.2) ∧ (s_.2.2 ≠ gb276) ∧ (gb277 ≠ s_.2.2) ∧ (s_.2.2 ≠ gb277) ∧ (gb289 ≠ s_.2.2) ∧ (s_.2.2 ≠ gb289) ∧ (gb293 ≠ s_.2.2) ∧ (s_.2.2 ≠ gb293) ∧ (gb301 ≠ s_.2.2) ∧ (s_.2.2 ≠ gb301) ∧ (Below w.heap.size w w')) ?_ ?_
           rotate_left
           ·intro hCont
            refine two_ (i := 1) (j := 8) (Ni := some 81) (Nj := some 14) ba13_4 ba13_5 rfl rfl rfl rfl (two_of HT_.out (by kernel_rfl)) (by decide) (by decide) (fun K hK => ?_) (fun K hK => ?_)
            ·skip
             refine gz_ Try.func9 #[.agg #[.slice A0_0 l0_0.length c0_0]] ?_
             with_reducible refine (laws_toTable.calls kj74 _ _ l0_0 t313 _ ?side1 ?side2 A122.out).mono ?_
             (case side1 => exact cb_ HR0_0 HB)
             (case side2 => exact HC0_0.out)
             rintro e w135 ⟨v314, rfl, ho0, hb⟩
             refine ⟨_, rfl, ?_⟩
             have HO315 := Aside0.mk (Kd.R_lower (Kd.R_new' (Kd.R_new' (Kd.R_new' ho0 (Kd.R_lt (hd_ HO_290000))) (Kd.R_lt (hd_ HO_294000))) (Kd.R_lt (hd_ HO_302000))) (bz_ HB))
             replace HO_290000 := Aside0.mk (Kd.R_elder' (hd_ HO_290000) (Kd.R_base ho0) hb)
             replace HO_294000 := Aside0.mk (Kd.R_elder' (hd_ HO_294000) (Kd.R_base ho0) hb)
             replace HO_302000 := Aside0.mk (Kd.R_elder' (hd_ HO_302000) (Kd.R_base ho0) hb)
             replace BK276 := Aside0.mk (bb_ BK276 hb)
             replace BK277 := Aside0.mk (bb_ BK277 hb)
             replace BK289 := Aside0.mk (bb_ BK289 hb)
             replace BK293 := Aside0.mk (bb_ BK293 hb)
             replace BK301 := Aside0.mk (bb_ BK301 hb)
             replace HB := Aside0.mk (bt_ HB hb)
             (try clear hb)
             (try clear hb2)
             (try clear hk)
             (try clear hi)
             (try clear ho0)
             refine hK.out _ _ ⟨(blk_cell BK276.out 0).trans rfl, (blk_cell BK277.out 0).trans rfl, (blk_cell BK277.out 1).trans rfl, (blk_cell BK277.out 2).trans rfl⟩ (fun hHeld => ?_)
             clear hK K
             refine nz_ 81 ?_
             refine two_ (i := 3) (j := 8) (Ni := some 83) (Nj := some 14) ba13_6 ba13_7 rfl rfl rfl rfl (two_of HT_.out (by kernel_rfl)) (by decide) (by decide) (fun K hK => ?_) (fun K hK => ?_)
             ·skip
              refine gz_ Try.func16 #[.agg #[.int .i64 a1_0, .int .i64 a1_1, .int .i64 a1_2]] ?_
              with_reducible refine (laws_toRoute.calls a1_0 a1_1 a1_2 t316 t317 t318 _ A123.out).mono ?_
              rintro e w136 ⟨rfl, hb⟩
              refine ⟨_, rfl, ?_⟩
              replace HO_290000 := rb_ HO_290000 hb
              replace HO_294000 := rb_ HO_294000 hb
              replace HO_302000 := rb_ HO_302000 hb
              replace HO315 := rb_ HO315 hb
              replace BK276 := Aside0.mk (bb_ BK276 hb)
              replace BK277 := Aside0.mk (bb_ BK277 hb)
              replace BK289 := Aside0.mk (bb_ BK289 hb)
              replace BK293 := Aside0.mk (bb_ BK293 hb)
              replace BK301 := Aside0.mk (bb_ BK301 hb)
              replace HB := Aside0.mk (bt_ HB hb)
              (try clear hb)
              (try clear hb2)
              (try clear hk)
              (try clear hi)
              obtain ⟨Ao137, co137, eo137⟩ := Kd.R_slice HO315.out
              (first | subst eo137 | (injection eo137 with f1_ f2_ f3_; have f4_ := f1_.symm; have f5_ := f3_.symm; clear f1_ f2_ f3_; subst f4_; subst f5_))
              refine hK.out _ _ ⟨(blk_cell BK276.out 0).trans rfl, (blk_cell BK277.out 0).trans rfl, (blk_cell BK277.out 1).trans rfl, (blk_cell BK277.out 2).trans rfl⟩ (fun hHeld => ?_)
              clear hK K
              refine nz_ 83 ?_
              refine two_ (i := 4) (j := 8) (Ni := some 84) (Nj := some 14) ba13_8 ba13_9 rfl rfl rfl rfl (two_of HT_.out (by kernel_rfl)) (by decide) (by decide) (fun K hK => ?_) (fun K hK => ?_)
              ·skip
               refine gz_ Try.func17 #[.agg #[.slice Ao137 t313.length co137], .agg #[.int .i64 t316, .int .i64 t317, .int .i64 t318]] ?_
               with_reducible refine (impl_PutRoute.calls kj74 _ _ t313 t316 t317 t318 t319 t322 _ ?side1 ?side2 A124.out).mono ?_
               (case side1 => exact rc_ HO315)
               (case side2 => exact (Kd.R_reads' HO315.out).2.1)
               rintro e w138 ⟨v320, rfl, ho0, hb⟩
               refine ⟨_, rfl, ?_⟩
               have HO321 := Aside0.mk (Kd.R_lower (Kd.R_new' (Kd.R_new' (Kd.R_new' (Kd.R_new' ho0 (Kd.R_lt (hd_ HO_290000))) (Kd.R_lt (hd_ HO_294000))) (Kd.R_lt (hd_ HO_302000))) (Kd.R_lt (hd_ HO315))) (bz_ HB))
               replace HO_290000 := Aside0.mk (Kd.R_elder' (hd_ HO_290000) (Kd.R_base ho0) hb)
               replace HO_294000 := Aside0.mk (Kd.R_elder' (hd_ HO_294000) (Kd.R_base ho0) hb)
               replace HO_302000 := Aside0.mk (Kd.R_elder' (hd_ HO_302000) (Kd.R_base ho0) hb)
               replace HO315 := Aside0.mk (Kd.R_elder' (hd_ HO315) (Kd.R_base ho0) hb)
               replace BK276 := Aside0.mk (bb_ BK276 hb)
               replace BK277 := Aside0.mk (bb_ BK277 hb)
               replace BK289 := Aside0.mk (bb_ BK289 hb)
               replace BK293 := Aside0.mk (bb_ BK293 hb)
               replace BK301 := Aside0.mk (bb_ BK301 hb)
               replace HB := Aside0.mk (bt_ HB hb)
               (try clear hb)
               (try clear hb2)
               (try clear hk)
               (try clear hi)
               (try clear ho0)
               refine hK.out _ _ ⟨(blk_cell BK276.out 0).trans rfl, (blk_cell BK277.out 0).trans rfl, (blk_cell BK277.out 1).trans rfl, (blk_cell BK277.out 2).trans rfl⟩ (fun hHeld => ?_)
               clear hK K
               refine nz_ 84 ?_
               refine pz_ 5 79 ba13_10 HT_ ?_
               refine pz_ 6 85 ba13_11 HT_ ?_
               refine pz_ 7 86 ba13_12 HT_ ?_
               refine one_ (i := 8) (N := some 14) ba13_3 rfl rfl (one_of HT_.out (by kernel_rfl)) (by decide) (fun K hK => ?_)
               refine box_step ?hg (N := 14) ?hd (cs := #[.slice none 0 0]) (t := 30) ?hr ?_; (case hd => rfl); (case hg => rfl); (case hr => first | (go_simp; done) | (go_simp; rfl))
               intro gb323 hg w139 hbox hb
               have BK323 := Aside0.mk hbox
               have GW323 := ge_ HB hg
               have GE323 := ge_ HB hg
               have NB276_323 := nl_ BK276 hg
               have NB323_276 := ng_ BK276 hg
               have NB277_323 := nl_ BK277 hg
               have NB323_277 := ng_ BK277 hg
               have NB289_323 := nl_ BK289 hg
               have NB323_289 := ng_ BK289 hg
               have NB293_323 := nl_ BK293 hg
               have NB323_293 := ng_ BK293 hg
               have NB301_323 := nl_ BK301 hg
               have NB323_301 := ng_ BK301 hg
               replace HO_290000 := rb_ HO_290000 hb
               replace HO_294000 := rb_ HO_294000 hb
               replace HO_302000 := rb_ HO_302000 hb
               replace HO315 := rb_ HO315 hb
               replace HO321 := rb_ HO321 hb
               replace HB := Aside0.mk (bt_ HB hb)
               replace BK276 := Aside0.mk (bb_ BK276 hb)
               replace BK277 := Aside0.mk (bb_ BK277 hb)
               replace BK289 := Aside0.mk (bb_ BK289 hb)
               replace BK293 := Aside0.mk (bb_ BK293 hb)
               replace BK301 := Aside0.mk (bb_ BK301 hb)
               clear hb hbox hg
               refine hK.out _ _ ⟨(blk_cell BK276.out 0).trans rfl, (blk_cell BK277.out 0).trans rfl, (blk_cell BK277.out 1).trans rfl, (blk_cell BK277.out 2).trans rfl⟩ (fun hHeld => ?_)
               clear hK K
               refine nz_ 14 ?_
               exact norm_ (by simp only [putAll, Act.put, List.setIfInBounds_toArray, List.set_cons_zero, List.set_cons_succ]) (hCont (.slice Ao137 t313.length co137, v320, gb323) _ ⟨hHeld, (by (with_reducible repeat (first | apply Kd.R_alloc | apply Kd.R_drewN | apply Kd.R_drew)); exact Kd.R_mono HO315.out (fun _ hk => ⟨hk.2, ⟨hk.1.1.1.2, ⟨hk.1.1.2, hk.1.2⟩⟩⟩)), (by (with_reducible repeat (first | apply Kd.R_alloc | apply Kd.R_drewN | apply Kd.R_drew)); exact Kd.R_mono HO321.out (fun _ hk => ⟨hk.2, ⟨hk.1.1.1.2, ⟨hk.1.1.2, hk.1.2⟩⟩⟩)), (by (with_reducible repeat (first | apply Kd.R_alloc | apply Kd.R_drewN | apply Kd.R_drew)); exact Kd.R_mono HO_290000.out (fun _ hk => ⟨hk.1.2, ⟨hk.2, ⟨hk.1.1.1, hk.1.1.2⟩⟩⟩)), (by (with_reducible repeat (first | apply Kd.R_alloc | apply Kd.R_drewN | apply Kd.R_drew)); exact Kd.R_mono HO_294000.out (fun _ hk => ⟨hk.1.2, ⟨hk.2, ⟨hk.1.1.1, hk.1.1.2⟩⟩⟩)), (by (with_reducible repeat (first | apply Kd.R_alloc | apply Kd.R_drewN | apply Kd.R_drew)); exact Kd.R_mono HO_302000.out (fun _ hk => ⟨hk.1.2, ⟨hk.2, ⟨hk.1.1.1, hk.1.1.2⟩⟩⟩)), (by (with_reducible repeat (first | refine blk_drewN ?_ _ | refine blk_drew ?_ | refine blk_alloc ?_ _)); exact BK276.out), (by (with_reducible repeat (first | refine blk_drewN ?_ _ | refine blk_drew ?_ | refine blk_alloc ?_ _)); exact BK277.out), (by (with_reducible repeat (first | refine blk_drewN ?_ _ | refine blk_drew ?_ | refine blk_alloc ?_ _)); exact BK289.out), (by (with_reducible repeat (first | refine blk_drewN ?_ _ | refine blk_drew ?_ | refine blk_alloc ?_ _)); exact BK293.out), (by (with_reducible repeat (first | refine blk_drewN ?_ _ | refine blk_drew ?_ | refine blk_alloc ?_ _)); exact BK301.out), (by (with_reducible repeat (first | refine blk_drewN ?_ _ | refine blk_drew ?_ | refine blk_alloc ?_ _)); exact BK323.out), GW323.out, GE323.out, NB276_323.out, NB323_276.out, NB277_323.out, NB323_277.out, NB289_323.out, NB323_289.out, NB293_323.out, NB323_293.out, NB301_323.out, NB323_301.out, (by repeat (first | (with_reducible first | exact HB.out | apply below_alloc | apply pw_below_drewN | apply below_drew1 | refine below_set ?_ GE276.out | refine below_set ?_ GE277.out | refine below_set ?_ GE289.out | refine below_set ?_ GE293.out | refine below_set ?_ GE301.out | refine below_set ?_ GE323.out) | exact HB.out))⟩)
              ·skip
               refine box_step ?hg (N := 14) ?hd (cs := #[.slice none 0 0]) (t := 30) ?hr ?_; (case hd => rfl); (case hg => rfl); (case hr => first | (go_simp; done) | (go_simp; rfl))
               intro gb323 hg w137 hbox hb
               have BK323 := Aside0.mk hbox
               have GW323 := ge_ HB hg
               have GE323 := ge_ HB hg
               have NB276_323 := nl_ BK276 hg
               have NB323_276 := ng_ BK276 hg
               have NB277_323 := nl_ BK277 hg
               have NB323_277 := ng_ BK277 hg
               have NB289_323 := nl_ BK289 hg
               have NB323_289 := ng_ BK289 hg
               have NB293_323 := nl_ BK293 hg
               have NB323_293 := ng_ BK293 hg
               have NB301_323 := nl_ BK301 hg
               have NB323_301 := ng_ BK301 hg
               replace HO_290000 := rb_ HO_290000 hb
               replace HO_294000 := rb_ HO_294000 hb
               replace HO_302000 := rb_ HO_302000 hb
               replace HO315 := rb_ HO315 hb
               replace HB := Aside0.mk (bt_ HB hb)
               replace BK276 := Aside0.mk (bb_ BK276 hb)
               replace BK277 := Aside0.mk (bb_ BK277 hb)
               replace BK289 := Aside0.mk (bb_ BK289 hb)
               replace BK293 := Aside0.mk (bb_ BK293 hb)
               replace BK301 := Aside0.mk (bb_ BK301 hb)
               clear hb hbox hg
               obtain ⟨Ao138, co138, eo138⟩ := Kd.R_slice HO315.out
               (first | subst eo138 | (injection eo138 with f1_ f2_ f3_; have f4_ := f1_.symm; have f5_ := f3_.symm; clear f1_ f2_ f3_; subst f4_; subst f5_))
               refine hK.out _ _ ⟨(blk_cell BK276.out 0).trans rfl, (blk_cell BK277.out 0).trans rfl, (blk_cell BK277.out 1).trans rfl, (blk_cell BK277.out 2).trans rfl⟩ (fun hHeld => ?_)
               clear hK K
               refine nz_ 14 ?_
               refine one_ (i := 4) (N := some 84) ba13_13 rfl rfl (one_of HT_.out (by kernel_rfl)) (by decide) (fun K hK => ?_)
               refine gz_ Try.func17 #[.agg #[.slice Ao138 t313.length co138], .agg #[.int .i64 t316, .int .i64 t317, .int .i64 t318]] ?_
               with_reducible refine (impl_PutRoute.calls kj74 _ _ t313 t316 t317 t318 t319 t322 _ ?side1 ?side2 A124.out).mono ?_
               (case side1 => exact rc_ HO315)
               (case side2 => exact (Kd.R_reads' HO315.out).2.1)
               rintro e w139 ⟨v320, rfl, ho0, hb⟩
               refine ⟨_, rfl, ?_⟩
               have HO321 := Aside0.mk (Kd.R_lower (Kd.R_new' (Kd.R_new' (Kd.R_new' (Kd.R_new' ho0 (Kd.R_lt (hd_ HO_290000))) (Kd.R_lt (hd_ HO_294000))) (Kd.R_lt (hd_ HO_302000))) (Kd.R_lt (hd_ HO315))) (bz_ HB))
               replace HO_290000 := Aside0.mk (Kd.R_elder' (hd_ HO_290000) (Kd.R_base ho0) hb)
               replace HO_294000 := Aside0.mk (Kd.R_elder' (hd_ HO_294000) (Kd.R_base ho0) hb)
               replace HO_302000 := Aside0.mk (Kd.R_elder' (hd_ HO_302000) (Kd.R_base ho0) hb)
               replace HO315 := Aside0.mk (Kd.R_elder' (hd_ HO315) (Kd.R_base ho0) hb)
               replace BK276 := Aside0.mk (bb_ BK276 hb)
               replace BK277 := Aside0.mk (bb_ BK277 hb)
               replace BK289 := Aside0.mk (bb_ BK289 hb)
               replace BK293 := Aside0.mk (bb_ BK293 hb)
               replace BK301 := Aside0.mk (bb_ BK301 hb)
               replace BK323 := Aside0.mk (bb_ BK323 hb)
               replace HB := Aside0.mk (bt_ HB hb)
               (try clear hb)
               (try clear hb2)
               (try clear hk)
               (try clear hi)
               (try clear ho0)
               refine hK.out _ _ ⟨(blk_cell BK276.out 0).trans rfl, (blk_cell BK277.out 0).trans rfl, (blk_cell BK277.out 1).trans rfl, (blk_cell BK277.out 2).trans rfl⟩ (fun hHeld => ?_)
               clear hK K
               refine nz_ 84 ?_
               refine pz_ 5 79 ba13_14 HT_ ?_
               refine pz_ 6 85 ba13_15 HT_ ?_
               refine pz_ 7 86 ba13_3 HT_ ?_
               exact norm_ (by simp only [putAll, Act.put, List.setIfInBounds_toArray, List.set_cons_zero, List.set_cons_succ]) (hCont (.slice Ao138 t313.length co138, v320, gb323) _ ⟨hHeld, (by (with_reducible repeat (first | apply Kd.R_alloc | apply Kd.R_drewN | apply Kd.R_drew)); exact Kd.R_mono HO315.out (fun _ hk => ⟨hk.2, ⟨hk.1.1.1.2, ⟨hk.1.1.2, hk.1.2⟩⟩⟩)), (by (with_reducible repeat (first | apply Kd.R_alloc | apply Kd.R_drewN | apply Kd.R_drew)); exact Kd.R_mono HO321.out (fun _ hk => ⟨hk.2, ⟨hk.1.1.1.2, ⟨hk.1.1.2, hk.1.2⟩⟩⟩)), (by (with_reducible repeat (first | apply Kd.R_alloc | apply Kd.R_drewN | apply Kd.R_drew)); exact Kd.R_mono HO_290000.out (fun _ hk => ⟨hk.1.2, ⟨hk.2, ⟨hk.1.1.1, hk.1.1.2⟩⟩⟩)), (by (with_reducible repeat (first | apply Kd.R_alloc | apply Kd.R_drewN | apply Kd.R_drew)); exact Kd.R_mono HO_294000.out (fun _ hk => ⟨hk.1.2, ⟨hk.2, ⟨hk.1.1.1, hk.1.1.2⟩⟩⟩)), (by (with_reducible repeat (first | apply Kd.R_alloc | apply Kd.R_drewN | apply Kd.R_drew)); exact Kd.R_mono HO_302000.out (fun _ hk => ⟨hk.1.2, ⟨hk.2, ⟨hk.1.1.1, hk.1.1.2⟩⟩⟩)), (by (with_reducible repeat (first | refine blk_drewN ?_ _ | refine blk_drew ?_ | refine blk_alloc ?_ _)); exact BK276.out), (by (with_reducible repeat (first | refine blk_drewN ?_ _ | refine blk_drew ?_ | refine blk_alloc ?_ _)); exact BK277.out), (by (with_reducible repeat (first | refine blk_drewN ?_ _ | refine blk_drew ?_ | refine blk_alloc ?_ _)); exact BK289.out), (by (with_reducible repeat (first | refine blk_drewN ?_ _ | refine blk_drew ?_ | refine blk_alloc ?_ _)); exact BK293.out), (by (with_reducible repeat (first | refine blk_drewN ?_ _ | refine blk_drew ?_ | refine blk_alloc ?_ _)); exact BK301.out), (by (with_reducible repeat (first | refine blk_drewN ?_ _ | refine blk_drew ?_ | refine blk_alloc ?_ _)); exact BK323.out), GW323.out, GE323.out, NB276_323.out, NB323_276.out, NB277_323.out, NB323_277.out, NB289_323.out, NB323_289.out, NB293_323.out, NB323_293.out, NB301_323.out, NB323_301.out, (by repeat (first | (with_reducible first | exact HB.out | apply below_alloc | apply pw_below_drewN | apply below_drew1 | refine below_set ?_ GE276.out | refine below_set ?_ GE277.out | refine below_set ?_ GE289.out | refine below_set ?_ GE293.out | refine below_set ?_ GE301.out | refine below_set ?_ GE323.out) | exact HB.out))⟩)
             ·skip
              refine box_step ?hg (N := 14) ?hd (cs := #[.slice none 0 0]) (t := 30) ?hr ?_; (case hd => rfl); (case hg => rfl); (case hr => first | (go_simp; done) | (go_simp; rfl))
              intro gb323 hg w136 hbox hb
              have BK323 := Aside0.mk hbox
              have GW323 := ge_ HB hg
              have GE323 := ge_ HB hg
              have NB276_323 := nl_ BK276 hg
              have NB323_276 := ng_ BK276 hg
              have NB277_323 := nl_ BK277 hg
              have NB323_277 := ng_ BK277 hg
              have NB289_323 := nl_ BK289 hg
              have NB323_289 := ng_ BK289 hg
              have NB293_323 := nl_ BK293 hg
              have NB323_293 := ng_ BK293 hg
              have NB301_323 := nl_ BK301 hg
              have NB323_301 := ng_ BK301 hg
              replace HO_290000 := rb_ HO_290000 hb
              replace HO_294000 := rb_ HO_294000 hb
              replace HO_302000 := rb_ HO_302000 hb
              replace HO315 := rb_ HO315 hb
              replace HB := Aside0.mk (bt_ HB hb)
              replace BK276 := Aside0.mk (bb_ BK276 hb)
              replace BK277 := Aside0.mk (bb_ BK277 hb)
              replace BK289 := Aside0.mk (bb_ BK289 hb)
              replace BK293 := Aside0.mk (bb_ BK293 hb)
              replace BK301 := Aside0.mk (bb_ BK301 hb)
              clear hb hbox hg
              refine hK.out _ _ ⟨(blk_cell BK276.out 0).trans rfl, (blk_cell BK277.out 0).trans rfl, (blk_cell BK277.out 1).trans rfl, (blk_cell BK277.out 2).trans rfl⟩ (fun hHeld => ?_)
              clear hK K
              refine nz_ 14 ?_
              refine one_ (i := 3) (N := some 83) ba13_9 rfl rfl (one_of HT_.out (by kernel_rfl)) (by decide) (fun K hK => ?_)
              refine gz_ Try.func16 #[.agg #[.int .i64 a1_0, .int .i64 a1_1, .int .i64 a1_2]] ?_
              with_reducible refine (laws_toRoute.calls a1_0 a1_1 a1_2 t316 t317 t318 _ A123.out).mono ?_
              rintro e w137 ⟨rfl, hb⟩
              refine ⟨_, rfl, ?_⟩
              replace HO_290000 := rb_ HO_290000 hb
              replace HO_294000 := rb_ HO_294000 hb
              replace HO_302000 := rb_ HO_302000 hb
              replace HO315 := rb_ HO315 hb
              replace BK276 := Aside0.mk (bb_ BK276 hb)
              replace BK277 := Aside0.mk (bb_ BK277 hb)
              replace BK289 := Aside0.mk (bb_ BK289 hb)
              replace BK293 := Aside0.mk (bb_ BK293 hb)
              replace BK301 := Aside0.mk (bb_ BK301 hb)
              replace BK323 := Aside0.mk (bb_ BK323 hb)
              replace HB := Aside0.mk (bt_ HB hb)
              (try clear hb)
              (try clear hb2)
              (try clear hk)
              (try clear hi)
              obtain ⟨Ao138, co138, eo138⟩ := Kd.R_slice HO315.out
              (first | subst eo138 | (injection eo138 with f1_ f2_ f3_; have f4_ := f1_.symm; have f5_ := f3_.symm; clear f1_ f2_ f3_; subst f4_; subst f5_))
              refine hK.out _ _ ⟨(blk_cell BK276.out 0).trans rfl, (blk_cell BK277.out 0).trans rfl, (blk_cell BK277.out 1).trans rfl, (blk_cell BK277.out 2).trans rfl⟩ (fun hHeld => ?_)
              clear hK K
              refine nz_ 83 ?_
              refine one_ (i := 4) (N := some 84) ba13_13 rfl rfl (one_of HT_.out (by kernel_rfl)) (by decide) (fun K hK => ?_)
              refine gz_ Try.func17 #[.agg #[.slice Ao138 t313.length co138], .agg #[.int .i64 t316, .int .i64 t317, .int .i64 t318]] ?_
              with_reducible refine (impl_PutRoute.calls kj74 _ _ t313 t316 t317 t318 t319 t322 _ ?side1 ?side2 A124.out).mono ?_
              (case side1 => exact rc_ HO315)
              (case side2 => exact (Kd.R_reads' HO315.out).2.1)
              rintro e w139 ⟨v320, rfl, ho0, hb⟩
              refine ⟨_, rfl, ?_⟩
              have HO321 := Aside0.mk (Kd.R_lower (Kd.R_new' (Kd.R_new' (Kd.R_new' (Kd.R_new' ho0 (Kd.R_lt (hd_ HO_290000))) (Kd.R_lt (hd_ HO_294000))) (Kd.R_lt (hd_ HO_302000))) (Kd.R_lt (hd_ HO315))) (bz_ HB))
              replace HO_290000 := Aside0.mk (Kd.R_elder' (hd_ HO_290000) (Kd.R_base ho0) hb)
              replace HO_294000 := Aside0.mk (Kd.R_elder' (hd_ HO_294000) (Kd.R_base ho0) hb)
              replace HO_302000 := Aside0.mk (Kd.R_elder' (hd_ HO_302000) (Kd.R_base ho0) hb)
              replace HO315 := Aside0.mk (Kd.R_elder' (hd_ HO315) (Kd.R_base ho0) hb)
              replace BK276 := Aside0.mk (bb_ BK276 hb)
              replace BK277 := Aside0.mk (bb_ BK277 hb)
              replace BK289 := Aside0.mk (bb_ BK289 hb)
              replace BK293 := Aside0.mk (bb_ BK293 hb)
              replace BK301 := Aside0.mk (bb_ BK301 hb)
              replace BK323 := Aside0.mk (bb_ BK323 hb)
              replace HB := Aside0.mk (bt_ HB hb)
              (try clear hb)
              (try clear hb2)
              (try clear hk)
              (try clear hi)
              (try clear ho0)
              refine hK.out _ _ ⟨(blk_cell BK276.out 0).trans rfl, (blk_cell BK277.out 0).trans rfl, (blk_cell BK277.out 1).trans rfl, (blk_cell BK277.out 2).trans rfl⟩ (fun hHeld => ?_)
              clear hK K
              refine nz_ 84 ?_
              refine pz_ 5 79 ba13_14 HT_ ?_
              refine pz_ 6 85 ba13_15 HT_ ?_
              refine pz_ 7 86 ba13_3 HT_ ?_
              exact norm_ (by simp only [putAll, Act.put, List.setIfInBounds_toArray, List.set_cons_zero, List.set_cons_succ]) (hCont (.slice Ao138 t313.length co138, v320, gb323) _ ⟨hHeld, (by (with_reducible repeat (first | apply Kd.R_alloc | apply Kd.R_drewN | apply Kd.R_drew)); exact Kd.R_mono HO315.out (fun _ hk => ⟨hk.2, ⟨hk.1.1.1.2, ⟨hk.1.1.2, hk.1.2⟩⟩⟩)), (by (with_reducible repeat (first | apply Kd.R_alloc | apply Kd.R_drewN | apply Kd.R_drew)); exact Kd.R_mono HO321.out (fun _ hk => ⟨hk.2, ⟨hk.1.1.1.2, ⟨hk.1.1.2, hk.1.2⟩⟩⟩)), (by (with_reducible repeat (first | apply Kd.R_alloc | apply Kd.R_drewN | apply Kd.R_drew)); exact Kd.R_mono HO_290000.out (fun _ hk => ⟨hk.1.2, ⟨hk.2, ⟨hk.1.1.1, hk.1.1.2⟩⟩⟩)), (by (with_reducible repeat (first | apply Kd.R_alloc | apply Kd.R_drewN | apply Kd.R_drew)); exact Kd.R_mono HO_294000.out (fun _ hk => ⟨hk.1.2, ⟨hk.2, ⟨hk.1.1.1, hk.1.1.2⟩⟩⟩)), (by (with_reducible repeat (first | apply Kd.R_alloc | apply Kd.R_drewN | apply Kd.R_drew)); exact Kd.R_mono HO_302000.out (fun _ hk => ⟨hk.1.2, ⟨hk.2, ⟨hk.1.1.1, hk.1.1.2⟩⟩⟩)), (by (with_reducible repeat (first | refine blk_drewN ?_ _ | refine blk_drew ?_ | refine blk_alloc ?_ _)); exact BK276.out), (by (with_reducible repeat (first | refine blk_drewN ?_ _ | refine blk_drew ?_ | refine blk_alloc ?_ _)); exact BK277.out), (by (with_reducible repeat (first | refine blk_drewN ?_ _ | refine blk_drew ?_ | refine blk_alloc ?_ _)); exact BK289.out), (by (with_reducible repeat (first | refine blk_drewN ?_ _ | refine blk_drew ?_ | refine blk_alloc ?_ _)); exact BK293.out), (by (with_reducible repeat (first | refine blk_drewN ?_ _ | refine blk_drew ?_ | refine blk_alloc ?_ _)); exact BK301.out), (by (with_reducible repeat (first | refine blk_drewN ?_ _ | refine blk_drew ?_ | refine blk_alloc ?_ _)); exact BK323.out), GW323.out, GE323.out, NB276_323.out, NB323_276.out, NB277_323.out, NB323_277.out, NB289_323.out, NB323_289.out, NB293_323.out, NB323_293.out, NB301_323.out, NB323_301.out, (by repeat (first | (with_reducible first | exact HB.out | apply below_alloc | apply pw_below_drewN | apply below_drew1 | refine below_set ?_ GE276.out | refine below_set ?_ GE277.out | refine below_set ?_ GE289.out | refine below_set ?_ GE293.out | refine below_set ?_ GE301.out | refine below_set ?_ GE323.out) | exact HB.out))⟩)
            ·skip
             refine box_step ?hg (N := 14) ?hd (cs := #[.slice none 0 0]) (t := 30) ?hr ?_; (case hd => rfl); (case hg => rfl); (case hr => first | (go_simp; done) | (go_simp; rfl))
             intro gb323 hg w135 hbox hb
             have BK323 := Aside0.mk hbox
             have GW323 := ge_ HB hg
             have GE323 := ge_ HB hg
             have NB276_323 := nl_ BK276 hg
             have NB323_276 := ng_ BK276 hg
             have NB277_323 := nl_ BK277 hg
             have NB323_277 := ng_ BK277 hg
             have NB289_323 := nl_ BK289 hg
             have NB323_289 := ng_ BK289 hg
             have NB293_323 := nl_ BK293 hg
             have NB323_293 := ng_ BK293 hg
             have NB301_323 := nl_ BK301 hg
             have NB323_301 := ng_ BK301 hg
             replace HO_290000 := rb_ HO_290000 hb
             replace HO_294000 := rb_ HO_294000 hb
             replace HO_302000 := rb_ HO_302000 hb
             replace HB := Aside0.mk (bt_ HB hb)
             replace BK276 := Aside0.mk (bb_ BK276 hb)
             replace BK277 := Aside0.mk (bb_ BK277 hb)
             replace BK289 := Aside0.mk (bb_ BK289 hb)
             replace BK293 := Aside0.mk (bb_ BK293 hb)
             replace BK301 := Aside0.mk (bb_ BK301 hb)
             clear hb hbox hg
             refine hK.out _ _ ⟨(blk_cell BK276.out 0).trans rfl, (blk_cell BK277.out 0).trans rfl, (blk_cell BK277.out 1).trans rfl, (blk_cell BK277.out 2).trans rfl⟩ (fun hHeld => ?_)
             clear hK K
             refine nz_ 14 ?_
             refine one_ (i := 1) (N := some 81) ba13_7 rfl rfl (one_of HT_.out (by kernel_rfl)) (by decide) (fun K hK => ?_)
             refine gz_ Try.func9 #[.agg #[.slice A0_0 l0_0.length c0_0]] ?_
             with_reducible refine (laws_toTable.calls kj74 _ _ l0_0 t313 _ ?side1 ?side2 A122.out).mono ?_
             (case side1 => exact cb_ HR0_0 HB)
             (case side2 => exact HC0_0.out)
             rintro e w136 ⟨v314, rfl, ho0, hb⟩
             refine ⟨_, rfl, ?_⟩
             have HO315 := Aside0.mk (Kd.R_lower (Kd.R_new' (Kd.R_new' (Kd.R_new' ho0 (Kd.R_lt (hd_ HO_290000))) (Kd.R_lt (hd_ HO_294000))) (Kd.R_lt (hd_ HO_302000))) (bz_ HB))
             replace HO_290000 := Aside0.mk (Kd.R_elder' (hd_ HO_290000) (Kd.R_base ho0) hb)
             replace HO_294000 := Aside0.mk (Kd.R_elder' (hd_ HO_294000) (Kd.R_base ho0) hb)
             replace HO_302000 := Aside0.mk (Kd.R_elder' (hd_ HO_302000) (Kd.R_base ho0) hb)
             replace BK276 := Aside0.mk (bb_ BK276 hb)
             replace BK277 := Aside0.mk (bb_ BK277 hb)
             replace BK289 := Aside0.mk (bb_ BK289 hb)
             replace BK293 := Aside0.mk (bb_ BK293 hb)
             replace BK301 := Aside0.mk (bb_ BK301 hb)
             replace BK323 := Aside0.mk (bb_ BK323 hb)
             replace HB := Aside0.mk (bt_ HB hb)
             (try clear hb)
             (try clear hb2)
             (try clear hk)
             (try clear hi)
             (try clear ho0)
             refine hK.out _ _ ⟨(blk_cell BK276.out 0).trans rfl, (blk_cell BK277.out 0).trans rfl, (blk_cell BK277.out 1).trans rfl, (blk_cell BK277.out 2).trans rfl⟩ (fun hHeld => ?_)
             clear hK K
             refine nz_ 81 ?_
             refine one_ (i := 3) (N := some 83) ba13_9 rfl rfl (one_of HT_.out (by kernel_rfl)) (by decide) (fun K hK => ?_)
             refine gz_ Try.func16 #[.agg #[.int .i64 a1_0, .int .i64 a1_1, .int .i64 a1_2]] ?_
             with_reducible refine (laws_toRoute.calls a1_0 a1_1 a1_2 t316 t317 t318 _ A123.out).mono ?_
             rintro e w137 ⟨rfl, hb⟩
             refine ⟨_, rfl, ?_⟩
             replace HO_290000 := rb_ HO_290000 hb
             replace HO_294000 := rb_ HO_294000 hb
             replace HO_302000 := rb_ HO_302000 hb
             replace HO315 := rb_ HO315 hb
             replace BK276 := Aside0.mk (bb_ BK276 hb)
             replace BK277 := Aside0.mk (bb_ BK277 hb)
             replace BK289 := Aside0.mk (bb_ BK289 hb)
             replace BK293 := Aside0.mk (bb_ BK293 hb)
             replace BK301 := Aside0.mk (bb_ BK301 hb)
             replace BK323 := Aside0.mk (bb_ BK323 hb)
             replace HB := Aside0.mk (bt_ HB hb)
             (try clear hb)
             (try clear hb2)
             (try clear hk)
             (try clear hi)
             obtain ⟨Ao138, co138, eo138⟩ := Kd.R_slice HO315.out
             (first | subst eo138 | (injection eo138 with f1_ f2_ f3_; have f4_ := f1_.symm; have f5_ := f3_.symm; clear f1_ f2_ f3_; subst f4_; subst f5_))
             refine hK.out _ _ ⟨(blk_cell BK276.out 0).trans rfl, (blk_cell BK277.out 0).trans rfl, (blk_cell BK277.out 1).trans rfl, (blk_cell BK277.out 2).trans rfl⟩ (fun hHeld => ?_)
             clear hK K
             refine nz_ 83 ?_
             refine one_ (i := 4) (N := some 84) ba13_13 rfl rfl (one_of HT_.out (by kernel_rfl)) (by decide) (fun K hK => ?_)
             refine gz_ Try.func17 #[.agg #[.slice Ao138 t313.length co138], .agg #[.int .i64 t316, .int .i64 t317, .int .i64 t318]] ?_
             with_reducible refine (impl_PutRoute.calls kj74 _ _ t313 t316 t317 t318 t319 t322 _ ?side1 ?side2 A124.out).mono ?_
             (case side1 => exact rc_ HO315)
             (case side2 => exact (Kd.R_reads' HO315.out).2.1)
             rintro e w139 ⟨v320, rfl, ho0, hb⟩
             refine ⟨_, rfl, ?_⟩
             have HO321 := Aside0.mk (Kd.R_lower (Kd.R_new' (Kd.R_new' (Kd.R_new' (Kd.R_new' ho0 (Kd.R_lt (hd_ HO_290000))) (Kd.R_lt (hd_ HO_294000))) (Kd.R_lt (hd_ HO_302000))) (Kd.R_lt (hd_ HO315))) (bz_ HB))
             replace HO_290000 := Aside0.mk (Kd.R_elder' (hd_ HO_290000) (Kd.R_base ho0) hb)
             replace HO_294000 := Aside0.mk (Kd.R_elder' (hd_ HO_294000) (Kd.R_base ho0) hb)
             replace HO_302000 := Aside0.mk (Kd.R_elder' (hd_ HO_302000) (Kd.R_base ho0) hb)
             replace HO315 := Aside0.mk (Kd.R_elder' (hd_ HO315) (Kd.R_base ho0) hb)
             replace BK276 := Aside0.mk (bb_ BK276 hb)
             replace BK277 := Aside0.mk (bb_ BK277 hb)
             replace BK289 := Aside0.mk (bb_ BK289 hb)
             replace BK293 := Aside0.mk (bb_ BK293 hb)
             replace BK301 := Aside0.mk (bb_ BK301 hb)
             replace BK323 := Aside0.mk (bb_ BK323 hb)
             replace HB := Aside0.mk (bt_ HB hb)
             (try clear hb)
             (try clear hb2)
             (try clear hk)
             (try clear hi)
             (try clear ho0)
             refine hK.out _ _ ⟨(blk_cell BK276.out 0).trans rfl, (blk_cell BK277.out 0).trans rfl, (blk_cell BK277.out 1).trans rfl, (blk_cell BK277.out 2).trans rfl⟩ (fun hHeld => ?_)
             clear hK K
             refine nz_ 84 ?_
             refine pz_ 5 79 ba13_14 HT_ ?_
             refine pz_ 6 85 ba13_15 HT_ ?_
             refine pz_ 7 86 ba13_3 HT_ ?_
             exact norm_ (by simp only [putAll, Act.put, List.setIfInBounds_toArray, List.set_cons_zero, List.set_cons_succ]) (hCont (.slice Ao138 t313.length co138, v320, gb323) _ ⟨hHeld, (by (with_reducible repeat (first | apply Kd.R_alloc | apply Kd.R_drewN | apply Kd.R_drew)); exact Kd.R_mono HO315.out (fun _ hk => ⟨hk.2, ⟨hk.1.1.1.2, ⟨hk.1.1.2, hk.1.2⟩⟩⟩)), (by (with_reducible repeat (first | apply Kd.R_alloc | apply Kd.R_drewN | apply Kd.R_drew)); exact Kd.R_mono HO321.out (fun _ hk => ⟨hk.2, ⟨hk.1.1.1.2, ⟨hk.1.1.2, hk.1.2⟩⟩⟩)), (by (with_reducible repeat (first | apply Kd.R_alloc | apply Kd.R_drewN | apply Kd.R_drew)); exact Kd.R_mono HO_290000.out (fun _ hk => ⟨hk.1.2, ⟨hk.2, ⟨hk.1.1.1, hk.1.1.2⟩⟩⟩)), (by (with_reducible repeat (first | apply Kd.R_alloc | apply Kd.R_drewN | apply Kd.R_drew)); exact Kd.R_mono HO_294000.out (fun _ hk => ⟨hk.1.2, ⟨hk.2, ⟨hk.1.1.1, hk.1.1.2⟩⟩⟩)), (by (with_reducible repeat (first | apply Kd.R_alloc | apply Kd.R_drewN | apply Kd.R_drew)); exact Kd.R_mono HO_302000.out (fun _ hk => ⟨hk.1.2, ⟨hk.2, ⟨hk.1.1.1, hk.1.1.2⟩⟩⟩)), (by (with_reducible repeat (first | refine blk_drewN ?_ _ | refine blk_drew ?_ | refine blk_alloc ?_ _)); exact BK276.out), (by (with_reducible repeat (first | refine blk_drewN ?_ _ | refine blk_drew ?_ | refine blk_alloc ?_ _)); exact BK277.out), (by (with_reducible repeat (first | refine blk_drewN ?_ _ | refine blk_drew ?_ | refine blk_alloc ?_ _)); exact BK289.out), (by (with_reducible repeat (first | refine blk_drewN ?_ _ | refine blk_drew ?_ | refine blk_alloc ?_ _)); exact BK293.out), (by (with_reducible repeat (first | refine blk_drewN ?_ _ | refine blk_drew ?_ | refine blk_alloc ?_ _)); exact BK301.out), (by (with_reducible repeat (first | refine blk_drewN ?_ _ | refine blk_drew ?_ | refine blk_alloc ?_ _)); exact BK323.out), GW323.out, GE323.out, NB276_323.out, NB323_276.out, NB277_323.out, NB323_277.out, NB289_323.out, NB323_289.out, NB293_323.out, NB323_293.out, NB301_323.out, NB323_301.out, (by repeat (first | (with_reducible first | exact HB.out | apply below_alloc | apply pw_below_drewN | apply below_drew1 | refine below_set ?_ GE276.out | refine below_set ?_ GE277.out | refine below_set ?_ GE289.out | refine below_set ?_ GE293.out | refine below_set ?_ GE301.out | refine below_set ?_ GE323.out) | exact HB.out))⟩)
           rintro ⟨v314, v320, gb323⟩ w140 ⟨hS_, h0_, h1_, h2_, h3_, h4_, h5_, h6_, h7_, h8_, h9_, h10_, h11_, h12_, h13_, h14_, h15_, h16_, h17_, h18_, h19_, h20_, h21_, h22_, h23_⟩
           have HO315 : Aside0 (Kd.R k43 43 w140 w.heap.size (fun k_ => some k_ ≠ (v320 : Value).ownBlock ∧ some k_ ≠ (.slice Ao29 t285.length co29 : Value).ownBlock ∧ some k_ ≠ (.slice Ao35 t308.length co35 : Value).ownBlock ∧ some k_ ≠ (.slice Ao46 t297.length co46 : Value).ownBlock) v314 t313) := ⟨h0_⟩
           have HO321 : Aside0 (Kd.R k43 43 w140 w.heap.size (fun k_ => some k_ ≠ (v314 : Value).ownBlock ∧ some k_ ≠ (.slice Ao29 t285.length co29 : Value).ownBlock ∧ some k_ ≠ (.slice Ao35 t308.length co35 : Value).ownBlock ∧ some k_ ≠ (.slice Ao46 t297.length co46 : Value).ownBlock) v320 t319) := ⟨h1_⟩
           have BK323 : Aside0 (w140.heap[gb323]? = some (.cells #[.slice none 0 0] 30 (0, 0))) := ⟨h10_⟩
           have GW323 : Aside0 (w.heap.size ≤ gb323) := ⟨h11_⟩
           have GE323 : Aside0 (w.heap.size ≤ gb323) := ⟨h12_⟩
           have NB276_323 : Aside0 (gb276 ≠ gb323) := ⟨h13_⟩
           have NB323_276 : Aside0 (gb323 ≠ gb276) := ⟨h14_⟩
           have NB277_323 : Aside0 (gb277 ≠ gb323) := ⟨h15_⟩
           have NB323_277 : Aside0 (gb323 ≠ gb277) := ⟨h16_⟩
           have NB289_323 : Aside0 (gb289 ≠ gb323) := ⟨h17_⟩
           have NB323_289 : Aside0 (gb323 ≠ gb289) := ⟨h18_⟩
           have NB293_323 : Aside0 (gb293 ≠ gb323) := ⟨h19_⟩
           have NB323_293 : Aside0 (gb323 ≠ gb293) := ⟨h20_⟩
           have NB301_323 : Aside0 (gb301 ≠ gb323) := ⟨h21_⟩
           have NB323_301 : Aside0 (gb323 ≠ gb301) := ⟨h22_⟩
           replace HO_290000 : Aside0 (Kd.R k43 43 w140 w.heap.size (fun k_ => some k_ ≠ (v314 : Value).ownBlock ∧ some k_ ≠ (v320 : Value).ownBlock ∧ some k_ ≠ (.slice Ao35 t308.length co35 : Value).ownBlock ∧ some k_ ≠ (.slice Ao46 t297.length co46 : Value).ownBlock) (.slice Ao29 t285.length co29) t285) := ⟨h2_⟩
           replace HO_294000 : Aside0 (Kd.R k43 43 w140 w.heap.size (fun k_ => some k_ ≠ (v314 : Value).ownBlock ∧ some k_ ≠ (v320 : Value).ownBlock ∧ some k_ ≠ (.slice Ao29 t285.length co29 : Value).ownBlock ∧ some k_ ≠ (.slice Ao46 t297.length co46 : Value).ownBlock) (.slice Ao35 t308.length co35) t308) := ⟨h3_⟩
           replace HO_302000 : Aside0 (Kd.R k43 43 w140 w.heap.size (fun k_ => some k_ ≠ (v314 : Value).ownBlock ∧ some k_ ≠ (v320 : Value).ownBlock ∧ some k_ ≠ (.slice Ao29 t285.length co29 : Value).ownBlock ∧ some k_ ≠ (.slice Ao35 t308.length co35 : Value).ownBlock) (.slice Ao46 t297.length co46) t311) := ⟨h4_⟩
           replace BK276 : Aside0 (w140.heap[gb276]? = some (.cells #[.slice A0_0 l0_0.length c0_0] 24 (0, 0))) := ⟨h5_⟩
           replace BK277 : Aside0 (w140.heap[gb277]? = some (.cells #[.int .i64 a1_0, .int .i64 a1_1, .int .i64 a1_2] 40 (0, 0))) := ⟨h6_⟩
           replace BK289 : Aside0 (w140.heap[gb289]? = some (.cells #[.slice Ao29 t285.length co29] 30 (0, 0))) := ⟨h7_⟩
           replace BK293 : Aside0 (w140.heap[gb293]? = some (.cells #[.slice Ao35 t308.length co35] 30 (0, 0))) := ⟨h8_⟩
           replace BK301 : Aside0 (w140.heap[gb301]? = some (.cells #[.slice Ao46 t297.length co46] 30 (0, 0))) := ⟨h9_⟩
           replace HB : Aside0 (Below w.heap.size w w140) := ⟨h23_⟩
           clear h0_ h1_ h2_ h3_ h4_ h5_ h6_ h7_ h8_ h9_ h10_ h11_ h12_ h13_ h14_ h15_ h16_ h17_ h18_ h19_ h20_ h21_ h22_ h23_
           have hHeld : w140.cell? ⟨gb276, 0, none⟩ = some (.slice A0_0 l0_0.length c0_0) ∧ w140.cell? ⟨gb277, 0, none⟩ = some (.int .i64 a1_0) ∧ w140.cell? ⟨gb277, 1, none⟩ = some (.int .i64 a1_1) ∧ w140.cell? ⟨gb277, 2, none⟩ = some (.int .i64 a1_2) := hS_
           obtain ⟨Ao141, co141, eo141⟩ := Kd.R_slice HO321.out
           (first | subst eo141 | (injection eo141 with f1_ f2_ f3_; have f4_ := f1_.symm; have f5_ := f3_.symm; clear f1_ f2_ f3_; subst f4_; subst f5_))
           refine norm_ (a' := ?_) ?_ ?_
           rotate_left; · simp only [putAll, Act.put, List.setIfInBounds_toArray, List.set_cons_zero, List.set_cons_succ]; rfl
           refine one_ (i := 9) (N := none) ba13_16 rfl rfl (one_of HT_.out (by kernel_rfl)) (by decide) (fun K hK => ?_)
           have hs142 : w140.cell? ⟨gb323, 0, none⟩ = some (.slice none 0 0) := (blk_cell BK323.out 0).trans rfl
           have hfs142 := blk_frozen BK323.out 0
           have hns142_0 := NB276_323.out
           have hns142_1 := NB277_323.out
           have hns142_2 := NB289_323.out
           have hns142_3 := NB293_323.out
           have hns142_4 := NB301_323.out
           have hms142_0 := NB323_276.out
           have hms142_1 := NB323_277.out
           have hms142_2 := NB323_289.out
           have hms142_3 := NB323_293.out
           have hms142_4 := NB323_301.out
           refine skip_ (w1 := ?_) (by rfl) rfl ?_ ?_
           rotate_left; · go_simp; rfl
           refine hK.out _ _ ⟨((cell_far (p := ⟨gb323, _, none⟩) NB276_323.out _).trans (hHeld.1)), ((cell_far (p := ⟨gb323, _, none⟩) NB277_323.out _).trans (hHeld.2.1)), ((cell_far (p := ⟨gb323, _, none⟩) NB277_323.out _).trans (hHeld.2.2.1)), ((cell_far (p := ⟨gb323, _, none⟩) NB277_323.out _).trans (hHeld.2.2.2))⟩ (fun hHeld => ?_)
           clear hK K
           refine pz_ 10 15 ba13_17 HT_ ?_
           refine done_ (done_of HT_.out (by kernel_rfl)) ?_
           go_upto_region 25 with (fail)
           go_cut [95] (fun v95 wc => ∃ (kq : Nat) (x95_124 : Bool), v95 = .bool x95_124 ∧ Aside0 (laws_FnExactPutRoute.j2 kq t310 x95_124 t311 = some r) ∧ Aside0 (kq ≤ kj74) ∧ Aside0 (Kd.R k43 43 wc w.heap.size (fun k_ => some k_ ≠ ((.slice Ao35 t308.length co35) : Value).ownBlock ∧ some k_ ≠ ((.slice Ao46 t297.length co46) : Value).ownBlock ∧ some k_ ≠ ((.slice Ao141 t319.length co141) : Value).ownBlock) (.slice Ao29 t285.length co29) t285) ∧ Aside0 (Kd.R k43 43 wc w.heap.size (fun k_ => some k_ ≠ ((.slice Ao29 t285.length co29) : Value).ownBlock ∧ some k_ ≠ ((.slice Ao46 t297.length co46) : Value).ownBlock ∧ some k_ ≠ ((.slice Ao141 t319.length co141) : Value).ownBlock) (.slice Ao35 t308.length co35) t308) ∧ Aside0 (Kd.R k43 43 wc w.heap.size (fun k_ => some k_ ≠ ((.slice Ao29 t285.length co29) : Value).ownBlock ∧ some k_ ≠ ((.slice Ao35 t308.length co35) : Value).ownBlock ∧ some k_ ≠ ((.slice Ao141 t319.length co141) : Value).ownBlock) (.slice Ao46 t297.length co46) t311) ∧ Aside0 (Kd.R k43 43 wc w.heap.size (fun k_ => some k_ ≠ ((.slice Ao29 t285.length co29) : Value).ownBlock ∧ some k_ ≠ ((.slice Ao35 t308.length co35) : Value).ownBlock ∧ some k_ ≠ ((.slice Ao46 t297.length co46) : Value).ownBlock) (.slice Ao141 t319.length co141) t319) ∧ Aside0 (wc.heap[gb276]? = some (.cells #[(.slice A0_0 l0_0.length c0_0)] 24 (0, 0))) ∧ Aside0 (wc.heap[gb277]? = some (.cells #[.int .i64 a1_0, .int .i64 a1_1, .int .i64 a1_2] 40 (0, 0))) ∧ Aside0 (wc.heap[gb289]? = some (.cells #[(.slice Ao29 t285.length co29)] 30 (0, 0))) ∧ Aside0 (wc.heap[gb293]? = some (.cells #[(.slice Ao35 t308.length co35)] 30 (0, 0))) ∧ Aside0 (wc.heap[gb301]? = some (.cells #[(.slice Ao46 t297.length co46)] 30 (0, 0))) ∧ Aside0 (wc.heap[gb323]? = some (.cells #[(.slice Ao141 t319.length co141)] 30 (0, 0))) ∧ Aside0 (Below w.heap.size w wc))
           case first =>
            have H := HC125.out
            clear HC125
            replace H := Option.bind_eq_some_iff.mp H
            obtain ⟨t324, A1430, H⟩ := H
            have A143 := Aside0.mk A1430
            clear A1430
            by_cases c144 : t324 = true
            ·subst c144
             rw [if_pos rfl] at H
             have H' := Aside0.mk H
             clear H
             have hnb145 := NB323_276.out
             have hnc145 := NB276_323.out
             have hnb146 := NB323_277.out
             have hnc146 := NB277_323.out
             have hnb147 := NB323_289.out
             have hnc147 := NB289_323.out
             have hnb148 := NB323_293.out
             have hnc148 := NB293_323.out
             have hnb149 := NB323_301.out
             have hnc149 := NB301_323.out
             have hcz150_0 := cz_ BK323 0 (.slice none 0 0)
             have hfz150_0 := blk_frozen BK323.out 0
             have hnb151 := NB289_276.out
             have hnc151 := NB276_289.out
             have hnb152 := NB289_277.out
             have hnc152 := NB277_289.out
             have hnb153 := NB289_293.out
             have hnc153 := NB293_289.out
             have hnb154 := NB289_301.out
             have hnc154 := NB301_289.out
             have hcz155_0 := cz_ BK289 0 (.slice Ao29 t285.length co29)
             have hfz155_0 := blk_frozen BK289.out 0
             go_wp2_with (first | ((with_reducible refine gate_callee (f := 12) rfl ?_); refine gl_ (some 89) Try.func12 #[.agg #[.slice Ao141 t319.length co141], .agg #[.slice Ao29 t285.length co29]] ?_; (with_reducible refine (laws_eqTable.calls kj74 _ _ t319 _ _ t285 true _ ?side1 ?side2 ?side3 ?side4 A143.out).mono ?_); (case side1 => refine (Kd.R_reads' (e := 43) (base := w.heap.size) (ok := fun k_ => (some k_ ≠ (v314 : Value).ownBlock ∧ (some k_ ≠ (.slice Ao29 t285.length co29 : Value).ownBlock ∧ (some k_ ≠ (.slice Ao35 t308.length co35 : Value).ownBlock ∧ some k_ ≠ (.slice Ao46 t297.length co46 : Value).ownBlock)))) (n := t319.length) (c := co141) ?_).2.2; exact (hs_ HO321 BK323)); (case side2 => exact (Kd.R_reads' HO321.out).2.1); (case side3 => refine (Kd.R_reads' (e := 43) (base := w.heap.size) (ok := fun k_ => (some k_ ≠ (v314 : Value).ownBlock ∧ (some k_ ≠ (.slice Ao141 t319.length co141 : Value).ownBlock ∧ (some k_ ≠ (.slice Ao35 t308.length co35 : Value).ownBlock ∧ some k_ ≠ (.slice Ao46 t297.length co46 : Value).ownBlock)))) (n := t285.length) (c := co29) ?_).2.2; exact (hs_ HO_290000 BK323)); (case side4 => exact (Kd.R_reads' HO_290000.out).2.1); rintro e w156 ⟨rfl, hb⟩; refine ⟨_, rfl, ?_⟩; replace HO_290000 := rs_ HO_290000 BK323 hb; replace HO_294000 := rs_ HO_294000 BK323 hb; replace HO_302000 := rs_ HO_302000 BK323 hb; replace HO315 := rs_ HO315 BK323 hb; replace HO321 := rs_ HO321 BK323 hb; replace BK276 := bf_ BK276 NB276_323 hb; replace BK277 := bf_ BK277 NB277_323 hb; replace BK289 := bf_ BK289 NB289_323 hb; replace BK293 := bf_ BK293 NB293_323 hb; replace BK301 := bf_ BK301 NB301_323 hb; replace BK323 := Aside0.mk (blk_below (g := gb323) (o := .cells #[.slice Ao141 t319.length co141] 30 (0, 0)) (by (with_reducible repeat (first | refine blk_drewN ?_ _ | refine blk_drew ?_ | refine blk_alloc ?_ _)); refine blk_put (cs := #[.slice none 0 0]) ?_ 0 _ rfl; (with_reducible repeat (first | refine blk_drewN ?_ _ | refine blk_drew ?_ | refine blk_alloc ?_ _)); exact BK323.out) hb); replace HB := Aside0.mk (bt_ HB hb); (try clear hb); (try clear hb2); (try clear hk); (try clear hi)))
             go_meet
             case rel => exact ⟨_, ((t322 != t288)), (by first | rfl | (simp; done) | (simp [*]; done)), H', ⟨by have := HJ15.out; have := HJ74.out; first | omega | exact Nat.le_refl _⟩, ⟨by (try simp only [hl294000_74]); (with_reducible repeat (first | apply Kd.R_alloc | apply Kd.R_drewN | apply Kd.R_drew)); exact Kd.R_mono HO_290000.out (fun _ hk => ⟨hk.2.2.1, ⟨hk.2.2.2, hk.2.1⟩⟩)⟩, ⟨by (try simp only [hl294000_74]); (with_reducible repeat (first | apply Kd.R_alloc | apply Kd.R_drewN | apply Kd.R_drew)); exact Kd.R_mono HO_294000.out (fun _ hk => ⟨hk.2.2.1, ⟨hk.2.2.2, hk.2.1⟩⟩)⟩, ⟨by (try simp only [hl294000_74]); (with_reducible repeat (first | apply Kd.R_alloc | apply Kd.R_drewN | apply Kd.R_drew)); exact Kd.R_mono HO_302000.out (fun _ hk => ⟨hk.2.2.1, ⟨hk.2.2.2, hk.2.1⟩⟩)⟩, ⟨by (try simp only [hl294000_74]); (with_reducible repeat (first | apply Kd.R_alloc | apply Kd.R_drewN | apply Kd.R_drew)); exact Kd.R_mono HO321.out (fun _ hk => ⟨hk.2.1, ⟨hk.2.2.1, hk.2.2.2⟩⟩)⟩, ⟨by (try simp only [hl294000_74]); (with_reducible repeat (first | refine blk_drewN ?_ _ | refine blk_drew ?_ | refine blk_alloc ?_ _)); exact BK276.out⟩, ⟨by (try simp only [hl294000_74]); (with_reducible repeat (first | refine blk_drewN ?_ _ | refine blk_drew ?_ | refine blk_alloc ?_ _)); exact BK277.out⟩, ⟨by (try simp only [hl294000_74]); (with_reducible repeat (first | refine blk_drewN ?_ _ | refine blk_drew ?_ | refine blk_alloc ?_ _)); exact BK289.out⟩, ⟨by (try simp only [hl294000_74]); (with_reducible repeat (first | refine blk_drewN ?_ _ | refine blk_drew ?_ | refine blk_alloc ?_ _)); exact BK293.out⟩, ⟨by (try simp only [hl294000_74]); (with_reducible repeat (first | refine blk_drewN ?_ _ | refine blk_drew ?_ | refine blk_alloc ?_ _)); exact BK301.out⟩, ⟨by (try simp only [hl294000_74]); (with_reducible repeat (first | refine blk_drewN ?_ _ | refine blk_drew ?_ | refine blk_alloc ?_ _)); exact BK323.out⟩, ⟨by repeat (first | (with_reducible first | exact HB.out | apply below_alloc | apply pw_below_drewN | apply below_drew1 | refine below_set ?_ GE276.out | refine below_set ?_ GE277.out | refine below_set ?_ GE289.out | refine below_set ?_ GE293.out | refine below_set ?_ GE301.out | refine below_set ?_ GE323.out) | exact HB.out)⟩⟩
            ·replace c144 := Bool.eq_false_iff.mpr c144
             subst c144
             rw [if_neg (show ¬ (false = true) by decide)] at H
             have H' := Aside0.mk H
             clear H
             have hnb157 := NB323_276.out
             have hnc157 := NB276_323.out
             have hnb158 := NB323_277.out
             have hnc158 := NB277_323.out
             have hnb159 := NB323_289.out
             have hnc159 := NB289_323.out
             have hnb160 := NB323_293.out
             have hnc160 := NB293_323.out
             have hnb161 := NB323_301.out
             have hnc161 := NB301_323.out
             have hcz162_0 := cz_ BK323 0 (.slice none 0 0)
             have hfz162_0 := blk_frozen BK323.out 0
             have hnb163 := NB289_276.out
             have hnc163 := NB276_289.out
             have hnb164 := NB289_277.out
             have hnc164 := NB277_289.out
             have hnb165 := NB289_293.out
             have hnc165 := NB293_289.out
             have hnb166 := NB289_301.out
             have hnc166 := NB301_289.out
             have hcz167_0 := cz_ BK289 0 (.slice Ao29 t285.length co29)
             have hfz167_0 := blk_frozen BK289.out 0
             go_wp2_with (first | ((with_reducible refine gate_callee (f := 12) rfl ?_); refine gl_ (some 89) Try.func12 #[.agg #[.slice Ao141 t319.length co141], .agg #[.slice Ao29 t285.length co29]] ?_; (with_reducible refine (laws_eqTable.calls kj74 _ _ t319 _ _ t285 false _ ?side1 ?side2 ?side3 ?side4 A143.out).mono ?_); (case side1 => refine (Kd.R_reads' (e := 43) (base := w.heap.size) (ok := fun k_ => (some k_ ≠ (v314 : Value).ownBlock ∧ (some k_ ≠ (.slice Ao29 t285.length co29 : Value).ownBlock ∧ (some k_ ≠ (.slice Ao35 t308.length co35 : Value).ownBlock ∧ some k_ ≠ (.slice Ao46 t297.length co46 : Value).ownBlock)))) (n := t319.length) (c := co141) ?_).2.2; exact (hs_ HO321 BK323)); (case side2 => exact (Kd.R_reads' HO321.out).2.1); (case side3 => refine (Kd.R_reads' (e := 43) (base := w.heap.size) (ok := fun k_ => (some k_ ≠ (v314 : Value).ownBlock ∧ (some k_ ≠ (.slice Ao141 t319.length co141 : Value).ownBlock ∧ (some k_ ≠ (.slice Ao35 t308.length co35 : Value).ownBlock ∧ some k_ ≠ (.slice Ao46 t297.length co46 : Value).ownBlock)))) (n := t285.length) (c := co29) ?_).2.2; exact (hs_ HO_290000 BK323)); (case side4 => exact (Kd.R_reads' HO_290000.out).2.1); rintro e w168 ⟨rfl, hb⟩; refine ⟨_, rfl, ?_⟩; replace HO_290000 := rs_ HO_290000 BK323 hb; replace HO_294000 := rs_ HO_294000 BK323 hb; replace HO_302000 := rs_ HO_302000 BK323 hb; replace HO315 := rs_ HO315 BK323 hb; replace HO321 := rs_ HO321 BK323 hb; replace BK276 := bf_ BK276 NB276_323 hb; replace BK277 := bf_ BK277 NB277_323 hb; replace BK289 := bf_ BK289 NB289_323 hb; replace BK293 := bf_ BK293 NB293_323 hb; replace BK301 := bf_ BK301 NB301_323 hb; replace BK323 := Aside0.mk (blk_below (g := gb323) (o := .cells #[.slice Ao141 t319.length co141] 30 (0, 0)) (by (with_reducible repeat (first | refine blk_drewN ?_ _ | refine blk_drew ?_ | refine blk_alloc ?_ _)); refine blk_put (cs := #[.slice none 0 0]) ?_ 0 _ rfl; (with_reducible repeat (first | refine blk_drewN ?_ _ | refine blk_drew ?_ | refine blk_alloc ?_ _)); exact BK323.out) hb); replace HB := Aside0.mk (bt_ HB hb); (try clear hb); (try clear hb2); (try clear hk); (try clear hi)))
             go_meet
             case rel => exact ⟨_, (true), (by first | rfl | (simp; done) | (simp [*]; done)), H', ⟨by have := HJ15.out; have := HJ74.out; first | omega | exact Nat.le_refl _⟩, ⟨by (try simp only [hl294000_74]); (with_reducible repeat (first | apply Kd.R_alloc | apply Kd.R_drewN | apply Kd.R_drew)); exact Kd.R_mono HO_290000.out (fun _ hk => ⟨hk.2.2.1, ⟨hk.2.2.2, hk.2.1⟩⟩)⟩, ⟨by (try simp only [hl294000_74]); (with_reducible repeat (first | apply Kd.R_alloc | apply Kd.R_drewN | apply Kd.R_drew)); exact Kd.R_mono HO_294000.out (fun _ hk => ⟨hk.2.2.1, ⟨hk.2.2.2, hk.2.1⟩⟩)⟩, ⟨by (try simp only [hl294000_74]); (with_reducible repeat (first | apply Kd.R_alloc | apply Kd.R_drewN | apply Kd.R_drew)); exact Kd.R_mono HO_302000.out (fun _ hk => ⟨hk.2.2.1, ⟨hk.2.2.2, hk.2.1⟩⟩)⟩, ⟨by (try simp only [hl294000_74]); (with_reducible repeat (first | apply Kd.R_alloc | apply Kd.R_drewN | apply Kd.R_drew)); exact Kd.R_mono HO321.out (fun _ hk => ⟨hk.2.1, ⟨hk.2.2.1, hk.2.2.2⟩⟩)⟩, ⟨by (try simp only [hl294000_74]); (with_reducible repeat (first | refine blk_drewN ?_ _ | refine blk_drew ?_ | refine blk_alloc ?_ _)); exact BK276.out⟩, ⟨by (try simp only [hl294000_74]); (with_reducible repeat (first | refine blk_drewN ?_ _ | refine blk_drew ?_ | refine blk_alloc ?_ _)); exact BK277.out⟩, ⟨by (try simp only [hl294000_74]); (with_reducible repeat (first | refine blk_drewN ?_ _ | refine blk_drew ?_ | refine blk_alloc ?_ _)); exact BK289.out⟩, ⟨by (try simp only [hl294000_74]); (with_reducible repeat (first | refine blk_drewN ?_ _ | refine blk_drew ?_ | refine blk_alloc ?_ _)); exact BK293.out⟩, ⟨by (try simp only [hl294000_74]); (with_reducible repeat (first | refine blk_drewN ?_ _ | refine blk_drew ?_ | refine blk_alloc ?_ _)); exact BK301.out⟩, ⟨by (try simp only [hl294000_74]); (with_reducible repeat (first | refine blk_drewN ?_ _ | refine blk_drew ?_ | refine blk_alloc ?_ _)); exact BK323.out⟩, ⟨by repeat (first | (with_reducible first | exact HB.out | apply below_alloc | apply pw_below_drewN | apply below_drew1 | refine below_set ?_ GE276.out | refine below_set ?_ GE277.out | refine below_set ?_ GE289.out | refine below_set ?_ GE293.out | refine below_set ?_ GE301.out | refine below_set ?_ GE323.out) | exact HB.out)⟩⟩
           case rest =>
            clear HC125
            try clear c1
            try clear p2
            try clear c9
            try clear c12
            try clear c14
            try clear c15
            try clear c16
            try clear c17
            try clear c144
            try clear c145
            try clear c146
            try clear c147
            try clear c148
            try clear c149
            try clear c151
            try clear c152
            try clear c153
            try clear c154
            try clear c157
            try clear c158
            try clear c159
            try clear c160
            try clear c161
            try clear c163
            try clear c164
            try clear c165
            try clear c166
            try clear hcz150_0
            try clear hcz155_0
            try clear hcz162_0
            try clear hcz167_0
            try clear hfz150_0
            try clear hfz155_0
            try clear hfz162_0
            try clear hfz167_0
            obtain ⟨kq, x95_124, rfl, HA, HJ124, HO_290000, HO_294000, HO_302000, HO_324000, BK276, BK277, BK289, BK293, BK301, BK323, HB⟩ := hcut
            have hl302000_124 := (Kd.R_reads' HO_302000.out).1
            rw [hl302000_124] at HO_302000
            (try simp only [hl302000_124])
            (try simp only [hl302000_124] at BK276)
            (try simp only [hl302000_124] at BK277)
            (try simp only [hl302000_124] at BK289)
            (try simp only [hl302000_124] at BK293)
            (try simp only [hl302000_124] at BK301)
            (try simp only [hl302000_124] at BK323)
            (try simp only [hl302000_124] at HO_290000)
            (try simp only [hl302000_124] at HO_294000)
            (try simp only [hl302000_124] at HO_324000)
            cases kq with
            | zero => exact absurd HA.out (by simp [laws_FnExactPutRoute.j2])
            | succ kj124 =>
             have H := HA.out
             clear HA
             simp only [laws_FnExactPutRoute.j2] at H
             by_cases c169 : x95_124 = true
             ·subst c169
              rw [if_pos rfl] at H
              obtain rfl := Option.some.inj H
              go_wp2
              go_ret
              exact ⟨by first | rfl | (simp [errW_none, errW_some] <;> rfl) | (simp [*, errW_none, errW_some] <;> rfl), by repeat (first | (with_reducible first | exact HB.out | apply below_alloc | apply pw_below_drewN | apply below_drew1 | refine below_set ?_ GE276.out | refine below_set ?_ GE277.out | refine below_set ?_ GE289.out | refine below_set ?_ GE293.out | refine below_set ?_ GE301.out | refine below_set ?_ GE323.out) | exact HB.out)⟩
             ·replace c169 := Bool.eq_false_iff.mpr c169
              subst c169
              rw [if_neg (show ¬ (false = true) by decide)] at H
              replace H := Option.bind_eq_some_iff.mp H
              obtain ⟨t325, A1700, H⟩ := H
              have A170 := Aside0.mk A1700
              clear A1700
              by_cases c171 : t325 < 0
              ·rw [if_pos c171] at H
               have c171b0 : decide (t325 < 0) = true := decide_eq_true c171
               clear c171
               obtain rfl := Option.some.inj H
               have hnb172 := NB301_276.out
               have hnc172 := NB276_301.out
               have hnb173 := NB301_277.out
               have hnc173 := NB277_301.out
               have hnb174 := NB301_289.out
               have hnc174 := NB289_301.out
               have hnb175 := NB301_293.out
               have hnc175 := NB293_301.out
               have hnb176 := NB301_323.out
               have hnc176 := NB323_301.out
               have hcz177_0 := cz_ BK301 0 (.slice Ao46 t311.length co46)
               have hfz177_0 := blk_frozen BK301.out 0
               go_wp2_with (first | ((with_reducible refine gate_callee (f := 14) rfl ?_); refine gl_ (some 98) Try.func14 #[.agg #[.slice Ao46 t311.length co46], .int .i64 1] ?_; (with_reducible refine (laws_heldTable.calls kj124 _ _ t311 1 t325 _ ?side1 ?side2 A170.out).mono ?_); (case side1 => exact rc_ HO_302000); (case side2 => exact (Kd.R_reads' HO_302000.out).2.1); rintro e w178 ⟨rfl, hb⟩; refine ⟨_, rfl, ?_⟩; replace HO_290000 := rb_ HO_290000 hb; replace HO_294000 := rb_ HO_294000 hb; replace HO_302000 := rb_ HO_302000 hb; replace HO_324000 := rb_ HO_324000 hb; replace BK276 := Aside0.mk (bb_ BK276 hb); replace BK277 := Aside0.mk (bb_ BK277 hb); replace BK289 := Aside0.mk (bb_ BK289 hb); replace BK293 := Aside0.mk (bb_ BK293 hb); replace BK301 := Aside0.mk (bb_ BK301 hb); replace BK323 := Aside0.mk (bb_ BK323 hb); replace HB := Aside0.mk (bt_ HB hb); (try clear hb); (try clear hb2); (try clear hk); (try clear hi)))
               go_ret
               exact ⟨by first | rfl | (simp [errW_none, errW_some] <;> rfl) | (simp [*, errW_none, errW_some] <;> rfl), by repeat (first | (with_reducible first | exact HB.out | apply below_alloc | apply pw_below_drewN | apply below_drew1 | refine below_set ?_ GE276.out | refine below_set ?_ GE277.out | refine below_set ?_ GE289.out | refine below_set ?_ GE293.out | refine below_set ?_ GE301.out | refine below_set ?_ GE323.out) | exact HB.out)⟩
              ·rw [if_neg c171] at H
               have c171b0 : decide (t325 < 0) = false := decide_eq_false c171
               clear c171
               by_cases c179 : t325 = t310
               ·rw [if_pos c179] at H
                have c179b0 : (t325 == t310) = true := beq_iff_eq.mpr c179
                have c179b1 : (t325 != t310) = false := bne_eq_false_iff_eq.mpr c179
                clear c179
                obtain rfl := Option.some.inj H
                have hnb180 := NB301_276.out
                have hnc180 := NB276_301.out
                have hnb181 := NB301_277.out
                have hnc181 := NB277_301.out
                have hnb182 := NB301_289.out
                have hnc182 := NB289_301.out
                have hnb183 := NB301_293.out
                have hnc183 := NB293_301.out
                have hnb184 := NB301_323.out
                have hnc184 := NB323_301.out
                have hcz185_0 := cz_ BK301 0 (.slice Ao46 t311.length co46)
                have hfz185_0 := blk_frozen BK301.out 0
                go_wp2_with (first | ((with_reducible refine gate_callee (f := 14) rfl ?_); refine gl_ (some 98) Try.func14 #[.agg #[.slice Ao46 t311.length co46], .int .i64 1] ?_; (with_reducible refine (laws_heldTable.calls kj124 _ _ t311 1 t325 _ ?side1 ?side2 A170.out).mono ?_); (case side1 => exact rc_ HO_302000); (case side2 => exact (Kd.R_reads' HO_302000.out).2.1); rintro e w186 ⟨rfl, hb⟩; refine ⟨_, rfl, ?_⟩; replace HO_290000 := rb_ HO_290000 hb; replace HO_294000 := rb_ HO_294000 hb; replace HO_302000 := rb_ HO_302000 hb; replace HO_324000 := rb_ HO_324000 hb; replace BK276 := Aside0.mk (bb_ BK276 hb); replace BK277 := Aside0.mk (bb_ BK277 hb); replace BK289 := Aside0.mk (bb_ BK289 hb); replace BK293 := Aside0.mk (bb_ BK293 hb); replace BK301 := Aside0.mk (bb_ BK301 hb); replace BK323 := Aside0.mk (bb_ BK323 hb); replace HB := Aside0.mk (bt_ HB hb); (try clear hb); (try clear hb2); (try clear hk); (try clear hi)))
                go_ret
                exact ⟨by first | rfl | (simp [errW_none, errW_some] <;> rfl) | (simp [*, errW_none, errW_some] <;> rfl), by repeat (first | (with_reducible first | exact HB.out | apply below_alloc | apply pw_below_drewN | apply below_drew1 | refine below_set ?_ GE276.out | refine below_set ?_ GE277.out | refine below_set ?_ GE289.out | refine below_set ?_ GE293.out | refine below_set ?_ GE301.out | refine below_set ?_ GE323.out) | exact HB.out)⟩
               ·rw [if_neg c179] at H
                have c179b0 : (t325 == t310) = false := beq_eq_false_iff_ne.mpr c179
                have c179b1 : (t325 != t310) = true := bne_iff_ne.mpr c179
                obtain rfl := Option.some.inj H
                have hnb187 := NB301_276.out
                have hnc187 := NB276_301.out
                have hnb188 := NB301_277.out
                have hnc188 := NB277_301.out
                have hnb189 := NB301_289.out
                have hnc189 := NB289_301.out
                have hnb190 := NB301_293.out
                have hnc190 := NB293_301.out
                have hnb191 := NB301_323.out
                have hnc191 := NB323_301.out
                have hcz192_0 := cz_ BK301 0 (.slice Ao46 t311.length co46)
                have hfz192_0 := blk_frozen BK301.out 0
                go_wp2_with (first | ((with_reducible refine gate_callee (f := 14) rfl ?_); refine gl_ (some 98) Try.func14 #[.agg #[.slice Ao46 t311.length co46], .int .i64 1] ?_; (with_reducible refine (laws_heldTable.calls kj124 _ _ t311 1 t325 _ ?side1 ?side2 A170.out).mono ?_); (case side1 => exact rc_ HO_302000); (case side2 => exact (Kd.R_reads' HO_302000.out).2.1); rintro e w193 ⟨rfl, hb⟩; refine ⟨_, rfl, ?_⟩; replace HO_290000 := rb_ HO_290000 hb; replace HO_294000 := rb_ HO_294000 hb; replace HO_302000 := rb_ HO_302000 hb; replace HO_324000 := rb_ HO_324000 hb; replace BK276 := Aside0.mk (bb_ BK276 hb); replace BK277 := Aside0.mk (bb_ BK277 hb); replace BK289 := Aside0.mk (bb_ BK289 hb); replace BK293 := Aside0.mk (bb_ BK293 hb); replace BK301 := Aside0.mk (bb_ BK301 hb); replace BK323 := Aside0.mk (bb_ BK323 hb); replace HB := Aside0.mk (bt_ HB hb); (try clear hb); (try clear hb2); (try clear hk); (try clear hi)))
                go_ret
                exact ⟨by first | rfl | (simp [errW_none, errW_some] <;> rfl) | (simp [*, errW_none, errW_some] <;> rfl), by repeat (first | (with_reducible first | exact HB.out | apply below_alloc | apply pw_below_drewN | apply below_drew1 | refine below_set ?_ GE276.out | refine below_set ?_ GE277.out | refine below_set ?_ GE289.out | refine below_set ?_ GE293.out | refine below_set ?_ GE301.out | refine below_set ?_ GE323.out) | exact HB.out)⟩
          ·rw [if_neg c121] at H
           have c121b0 : (t312 == t310) = false := beq_eq_false_iff_ne.mpr c121
           have c121b1 : (t312 != t310) = true := bne_iff_ne.mpr c121
           obtain rfl := Option.some.inj H
           have hnb194 := NB301_276.out
           have hnc194 := NB276_301.out
           have hnb195 := NB301_277.out
           have hnc195 := NB277_301.out
           have hnb196 := NB301_289.out
           have hnc196 := NB289_301.out
           have hnb197 := NB301_293.out
           have hnc197 := NB293_301.out
           have hcz198_0 := cz_ BK301 0 (.slice Ao46 t297.length co46)
           have hfz198_0 := blk_frozen BK301.out 0
           go_wp2_with (first | ((with_reducible refine gate_callee (f := 13) rfl ?_); refine gl_ (some 70) Try.func13 #[.agg #[.slice Ao46 t297.length co46], .int .i64 1] ?_; (with_reducible refine (laws_markTable.calls kj74 (fun k_ => some k_ = (.slice Ao46 t297.length co46 : Value).ownBlock) (.slice Ao46 t297.length co46) t297 1 t310 t311 w _ ?side1 ?side2 A110.out).mono ?_); (case side1 => exact by_ HB); (case side2 => exact Kd.R_tight rfl HO_302000.out); rintro e w199 ⟨rfl, hy0, hb, hkp⟩; refine ⟨_, rfl, ?_⟩; replace HO_290000 := kp_ (fun k_ => some k_ ≠ (.slice Ao35 t308.length co35 : Value).ownBlock ∧ some k_ ≠ (.slice Ao46 t297.length co46 : Value).ownBlock) (HO_290000.out) hkp; replace HO_294000 := kp_ (fun k_ => some k_ ≠ (.slice Ao29 t285.length co29 : Value).ownBlock ∧ some k_ ≠ (.slice Ao46 t297.length co46 : Value).ownBlock) (HO_294000.out) hkp; replace BK276 := bk_ BK276 hkp (fun hs_ => (Kd.R_ne HO_302000.out BK276.out (by decide)) hs_); replace BK277 := bk_ BK277 hkp (fun hs_ => (Kd.R_ne HO_302000.out BK277.out (by decide)) hs_); replace BK289 := bk_ BK289 hkp (fun hs_ => (Kd.R_ne HO_302000.out BK289.out (by decide)) hs_); replace BK293 := bk_ BK293 hkp (fun hs_ => (Kd.R_ne HO_302000.out BK293.out (by decide)) hs_); replace BK301 := bk_ BK301 hkp (fun hs_ => (Kd.R_ne HO_302000.out BK301.out (by decide)) hs_); replace HO_302000 := Aside0.mk (Kd.R_reok rfl hy0 (fun k_ e_ => HO_302000.out.1 k_ e_)); replace HB := Aside0.mk (hb); (try clear hb); (try clear hkp); (try clear hy0); have hcz200_0 := cz_ BK301 0 (.slice Ao46 t297.length co46); have hfz200_0 := blk_frozen BK301.out 0) | ((with_reducible refine gate_callee (f := 14) rfl ?_); refine goesL_ (some 73) rfl rfl Try.func14 (by kernel_rfl) rfl #[.agg #[.slice Ao46 t311.length co46], .int .i64 1] rfl (by (try simp only [List.map_toArray, List.map_cons, List.map_nil]); first | done | (rw [show t311.length = t297.length from (Kd.R_reads' HO_302000.out).1.symm] <;> rfl) | rfl | (simp only [List.length_drop, List.length_take]; rfl)) ?_; (with_reducible refine (laws_heldTable.calls kj74 _ _ t311 1 t312 _ ?side1 ?side2 A111.out).mono ?_); (case side1 => exact rc_ HO_302000); (case side2 => rw [show t311.length = t297.length from (Kd.R_reads' HO_302000.out).1.symm]; exact (Kd.R_reads' HO_302000.out).2.1); rintro e w201 ⟨rfl, hb⟩; refine ⟨_, rfl, ?_⟩; replace HO_290000 := rb_ HO_290000 hb; replace HO_294000 := rb_ HO_294000 hb; replace HO_302000 := rb_ HO_302000 hb; replace BK276 := Aside0.mk (bb_ BK276 hb); replace BK277 := Aside0.mk (bb_ BK277 hb); replace BK289 := Aside0.mk (bb_ BK289 hb); replace BK293 := Aside0.mk (bb_ BK293 hb); replace BK301 := Aside0.mk (bb_ BK301 hb); replace HB := Aside0.mk (bt_ HB hb); (try clear hb); (try clear hb2); (try clear hk); (try clear hi)))
           go_ret
           exact ⟨by first | rfl | (simp [errW_none, errW_some] <;> rfl) | (simp [*, errW_none, errW_some] <;> rfl), by repeat (first | (with_reducible first | exact HB.out | apply below_alloc | apply pw_below_drewN | apply below_drew1 | refine below_set ?_ GE276.out | refine below_set ?_ GE277.out | refine below_set ?_ GE289.out | refine below_set ?_ GE293.out | refine below_set ?_ GE301.out) | exact HB.out)⟩
     ·replace c73 := Bool.eq_false_iff.mpr c73
      subst c73
      rw [if_neg (show ¬ (false = true) by decide)] at H
      obtain rfl := Option.some.inj H
      try go_wp2
      replace HO_290000 := Aside0.mk (Kd.R_drew HO_290000.out)
      replace HO_294000 := Aside0.mk (Kd.R_drew HO_294000.out)
      replace HO_302000 := Aside0.mk (Kd.R_drew HO_302000.out)
      replace BK276 := Aside0.mk (blk_drew BK276.out)
      replace BK277 := Aside0.mk (blk_drew BK277.out)
      replace BK289 := Aside0.mk (blk_drew BK289.out)
      replace BK293 := Aside0.mk (blk_drew BK293.out)
      replace BK301 := Aside0.mk (blk_drew BK301.out)
      replace HB := Aside0.mk (below_drew1 HB.out)
      refine start_ (n := 5) (S := fun w' => w'.cell? ⟨gb293, 0, none⟩ = some (.slice Ao35 t290.length co35) ∧ w'.cell? ⟨gb276, 0, none⟩ = some (.slice A0_0 l0_0.length c0_0)) (ds := []) ba13_34 (by kernel_rfl) rfl rfl ⟨(blk_cell BK293.out 0).trans rfl, (blk_cell BK276.out 0).trans rfl⟩ (fun hHeld => ?_)
      generalize wc.drew = w202 at HO_290000 HO_294000 HO_302000 BK276 BK277 BK289 BK293 BK301 HB hHeld ⊢
      refine take_ (i := 0) (N := some 47) (v := ?_) (a' := ?_) ba13_35 rfl rfl (by kernel_rfl) (fun _ _ _ h => h) (Or.inl ⟨by rfl, ?_⟩) hHeld ?_ ?_
      rotate_left; · rintro w' ⟨s0, s1⟩; go_simp; with_reducible rfl
      rotate_left; · simp only [Act.put, List.setIfInBounds_toArray, List.set_cons_zero, List.set_cons_succ, i64_w, i32_w]; rfl
      refine take_ (i := 1) (N := some 48) (v := ?_) (a' := ?_) ba13_36 rfl rfl (by kernel_rfl) (fun _ _ _ h => h) (Or.inl ⟨by rfl, ?_⟩) hHeld ?_ ?_
      rotate_left; · rintro w' ⟨s0, s1⟩; go_simp; with_reducible rfl
      rotate_left; · simp only [Act.put, List.setIfInBounds_toArray, List.set_cons_zero, List.set_cons_succ, i64_w, i32_w]; rfl
      refine one_ (i := 2) (N := some 49) ba13_37 rfl rfl (by kernel_rfl) (by decide) (fun K hK => ?_)
      refine gz_ Try.func9 #[.agg #[.slice A0_0 l0_0.length c0_0]] ?_
      with_reducible refine (laws_toTable.calls kj15 _ _ l0_0 t303 _ ?side1 ?side2 A71.out).mono ?_
      (case side1 => exact cb_ HR0_0 HB)
      (case side2 => exact HC0_0.out)
      rintro e w203 ⟨v304, rfl, ho0, hb⟩
      refine ⟨_, rfl, ?_⟩
      have HO305 := Aside0.mk (Kd.R_lower (Kd.R_new' (Kd.R_new' (Kd.R_new' ho0 (Kd.R_lt (hd_ HO_290000))) (Kd.R_lt (hd_ HO_294000))) (Kd.R_lt (hd_ HO_302000))) (bz_ HB))
      replace HO_290000 := Aside0.mk (Kd.R_elder' (hd_ HO_290000) (Kd.R_base ho0) hb)
      replace HO_294000 := Aside0.mk (Kd.R_elder' (hd_ HO_294000) (Kd.R_base ho0) hb)
      replace HO_302000 := Aside0.mk (Kd.R_elder' (hd_ HO_302000) (Kd.R_base ho0) hb)
      replace BK276 := Aside0.mk (bb_ BK276 hb)
      replace BK277 := Aside0.mk (bb_ BK277 hb)
      replace BK289 := Aside0.mk (bb_ BK289 hb)
      replace BK293 := Aside0.mk (bb_ BK293 hb)
      replace BK301 := Aside0.mk (bb_ BK301 hb)
      replace HB := Aside0.mk (bt_ HB hb)
      (try clear hb)
      (try clear hb2)
      (try clear hk)
      (try clear hi)
      (try clear ho0)
      obtain ⟨Ao204, co204, eo204⟩ := Kd.R_slice HO305.out
      (first | subst eo204 | (injection eo204 with f1_ f2_ f3_; have f4_ := f1_.symm; have f5_ := f3_.symm; clear f1_ f2_ f3_; subst f4_; subst f5_))
      refine hK.out _ _ ⟨(blk_cell BK293.out 0).trans rfl, (blk_cell BK276.out 0).trans rfl⟩ (fun hHeld => ?_)
      clear hK K
      refine nz_ 49 ?_
      refine one_ (i := 3) (N := some 50) ba13_38 rfl rfl (by kernel_rfl) (by decide) (fun K hK => ?_)
      refine gz_ Try.func12 #[.agg #[.slice Ao35 t290.length co35], .agg #[.slice Ao204 t303.length co204]] ?_
      with_reducible refine (laws_eqTable.calls kj15 _ _ t290 _ _ t303 false _ ?side1 ?side2 ?side3 ?side4 A72.out).mono ?_
      (case side1 => exact rc_ HO_294000)
      (case side2 => exact (Kd.R_reads' HO_294000.out).2.1)
      (case side3 => exact rc_ HO305)
      (case side4 => exact (Kd.R_reads' HO305.out).2.1)
      rintro e w205 ⟨rfl, hb⟩
      refine ⟨_, rfl, ?_⟩
      replace HO_290000 := rb_ HO_290000 hb
      replace HO_294000 := rb_ HO_294000 hb
      replace HO_302000 := rb_ HO_302000 hb
      replace HO305 := rb_ HO305 hb
      replace BK276 := Aside0.mk (bb_ BK276 hb)
      replace BK277 := Aside0.mk (bb_ BK277 hb)
      replace BK289 := Aside0.mk (bb_ BK289 hb)
      replace BK293 := Aside0.mk (bb_ BK293 hb)
      replace BK301 := Aside0.mk (bb_ BK301 hb)
      replace HB := Aside0.mk (bt_ HB hb)
      (try clear hb)
      (try clear hb2)
      (try clear hk)
      (try clear hi)
      refine hK.out _ _ ⟨(blk_cell BK293.out 0).trans rfl, (blk_cell BK276.out 0).trans rfl⟩ (fun hHeld => ?_)
      clear hK K
      refine nz_ 50 ?_
      refine pure_ (i := 4) (N := some 51) (v := ?_) (a' := ?_) ba13_39 rfl rfl (by kernel_rfl) (fun _ _ _ h => h) (Or.inl ⟨by rfl, ?_⟩) ?_ ?_
      rotate_left; · intro w'; go_simp; with_reducible rfl
      rotate_left; · simp only [Act.put, List.setIfInBounds_toArray, List.set_cons_zero, List.set_cons_succ, i64_w, i32_w]; rfl
      refine done_ (by kernel_rfl) ?_
      try go_wp2
      go_ret
      exact ⟨by first | rfl | (simp [errW_none, errW_some] <;> rfl) | (simp [*, errW_none, errW_some] <;> rfl), by repeat (first | (with_reducible first | exact HB.out | apply below_alloc | apply pw_below_drewN | apply below_drew1 | refine below_set ?_ GE276.out | refine below_set ?_ GE277.out | refine below_set ?_ GE289.out | refine below_set ?_ GE293.out | refine below_set ?_ GE301.out) | exact HB.out)⟩

end Go.Proofs.Ytflfbaofgfandaa.QFnExactPutRoute
