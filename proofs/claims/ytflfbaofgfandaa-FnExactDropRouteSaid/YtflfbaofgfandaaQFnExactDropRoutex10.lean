/- Contracts of functions that the law reaches: what each call returns and what it leaves in memory. Made by this session over the print of the kit. -/
import Derived.Test.YtflfbaofgfandaaQFnExactDropRoutex0
import Derived.Test.YtflfbaofgfandaaQFnExactDropRoutex2
import Derived.Test.YtflfbaofgfandaaQFnExactDropRoutex4
import Derived.Test.YtflfbaofgfandaaQFnExactDropRoutex8
import Derived.Test.YtflfbaofgfandaaQFnExactDropRoutex9
namespace Go.Proofs.Ytflfbaofgfandaa.QFnExactDropRoute
open Go.RowKit Go.Proofs.YtflfbaofgfandaaD.PrintWords Go.Proofs.YtflfbaofgfandaaD.PrintLast Go.Proofs.YtflfbaofgfandaaD.PrintMore
attribute [local go_sem] max2_int min2_int max_two min_two max_three min_three max_four min_four   -- for this text's walks alone
set_option linter.unusedVariables false
set_option linter.unusedSimpArgs false
abbrev tb10 : Bool := true
abbrev fb10 : Bool := false
def ba10_0 : Array Bool := #[fb10,fb10,fb10,fb10,fb10,fb10,fb10,fb10,fb10,fb10,fb10]
def ba10_1 : Array Bool := #[tb10,fb10,fb10,fb10,fb10,fb10,fb10,fb10,fb10,fb10,fb10]
def ba10_2 : Array Bool := #[tb10,fb10,tb10,fb10,fb10,fb10,fb10,fb10,fb10,fb10,fb10]
def ba10_3 : Array Bool := #[tb10,tb10,tb10,tb10,tb10,tb10,tb10,tb10,tb10,fb10,fb10]
def ba10_4 : Array Bool := #[tb10,tb10,tb10,fb10,fb10,fb10,fb10,fb10,fb10,fb10,fb10]
def ba10_5 : Array Bool := #[tb10,fb10,tb10,fb10,fb10,fb10,fb10,fb10,tb10,fb10,fb10]
def ba10_6 : Array Bool := #[tb10,tb10,tb10,tb10,fb10,fb10,fb10,fb10,fb10,fb10,fb10]
def ba10_7 : Array Bool := #[tb10,tb10,tb10,fb10,fb10,fb10,fb10,fb10,tb10,fb10,fb10]
def ba10_8 : Array Bool := #[tb10,tb10,tb10,tb10,tb10,fb10,fb10,fb10,fb10,fb10,fb10]
def ba10_9 : Array Bool := #[tb10,tb10,tb10,tb10,fb10,fb10,fb10,fb10,tb10,fb10,fb10]
def ba10_10 : Array Bool := #[tb10,tb10,tb10,tb10,tb10,tb10,fb10,fb10,fb10,fb10,fb10]
def ba10_11 : Array Bool := #[tb10,tb10,tb10,tb10,tb10,tb10,tb10,fb10,fb10,fb10,fb10]
def ba10_12 : Array Bool := #[tb10,tb10,tb10,tb10,tb10,tb10,tb10,tb10,fb10,fb10,fb10]
def ba10_13 : Array Bool := #[tb10,tb10,tb10,tb10,tb10,fb10,fb10,fb10,tb10,fb10,fb10]
def ba10_14 : Array Bool := #[tb10,tb10,tb10,tb10,tb10,tb10,fb10,fb10,tb10,fb10,fb10]
def ba10_15 : Array Bool := #[tb10,tb10,tb10,tb10,tb10,tb10,tb10,fb10,tb10,fb10,fb10]
def ba10_16 : Array Bool := #[tb10,tb10,tb10,tb10,tb10,tb10,tb10,tb10,tb10,tb10,fb10]
def ba10_17 : Array Bool := #[tb10,tb10,tb10,tb10,tb10,tb10,tb10,tb10,tb10,tb10,tb10]
def ba10_18 : Array Bool := #[fb10,fb10,fb10,fb10,fb10,fb10,fb10,fb10,fb10,fb10]
def ba10_19 : Array Bool := #[tb10,fb10,fb10,fb10,fb10,fb10,fb10,fb10,fb10,fb10]
def ba10_20 : Array Bool := #[tb10,tb10,fb10,fb10,fb10,fb10,fb10,fb10,fb10,fb10]
def ba10_21 : Array Bool := #[tb10,tb10,tb10,tb10,tb10,tb10,tb10,tb10,fb10,fb10]
def ba10_22 : Array Bool := #[tb10,tb10,tb10,fb10,fb10,fb10,fb10,fb10,fb10,fb10]
def ba10_23 : Array Bool := #[tb10,tb10,fb10,fb10,fb10,fb10,fb10,tb10,fb10,fb10]
def ba10_24 : Array Bool := #[tb10,tb10,tb10,tb10,fb10,fb10,fb10,fb10,fb10,fb10]
def ba10_25 : Array Bool := #[tb10,tb10,tb10,fb10,fb10,fb10,fb10,tb10,fb10,fb10]
def ba10_26 : Array Bool := #[tb10,tb10,tb10,tb10,tb10,fb10,fb10,fb10,fb10,fb10]
def ba10_27 : Array Bool := #[tb10,tb10,tb10,tb10,tb10,tb10,fb10,fb10,fb10,fb10]
def ba10_28 : Array Bool := #[tb10,tb10,tb10,tb10,tb10,tb10,tb10,fb10,fb10,fb10]
def ba10_29 : Array Bool := #[tb10,tb10,tb10,tb10,fb10,fb10,fb10,tb10,fb10,fb10]
def ba10_30 : Array Bool := #[tb10,tb10,tb10,tb10,tb10,fb10,fb10,tb10,fb10,fb10]
def ba10_31 : Array Bool := #[tb10,tb10,tb10,tb10,tb10,tb10,fb10,tb10,fb10,fb10]
def ba10_32 : Array Bool := #[tb10,tb10,tb10,tb10,tb10,tb10,tb10,tb10,tb10,fb10]
def ba10_33 : Array Bool := #[tb10,tb10,tb10,tb10,tb10,tb10,tb10,tb10,tb10,tb10]
def ba10_34 : Array Bool := #[fb10,fb10,fb10,fb10,fb10]
def ba10_35 : Array Bool := #[tb10,fb10,fb10,fb10,fb10]
def ba10_36 : Array Bool := #[tb10,tb10,fb10,fb10,fb10]
def ba10_37 : Array Bool := #[tb10,tb10,tb10,fb10,fb10]
def ba10_38 : Array Bool := #[tb10,tb10,tb10,tb10,fb10]
def ba10_39 : Array Bool := #[tb10,tb10,tb10,tb10,tb10]

/-! ### laws_FnExactDropRoute: function 3 -/
mutual
def laws_FnExactDropRoute.j0 : Nat → Bool → Bool → Bool → List (S40) → Int → Int → List (S43) → List (S43) → List (S43) → Option (Bool)
 | 0, _, _, _, _, _, _, _, _, _ => none
 | k + 1, x7, x10, x46, x239000, x240000, x240001, x251000, x255000, x262000 => if x46 = true then (some false) else ((laws_toTable.f k x239000).bind fun t263 => ((laws_eqTable.f k x255000 t263).bind fun t266 => (if t266 = true then ((laws_markTable.f k x255000 1).bind fun bt267 => (if bt267.1 < 0 then (laws_FnExactDropRoute.j1 k x7 true x239000 x240000 x240001 x251000 x262000) else ((laws_eqTable.f k x262000 x251000).bind fun t269 => (if t269 = true then (laws_FnExactDropRoute.j1 k x7 (x10 != x7) x239000 x240000 x240001 x251000 x262000) else (laws_FnExactDropRoute.j1 k x7 true x239000 x240000 x240001 x251000 x262000))))) else (some false))))
def laws_FnExactDropRoute.j1 : Nat → Bool → Bool → List (S40) → Int → Int → List (S43) → List (S43) → Option (Bool)
 | 0, _, _, _, _, _, _, _ => none
 | k + 1, x7, x67, x239000, x240000, x240001, x251000, x262000 => if x67 = true then (some false) else ((laws_markTable.f k x262000 1).bind fun bt270 => ((laws_heldTable.f k bt270.2 1).bind fun t272 => (if t272 < 0 then (some false) else (if t272 = bt270.1 then ((laws_toTable.f k x239000).bind fun t273 => ((laws_toPrefix.f x240000 x240001).bind fun bt276 => ((impl_DropRoute.f k t273 bt276.1 bt276.2).bind fun bt278 => ((laws_eqTable.f k bt278.1 x251000).bind fun t283 => (if t283 = true then (laws_FnExactDropRoute.j2 k bt270.1 (bt278.2 != x7) bt270.2) else (laws_FnExactDropRoute.j2 k bt270.1 true bt270.2)))))) else (some false)))))
def laws_FnExactDropRoute.j2 : Nat → Int → Bool → List (S43) → Option (Bool)
 | 0, _, _, _ => none
 | k + 1, x12, x95, x262000 => if x95 = true then (some false) else ((laws_heldTable.f k x262000 1).bind fun t284 => (if t284 < 0 then (some false) else (if t284 = x12 then (some true) else (some false))))
end
def laws_FnExactDropRoute.f (k : Nat) (l0_0 : List (S40)) (a1_0 : Int) (a1_1 : Int) : Option (Bool) := (laws_szTable.f l0_0 1048576).bind fun t240 => (if t240 < 0 then (some true) else ((laws_toTable.f k l0_0).bind fun t241 => ((laws_toPrefix.f a1_0 a1_1).bind fun bt244 => ((spec_DropRoute.f k t241 bt244.1 bt244.2).bind fun bt246 => ((laws_toTable.f k l0_0).bind fun t251 => ((laws_toPrefix.f a1_0 a1_1).bind fun bt255 => ((impl_DropRoute.f k t251 bt255.1 bt255.2).bind fun bt257 => ((laws_eqTable.f k bt257.1 bt246.1).bind fun t262 => (if t262 = true then (laws_FnExactDropRoute.j0 k bt246.2 bt257.2 (bt257.2 != bt246.2) l0_0 a1_0 a1_1 bt246.1 t251 bt257.1) else (laws_FnExactDropRoute.j0 k bt246.2 bt257.2 true l0_0 a1_0 a1_1 bt246.1 t251 bt257.1))))))))))
theorem laws_FnExactDropRoute.mono_l : ∀ k, (∀ y0 y1 y2 y3 y4 y5 y6 y7 y8, LeO (laws_FnExactDropRoute.j0 k y0 y1 y2 y3 y4 y5 y6 y7 y8) (laws_FnExactDropRoute.j0 (k + 1) y0 y1 y2 y3 y4 y5 y6 y7 y8)) ∧ (∀ y0 y1 y2 y3 y4 y5 y6, LeO (laws_FnExactDropRoute.j1 k y0 y1 y2 y3 y4 y5 y6) (laws_FnExactDropRoute.j1 (k + 1) y0 y1 y2 y3 y4 y5 y6)) ∧ (∀ y0 y1 y2, LeO (laws_FnExactDropRoute.j2 k y0 y1 y2) (laws_FnExactDropRoute.j2 (k + 1) y0 y1 y2))
 | 0 => ⟨fun _ _ _ _ _ _ _ _ _ r h => by simp [laws_FnExactDropRoute.j0] at h, fun _ _ _ _ _ _ _ r h => by simp [laws_FnExactDropRoute.j1] at h, fun _ _ _ r h => by simp [laws_FnExactDropRoute.j2] at h⟩
 | k + 1 => by
  obtain ⟨ih0, ih1, ih2⟩ := laws_FnExactDropRoute.mono_l k
  refine ⟨?_, ?_, ?_⟩
  ·intro y0 y1 y2 y3 y4 y5 y6 y7 y8
   unfold laws_FnExactDropRoute.j0
   repeat' first
   | (with_reducible exact ih0 _ _ _ _ _ _ _ _ _)
   | (with_reducible exact ih1 _ _ _ _ _ _ _)
   | (with_reducible exact ih2 _ _ _)
   | (with_reducible exact impl_DropRoute.mono _ _ _ _)
   | (with_reducible exact laws_eqTable.mono _ _ _)
   | (with_reducible exact laws_heldTable.mono _ _ _)
   | (with_reducible exact laws_markTable.mono _ _ _)
   | (with_reducible exact laws_toTable.mono _ _)
   | (with_reducible exact spec_DropRoute.mono _ _ _ _)
   | (with_reducible exact LeO.refl _)
   | (with_reducible exact LeO.none _)
   | (with_reducible refine LeO.ite ?_ ?_)
   | (with_reducible refine LeO.bind ?_ (fun _ => ?_))
   | exact ih0 _ _ _ _ _ _ _ _ _
   | exact ih1 _ _ _ _ _ _ _
   | exact ih2 _ _ _
   | exact impl_DropRoute.mono _ _ _ _
   | exact laws_eqTable.mono _ _ _
   | exact laws_heldTable.mono _ _ _
   | exact laws_markTable.mono _ _ _
   | exact laws_toTable.mono _ _
   | exact spec_DropRoute.mono _ _ _ _
   | exact LeO.none _
   | refine LeO.ite ?_ ?_
   | refine LeO.bind ?_ (fun _ => ?_)
  ·intro y0 y1 y2 y3 y4 y5 y6
   unfold laws_FnExactDropRoute.j1
   repeat' first
   | (with_reducible exact ih0 _ _ _ _ _ _ _ _ _)
   | (with_reducible exact ih1 _ _ _ _ _ _ _)
   | (with_reducible exact ih2 _ _ _)
   | (with_reducible exact impl_DropRoute.mono _ _ _ _)
   | (with_reducible exact laws_eqTable.mono _ _ _)
   | (with_reducible exact laws_heldTable.mono _ _ _)
   | (with_reducible exact laws_markTable.mono _ _ _)
   | (with_reducible exact laws_toTable.mono _ _)
   | (with_reducible exact spec_DropRoute.mono _ _ _ _)
   | (with_reducible exact LeO.refl _)
   | (with_reducible exact LeO.none _)
   | (with_reducible refine LeO.ite ?_ ?_)
   | (with_reducible refine LeO.bind ?_ (fun _ => ?_))
   | exact ih0 _ _ _ _ _ _ _ _ _
   | exact ih1 _ _ _ _ _ _ _
   | exact ih2 _ _ _
   | exact impl_DropRoute.mono _ _ _ _
   | exact laws_eqTable.mono _ _ _
   | exact laws_heldTable.mono _ _ _
   | exact laws_markTable.mono _ _ _
   | exact laws_toTable.mono _ _
   | exact spec_DropRoute.mono _ _ _ _
   | exact LeO.none _
   | refine LeO.ite ?_ ?_
   | refine LeO.bind ?_ (fun _ => ?_)
  ·intro y0 y1 y2
   unfold laws_FnExactDropRoute.j2
   repeat' first
   | (with_reducible exact ih0 _ _ _ _ _ _ _ _ _)
   | (with_reducible exact ih1 _ _ _ _ _ _ _)
   | (with_reducible exact ih2 _ _ _)
   | (with_reducible exact impl_DropRoute.mono _ _ _ _)
   | (with_reducible exact laws_eqTable.mono _ _ _)
   | (with_reducible exact laws_heldTable.mono _ _ _)
   | (with_reducible exact laws_markTable.mono _ _ _)
   | (with_reducible exact laws_toTable.mono _ _)
   | (with_reducible exact spec_DropRoute.mono _ _ _ _)
   | (with_reducible exact LeO.refl _)
   | (with_reducible exact LeO.none _)
   | (with_reducible refine LeO.ite ?_ ?_)
   | (with_reducible refine LeO.bind ?_ (fun _ => ?_))
   | exact ih0 _ _ _ _ _ _ _ _ _
   | exact ih1 _ _ _ _ _ _ _
   | exact ih2 _ _ _
   | exact impl_DropRoute.mono _ _ _ _
   | exact laws_eqTable.mono _ _ _
   | exact laws_heldTable.mono _ _ _
   | exact laws_markTable.mono _ _ _
   | exact laws_toTable.mono _ _
   | exact spec_DropRoute.mono _ _ _ _
   | exact LeO.none _
   | refine LeO.ite ?_ ?_
   | refine LeO.bind ?_ (fun _ => ?_)
theorem laws_FnExactDropRoute.mono : ∀ a0 a1 a2 k, LeO (laws_FnExactDropRoute.f k a0 a1 a2) (laws_FnExactDropRoute.f (k + 1) a0 a1 a2) := by
 intro a0 a1 a2 k
 obtain ⟨ih0, ih1, ih2⟩ := laws_FnExactDropRoute.mono_l k
 unfold laws_FnExactDropRoute.f
 repeat' first
   | (with_reducible exact ih0 _ _ _ _ _ _ _ _ _)
   | (with_reducible exact ih1 _ _ _ _ _ _ _)
   | (with_reducible exact ih2 _ _ _)
   | (with_reducible exact impl_DropRoute.mono _ _ _ _)
   | (with_reducible exact laws_eqTable.mono _ _ _)
   | (with_reducible exact laws_heldTable.mono _ _ _)
   | (with_reducible exact laws_markTable.mono _ _ _)
   | (with_reducible exact laws_toTable.mono _ _)
   | (with_reducible exact spec_DropRoute.mono _ _ _ _)
   | (with_reducible exact LeO.refl _)
   | (with_reducible exact LeO.none _)
   | (with_reducible refine LeO.ite ?_ ?_)
   | (with_reducible refine LeO.bind ?_ (fun _ => ?_))
   | exact ih0 _ _ _ _ _ _ _ _ _
   | exact ih1 _ _ _ _ _ _ _
   | exact ih2 _ _ _
   | exact impl_DropRoute.mono _ _ _ _
   | exact laws_eqTable.mono _ _ _
   | exact laws_heldTable.mono _ _ _
   | exact laws_markTable.mono _ _ _
   | exact laws_toTable.mono _ _
   | exact spec_DropRoute.mono _ _ _ _
   | exact LeO.none _
   | refine LeO.ite ?_ ?_
   | refine LeO.bind ?_ (fun _ => ?_)
def laws_FnExactDropRoute.T5 : Bool × List (List Nat × List Nat) := (true, [([], []), ([0], [0]), ([], []), ([2, 1], [2]), ([1, 3, 3], [1, 3]), ([4], [4]), ([5], [5]), ([5], [5]), ([], []), ([8, 6, 4, 0, 1, 2, 3, 4, 5, 6, 8], [6, 8]), ([7, 9, 0, 1, 2, 3, 4, 5, 6, 7, 8, 9], [7])])
def laws_FnExactDropRoute.B5 : List Nat := [0, 1, 0, 7, 15, 31, 63, 63, 0, 383, 1023]
theorem laws_FnExactDropRoute.tab5 : rtab .any (opsOf Try.f3 5) = laws_FnExactDropRoute.T5 := by kernel_rfl
theorem laws_FnExactDropRoute.bits5 : waitsOk laws_FnExactDropRoute.T5.2 laws_FnExactDropRoute.B5 = true := by kernel_rfl
def laws_FnExactDropRoute.T7 : Bool × List (List Nat × List Nat) := (true, [([], []), ([], []), ([1], [1]), ([0, 2, 2], [0, 2]), ([3], [3]), ([4], [4]), ([4], [4]), ([], []), ([7, 5, 3, 0, 1, 2, 3, 4, 5, 7], [5, 7]), ([6, 8, 0, 1, 2, 3, 4, 5, 6, 7, 8], [6])])
def laws_FnExactDropRoute.B7 : List Nat := [0, 0, 2, 7, 15, 31, 31, 0, 191, 511]
theorem laws_FnExactDropRoute.tab7 : rtab .any (opsOf Try.f3 7) = laws_FnExactDropRoute.T7 := by kernel_rfl
theorem laws_FnExactDropRoute.bits7 : waitsOk laws_FnExactDropRoute.T7.2 laws_FnExactDropRoute.B7 = true := by kernel_rfl
def laws_FnExactDropRoute.T24 : Bool × List (List Nat × List Nat) := (true, [([], []), ([0], [0]), ([], []), ([2, 1], [2]), ([1, 3, 3], [1, 3]), ([4], [4]), ([5], [5]), ([5], [5]), ([], []), ([8, 6, 4, 0, 1, 2, 3, 4, 5, 6, 8], [6, 8]), ([7, 9, 0, 1, 2, 3, 4, 5, 6, 7, 8, 9], [7])])
def laws_FnExactDropRoute.B24 : List Nat := [0, 1, 0, 7, 15, 31, 63, 63, 0, 383, 1023]
theorem laws_FnExactDropRoute.tab24 : rtab .any (opsOf Try.f3 24) = laws_FnExactDropRoute.T24 := by kernel_rfl
theorem laws_FnExactDropRoute.bits24 : waitsOk laws_FnExactDropRoute.T24.2 laws_FnExactDropRoute.B24 = true := by kernel_rfl
set_option maxHeartbeats 8000000 in
set_option maxRecDepth 100000 in
theorem laws_FnExactDropRoute.calls (k : Nat) (A0_0 : Option Addr) (c0_0 : Nat) (l0_0 : List (S40)) (a1_0 : Int) (a1_1 : Int) (r : Bool) (w : World) (hr0_0 : Kd.C k40 w A0_0 l0_0.length l0_0) (hc0_0 : l0_0.length ≤ c0_0) (h : laws_FnExactDropRoute.f k l0_0 a1_0 a1_1 = some r) :
  Calls Try.prog 3 #[.agg #[.slice A0_0 l0_0.length c0_0], .agg #[.int .i64 a1_0, .int .i64 a1_1]] w fun e w' => e = .returned (.bool r) ∧ Below w.heap.size w w' := by
 have hu24 := Try.underlying24
 have hu26 := Try.underlying26
 have hu30 := Try.underlying30
 have HR0_0 := Aside0.mk hr0_0
 have HC0_0 := Aside0.mk hc0_0
 clear hr0_0 hc0_0
 have HB := Aside0.mk (Below.refl w.heap.size w)
 have H : ((laws_szTable.f l0_0 1048576).bind fun t240 => (if t240 < 0 then (some true) else ((laws_toTable.f k l0_0).bind fun t241 => ((laws_toPrefix.f a1_0 a1_1).bind fun bt244 => ((spec_DropRoute.f k t241 bt244.1 bt244.2).bind fun bt246 => ((laws_toTable.f k l0_0).bind fun t251 => ((laws_toPrefix.f a1_0 a1_1).bind fun bt255 => ((impl_DropRoute.f k t251 bt255.1 bt255.2).bind fun bt257 => ((laws_eqTable.f k bt257.1 bt246.1).bind fun t262 => (if t262 = true then (laws_FnExactDropRoute.j0 k bt246.2 bt257.2 (bt257.2 != bt246.2) l0_0 a1_0 a1_1 bt246.1 t251 bt257.1) else (laws_FnExactDropRoute.j0 k bt246.2 bt257.2 true l0_0 a1_0 a1_1 bt246.1 t251 bt257.1))))))))))) = some r := h
 clear h
 replace H := Option.bind_eq_some_iff.mp H
 obtain ⟨t240, A30, H⟩ := H
 have A3 := Aside0.mk A30
 clear A30
 by_cases c4 : t240 < 0
 ·rw [if_pos c4] at H
  have c4b0 : decide (t240 < 0) = true := decide_eq_true c4
  clear c4
  obtain rfl := Option.some.inj H
  go_enter Try.func3, Try.ntmps3
  go_wp2_with (first | ((with_reducible refine gate_dst (N := 2) rfl ?_); refine box_event ?hg (N := 2) ?hd (cs := #[.slice A0_0 l0_0.length c0_0]) (t := 24) ?hr ?_; (case hd => rfl); (case hg => rfl); (case hr => first | (go_simp; done) | (go_simp; rfl)); intro gb238 hg w5 hbox hb; have BK238 := Aside0.mk hbox; have GW238 := ge_ HB hg; have GE238 := ge_ HB hg; replace HB := Aside0.mk (bt_ HB hb); clear hb hbox hg) | ((with_reducible refine gate_dst (N := 3) rfl ?_); refine box_event ?hg (N := 3) ?hd (cs := #[.int .i64 a1_0, .int .i64 a1_1]) (t := 26) ?hr ?_; (case hd => rfl); (case hg => rfl); (case hr => first | (go_simp; done) | (go_simp; rfl)); intro gb239 hg w6 hbox hb; have BK239 := Aside0.mk hbox; have GW239 := ge_ HB hg; have GE239 := ge_ HB hg; have NB238_239 := nl_ BK238 hg; have NB239_238 := ng_ BK238 hg; replace HB := Aside0.mk (bt_ HB hb); replace BK238 := Aside0.mk (bb_ BK238 hb); clear hb hbox hg; have hnb7 := NB238_239.out; have hnc7 := NB239_238.out; have hcz8_0 := cz_ BK238 0 (.slice A0_0 l0_0.length c0_0); have hfz8_0 := blk_frozen BK238.out 0) | ((with_reducible refine gate_callee (f := 7) rfl ?_); refine gl_ (some 18) Try.func7 #[.agg #[.slice A0_0 l0_0.length c0_0], .int .i64 1048576] ?_; (with_reducible refine (laws_szTable.calls _ _ l0_0 1048576 t240 _ ?side1 ?side2 A3.out).mono ?_); (case side1 => exact cb_ HR0_0 HB); (case side2 => exact HC0_0.out); rintro e w9 ⟨rfl, hb⟩; refine ⟨_, rfl, ?_⟩; replace BK238 := Aside0.mk (bb_ BK238 hb); replace BK239 := Aside0.mk (bb_ BK239 hb); replace HB := Aside0.mk (bt_ HB hb); (try clear hb); (try clear hb2); (try clear hk); (try clear hi)))
  go_ret
  exact ⟨by first | rfl | (simp [errW_none, errW_some] <;> rfl) | (simp [*, errW_none, errW_some] <;> rfl), by repeat (first | (with_reducible first | exact HB.out | apply below_alloc | apply pw_below_drewN | apply below_drew1 | refine below_set ?_ GE238.out | refine below_set ?_ GE239.out) | exact HB.out)⟩
 rw [if_neg c4] at H
 have c4b0 : decide (t240 < 0) = false := decide_eq_false c4
 clear c4
 replace H := Option.bind_eq_some_iff.mp H
 obtain ⟨t241, A100, H⟩ := H
 have A10 := Aside0.mk A100
 clear A100
 replace H := Option.bind_eq_some_iff.mp H
 obtain ⟨⟨t244, t245⟩, A110, H⟩ := H
 have A11 := Aside0.mk A110
 clear A110
 replace H := Option.bind_eq_some_iff.mp H
 obtain ⟨⟨t246, t249⟩, A120, H⟩ := H
 have A12 := Aside0.mk A120
 clear A120
 replace H := Option.bind_eq_some_iff.mp H
 obtain ⟨t251, A130, H⟩ := H
 have A13 := Aside0.mk A130
 clear A130
 replace H := Option.bind_eq_some_iff.mp H
 obtain ⟨⟨t255, t256⟩, A140, H⟩ := H
 have A14 := Aside0.mk A140
 clear A140
 replace H := Option.bind_eq_some_iff.mp H
 obtain ⟨⟨t257, t260⟩, A150, H⟩ := H
 have A15 := Aside0.mk A150
 clear A150
 have HC16 := Aside0.mk H
 clear H
 go_enter Try.func3, Try.ntmps3
 try go_wp2_with (first | ((with_reducible refine gate_dst (N := 2) rfl ?_); refine box_event ?hg (N := 2) ?hd (cs := #[.slice A0_0 l0_0.length c0_0]) (t := 24) ?hr ?_; (case hd => rfl); (case hg => rfl); (case hr => first | (go_simp; done) | (go_simp; rfl)); intro gb238 hg w17 hbox hb; have BK238 := Aside0.mk hbox; have GW238 := ge_ HB hg; have GE238 := ge_ HB hg; replace HB := Aside0.mk (bt_ HB hb); clear hb hbox hg) | ((with_reducible refine gate_dst (N := 3) rfl ?_); refine box_event ?hg (N := 3) ?hd (cs := #[.int .i64 a1_0, .int .i64 a1_1]) (t := 26) ?hr ?_; (case hd => rfl); (case hg => rfl); (case hr => first | (go_simp; done) | (go_simp; rfl)); intro gb239 hg w18 hbox hb; have BK239 := Aside0.mk hbox; have GW239 := ge_ HB hg; have GE239 := ge_ HB hg; have NB238_239 := nl_ BK238 hg; have NB239_238 := ng_ BK238 hg; replace HB := Aside0.mk (bt_ HB hb); replace BK238 := Aside0.mk (bb_ BK238 hb); clear hb hbox hg; have hnb19 := NB238_239.out; have hnc19 := NB239_238.out; have hcz20_0 := cz_ BK238 0 (.slice A0_0 l0_0.length c0_0); have hfz20_0 := blk_frozen BK238.out 0) | ((with_reducible refine gate_callee (f := 7) rfl ?_); refine gl_ (some 18) Try.func7 #[.agg #[.slice A0_0 l0_0.length c0_0], .int .i64 1048576] ?_; (with_reducible refine (laws_szTable.calls _ _ l0_0 1048576 t240 _ ?side1 ?side2 A3.out).mono ?_); (case side1 => exact cb_ HR0_0 HB); (case side2 => exact HC0_0.out); rintro e w21 ⟨rfl, hb⟩; refine ⟨_, rfl, ?_⟩; replace BK238 := Aside0.mk (bb_ BK238 hb); replace BK239 := Aside0.mk (bb_ BK239 hb); replace HB := Aside0.mk (bt_ HB hb); (try clear hb); (try clear hb2); (try clear hk); (try clear hi)))
 replace BK238 := Aside0.mk (blk_drew BK238.out)
 replace BK239 := Aside0.mk (blk_drew BK239.out)
 replace HB := Aside0.mk (below_drew1 HB.out)
 refine start_ (n := 11) (S := fun w' => w'.cell? ⟨gb238, 0, none⟩ = some (.slice A0_0 l0_0.length c0_0) ∧ w'.cell? ⟨gb239, 0, none⟩ = some (.int .i64 a1_0) ∧ w'.cell? ⟨gb239, 1, none⟩ = some (.int .i64 a1_1)) (ds := []) ba10_0 (by kernel_rfl) rfl rfl ⟨(blk_cell BK238.out 0).trans rfl, (blk_cell BK239.out 0).trans rfl, (blk_cell BK239.out 1).trans rfl⟩ (fun hHeld => ?_); refine with_tabW laws_FnExactDropRoute.tab5 laws_FnExactDropRoute.bits5 (fun HT_ HW_ => ?_)
 generalize w21.drew = w22 at BK238 BK239 HB hHeld ⊢
 refine pt_ 0 22 ba10_1 HT_ HW_ hHeld ?_
 refine pt_ 2 24 ba10_2 HT_ HW_ hHeld ?_
 refine join_ (σ := Value × Value × Nat) 2 ba10_3 (fun s_ => [(23, .agg #[s_.1]), (25, .agg #[.int .i64 t244, .int .i64 t245]), (26, .tuple #[.agg #[s_.2.1], .bool t249]), (6, .pointer (some ⟨s_.2.2, 0, none⟩)), (21, .tuple #[.agg #[s_.2.1], .bool t249]), (27, .agg #[s_.2.1]), (28, .bool t249)]) (fun s_ w' => (w'.cell? ⟨gb238, 0, none⟩ = some (.slice A0_0 l0_0.length c0_0) ∧ w'.cell? ⟨gb239, 0, none⟩ = some (.int .i64 a1_0) ∧ w'.cell? ⟨gb239, 1, none⟩ = some (.int .i64 a1_1)) ∧ (Kd.R k43 43 w' w.heap.size (fun k_ => some k_ ≠ (s_.2.1 : Value).ownBlock) s_.1 t241) ∧ (Kd.R k43 43 w' w.heap.size (fun k_ => some k_ ≠ (s_.1 : Value).ownBlock) s_.2.1 t246) ∧ (w'.heap[gb238]? = some (.cells #[.slice A0_0 l0_0.length c0_0] 24 (0, 0))) ∧ (w'.heap[gb239]? = some (.cells #[.int .i64 a1_0, .int .i64 a1_1] 26 (0, 0))) ∧ (w'.heap[s_.2.2]? = some (.cells #[.slice none 0 0] 30 (0, 0))) ∧ (w.heap.size ≤ s_.2.2) ∧ (w.heap.size ≤ s_.2.2) ∧ (gb238 ≠ s_.2.2) ∧ (s_.2.2 ≠ gb238) ∧ (gb239 ≠ s_.2.2) ∧ (s_.2.2 ≠ gb239) ∧ (Below w.heap.size w w')) ?_ ?_
 rotate_left
 ·intro hCont
  refine two_ (i := 1) (j := 8) (Ni := some 23) (Nj := some 6) ba10_4 ba10_5 rfl rfl rfl rfl (two_of HT_.out (by kernel_rfl)) (by decide) (by decide) (fun K hK => ?_) (fun K hK => ?_)
  ·skip
   refine gz_ Try.func9 #[.agg #[.slice A0_0 l0_0.length c0_0]] ?_
   with_reducible refine (laws_toTable.calls k _ _ l0_0 t241 _ ?side1 ?side2 A10.out).mono ?_
   (case side1 => exact cb_ HR0_0 HB)
   (case side2 => exact HC0_0.out)
   rintro e w23 ⟨v242, rfl, ho0, hb⟩
   refine ⟨_, rfl, ?_⟩
   have HO243 := Aside0.mk (Kd.R_lower ho0 (bz_ HB))
   replace BK238 := Aside0.mk (bb_ BK238 hb)
   replace BK239 := Aside0.mk (bb_ BK239 hb)
   replace HB := Aside0.mk (bt_ HB hb)
   (try clear hb)
   (try clear hb2)
   (try clear hk)
   (try clear hi)
   (try clear ho0)
   refine hK.out _ _ ⟨(blk_cell BK238.out 0).trans rfl, (blk_cell BK239.out 0).trans rfl, (blk_cell BK239.out 1).trans rfl⟩ (fun hHeld => ?_)
   clear hK K
   refine nz_ 23 ?_
   refine two_ (i := 3) (j := 8) (Ni := some 25) (Nj := some 6) ba10_6 ba10_7 rfl rfl rfl rfl (two_of HT_.out (by kernel_rfl)) (by decide) (by decide) (fun K hK => ?_) (fun K hK => ?_)
   ·skip
    refine gz_ Try.func10 #[.agg #[.int .i64 a1_0, .int .i64 a1_1]] ?_
    with_reducible refine (laws_toPrefix.calls a1_0 a1_1 t244 t245 _ A11.out).mono ?_
    rintro e w24 ⟨rfl, hb⟩
    refine ⟨_, rfl, ?_⟩
    replace HO243 := rb_ HO243 hb
    replace BK238 := Aside0.mk (bb_ BK238 hb)
    replace BK239 := Aside0.mk (bb_ BK239 hb)
    replace HB := Aside0.mk (bt_ HB hb)
    (try clear hb)
    (try clear hb2)
    (try clear hk)
    (try clear hi)
    obtain ⟨Ao25, co25, eo25⟩ := Kd.R_slice HO243.out
    (first | subst eo25 | (injection eo25 with f1_ f2_ f3_; have f4_ := f1_.symm; have f5_ := f3_.symm; clear f1_ f2_ f3_; subst f4_; subst f5_))
    refine hK.out _ _ ⟨(blk_cell BK238.out 0).trans rfl, (blk_cell BK239.out 0).trans rfl, (blk_cell BK239.out 1).trans rfl⟩ (fun hHeld => ?_)
    clear hK K
    refine nz_ 25 ?_
    refine two_ (i := 4) (j := 8) (Ni := some 26) (Nj := some 6) ba10_8 ba10_9 rfl rfl rfl rfl (two_of HT_.out (by kernel_rfl)) (by decide) (by decide) (fun K hK => ?_) (fun K hK => ?_)
    ·skip
     refine gz_ Try.func8 #[.agg #[.slice Ao25 t241.length co25], .agg #[.int .i64 t244, .int .i64 t245]] ?_
     with_reducible refine (spec_DropRoute.calls k _ _ t241 t244 t245 t246 t249 _ ?side1 ?side2 A12.out).mono ?_
     (case side1 => exact rc_ HO243)
     (case side2 => exact (Kd.R_reads' HO243.out).2.1)
     rintro e w26 ⟨v247, rfl, ho0, hb⟩
     refine ⟨_, rfl, ?_⟩
     have HO248 := Aside0.mk (Kd.R_lower (Kd.R_new' ho0 (Kd.R_lt (hd_ HO243))) (bz_ HB))
     replace HO243 := Aside0.mk (Kd.R_elder' (hd_ HO243) (Kd.R_base ho0) hb)
     replace BK238 := Aside0.mk (bb_ BK238 hb)
     replace BK239 := Aside0.mk (bb_ BK239 hb)
     replace HB := Aside0.mk (bt_ HB hb)
     (try clear hb)
     (try clear hb2)
     (try clear hk)
     (try clear hi)
     (try clear ho0)
     refine hK.out _ _ ⟨(blk_cell BK238.out 0).trans rfl, (blk_cell BK239.out 0).trans rfl, (blk_cell BK239.out 1).trans rfl⟩ (fun hHeld => ?_)
     clear hK K
     refine nz_ 26 ?_
     refine pz_ 5 21 ba10_10 HT_ ?_
     refine pz_ 6 27 ba10_11 HT_ ?_
     refine pz_ 7 28 ba10_12 HT_ ?_
     refine one_ (i := 8) (N := some 6) ba10_3 rfl rfl (one_of HT_.out (by kernel_rfl)) (by decide) (fun K hK => ?_)
     refine box_step ?hg (N := 6) ?hd (cs := #[.slice none 0 0]) (t := 30) ?hr ?_; (case hd => rfl); (case hg => rfl); (case hr => first | (go_simp; done) | (go_simp; rfl))
     intro gb250 hg w27 hbox hb
     have BK250 := Aside0.mk hbox
     have GW250 := ge_ HB hg
     have GE250 := ge_ HB hg
     have NB238_250 := nl_ BK238 hg
     have NB250_238 := ng_ BK238 hg
     have NB239_250 := nl_ BK239 hg
     have NB250_239 := ng_ BK239 hg
     replace HO243 := rb_ HO243 hb
     replace HO248 := rb_ HO248 hb
     replace HB := Aside0.mk (bt_ HB hb)
     replace BK238 := Aside0.mk (bb_ BK238 hb)
     replace BK239 := Aside0.mk (bb_ BK239 hb)
     clear hb hbox hg
     refine hK.out _ _ ⟨(blk_cell BK238.out 0).trans rfl, (blk_cell BK239.out 0).trans rfl, (blk_cell BK239.out 1).trans rfl⟩ (fun hHeld => ?_)
     clear hK K
     refine nz_ 6 ?_
     exact norm_ (by simp only [putAll, Act.put, List.setIfInBounds_toArray, List.set_cons_zero, List.set_cons_succ]) (hCont (.slice Ao25 t241.length co25, v247, gb250) _ ⟨hHeld, (by (with_reducible repeat (first | apply Kd.R_alloc | apply Kd.R_drewN | apply Kd.R_drew)); exact Kd.R_mono HO243.out (fun _ hk => hk.2)), (by (with_reducible repeat (first | apply Kd.R_alloc | apply Kd.R_drewN | apply Kd.R_drew)); exact Kd.R_mono HO248.out (fun _ hk => hk.2)), (by (with_reducible repeat (first | refine blk_drewN ?_ _ | refine blk_drew ?_ | refine blk_alloc ?_ _)); exact BK238.out), (by (with_reducible repeat (first | refine blk_drewN ?_ _ | refine blk_drew ?_ | refine blk_alloc ?_ _)); exact BK239.out), (by (with_reducible repeat (first | refine blk_drewN ?_ _ | refine blk_drew ?_ | refine blk_alloc ?_ _)); exact BK250.out), GW250.out, GE250.out, NB238_250.out, NB250_238.out, NB239_250.out, NB250_239.out, (by repeat (first | (with_reducible first | exact HB.out | apply below_alloc | apply pw_below_drewN | apply below_drew1 | refine below_set ?_ GE238.out | refine below_set ?_ GE239.out | refine below_set ?_ GE250.out) | exact HB.out))⟩)
    ·skip
     refine box_step ?hg (N := 6) ?hd (cs := #[.slice none 0 0]) (t := 30) ?hr ?_; (case hd => rfl); (case hg => rfl); (case hr => first | (go_simp; done) | (go_simp; rfl))
     intro gb250 hg w25 hbox hb
     have BK250 := Aside0.mk hbox
     have GW250 := ge_ HB hg
     have GE250 := ge_ HB hg
     have NB238_250 := nl_ BK238 hg
     have NB250_238 := ng_ BK238 hg
     have NB239_250 := nl_ BK239 hg
     have NB250_239 := ng_ BK239 hg
     replace HO243 := rb_ HO243 hb
     replace HB := Aside0.mk (bt_ HB hb)
     replace BK238 := Aside0.mk (bb_ BK238 hb)
     replace BK239 := Aside0.mk (bb_ BK239 hb)
     clear hb hbox hg
     obtain ⟨Ao26, co26, eo26⟩ := Kd.R_slice HO243.out
     (first | subst eo26 | (injection eo26 with f1_ f2_ f3_; have f4_ := f1_.symm; have f5_ := f3_.symm; clear f1_ f2_ f3_; subst f4_; subst f5_))
     refine hK.out _ _ ⟨(blk_cell BK238.out 0).trans rfl, (blk_cell BK239.out 0).trans rfl, (blk_cell BK239.out 1).trans rfl⟩ (fun hHeld => ?_)
     clear hK K
     refine nz_ 6 ?_
     refine one_ (i := 4) (N := some 26) ba10_13 rfl rfl (one_of HT_.out (by kernel_rfl)) (by decide) (fun K hK => ?_)
     refine gz_ Try.func8 #[.agg #[.slice Ao26 t241.length co26], .agg #[.int .i64 t244, .int .i64 t245]] ?_
     with_reducible refine (spec_DropRoute.calls k _ _ t241 t244 t245 t246 t249 _ ?side1 ?side2 A12.out).mono ?_
     (case side1 => exact rc_ HO243)
     (case side2 => exact (Kd.R_reads' HO243.out).2.1)
     rintro e w27 ⟨v247, rfl, ho0, hb⟩
     refine ⟨_, rfl, ?_⟩
     have HO248 := Aside0.mk (Kd.R_lower (Kd.R_new' ho0 (Kd.R_lt (hd_ HO243))) (bz_ HB))
     replace HO243 := Aside0.mk (Kd.R_elder' (hd_ HO243) (Kd.R_base ho0) hb)
     replace BK238 := Aside0.mk (bb_ BK238 hb)
     replace BK239 := Aside0.mk (bb_ BK239 hb)
     replace BK250 := Aside0.mk (bb_ BK250 hb)
     replace HB := Aside0.mk (bt_ HB hb)
     (try clear hb)
     (try clear hb2)
     (try clear hk)
     (try clear hi)
     (try clear ho0)
     refine hK.out _ _ ⟨(blk_cell BK238.out 0).trans rfl, (blk_cell BK239.out 0).trans rfl, (blk_cell BK239.out 1).trans rfl⟩ (fun hHeld => ?_)
     clear hK K
     refine nz_ 26 ?_
     refine pz_ 5 21 ba10_14 HT_ ?_
     refine pz_ 6 27 ba10_15 HT_ ?_
     refine pz_ 7 28 ba10_3 HT_ ?_
     exact norm_ (by simp only [putAll, Act.put, List.setIfInBounds_toArray, List.set_cons_zero, List.set_cons_succ]) (hCont (.slice Ao26 t241.length co26, v247, gb250) _ ⟨hHeld, (by (with_reducible repeat (first | apply Kd.R_alloc | apply Kd.R_drewN | apply Kd.R_drew)); exact Kd.R_mono HO243.out (fun _ hk => hk.2)), (by (with_reducible repeat (first | apply Kd.R_alloc | apply Kd.R_drewN | apply Kd.R_drew)); exact Kd.R_mono HO248.out (fun _ hk => hk.2)), (by (with_reducible repeat (first | refine blk_drewN ?_ _ | refine blk_drew ?_ | refine blk_alloc ?_ _)); exact BK238.out), (by (with_reducible repeat (first | refine blk_drewN ?_ _ | refine blk_drew ?_ | refine blk_alloc ?_ _)); exact BK239.out), (by (with_reducible repeat (first | refine blk_drewN ?_ _ | refine blk_drew ?_ | refine blk_alloc ?_ _)); exact BK250.out), GW250.out, GE250.out, NB238_250.out, NB250_238.out, NB239_250.out, NB250_239.out, (by repeat (first | (with_reducible first | exact HB.out | apply below_alloc | apply pw_below_drewN | apply below_drew1 | refine below_set ?_ GE238.out | refine below_set ?_ GE239.out | refine below_set ?_ GE250.out) | exact HB.out))⟩)
   ·skip
    refine box_step ?hg (N := 6) ?hd (cs := #[.slice none 0 0]) (t := 30) ?hr ?_; (case hd => rfl); (case hg => rfl); (case hr => first | (go_simp; done) | (go_simp; rfl))
    intro gb250 hg w24 hbox hb
    have BK250 := Aside0.mk hbox
    have GW250 := ge_ HB hg
    have GE250 := ge_ HB hg
    have NB238_250 := nl_ BK238 hg
    have NB250_238 := ng_ BK238 hg
    have NB239_250 := nl_ BK239 hg
    have NB250_239 := ng_ BK239 hg
    replace HO243 := rb_ HO243 hb
    replace HB := Aside0.mk (bt_ HB hb)
    replace BK238 := Aside0.mk (bb_ BK238 hb)
    replace BK239 := Aside0.mk (bb_ BK239 hb)
    clear hb hbox hg
    refine hK.out _ _ ⟨(blk_cell BK238.out 0).trans rfl, (blk_cell BK239.out 0).trans rfl, (blk_cell BK239.out 1).trans rfl⟩ (fun hHeld => ?_)
    clear hK K
    refine nz_ 6 ?_
    refine one_ (i := 3) (N := some 25) ba10_9 rfl rfl (one_of HT_.out (by kernel_rfl)) (by decide) (fun K hK => ?_)
    refine gz_ Try.func10 #[.agg #[.int .i64 a1_0, .int .i64 a1_1]] ?_
    with_reducible refine (laws_toPrefix.calls a1_0 a1_1 t244 t245 _ A11.out).mono ?_
    rintro e w25 ⟨rfl, hb⟩
    refine ⟨_, rfl, ?_⟩
    replace HO243 := rb_ HO243 hb
    replace BK238 := Aside0.mk (bb_ BK238 hb)
    replace BK239 := Aside0.mk (bb_ BK239 hb)
    replace BK250 := Aside0.mk (bb_ BK250 hb)
    replace HB := Aside0.mk (bt_ HB hb)
    (try clear hb)
    (try clear hb2)
    (try clear hk)
    (try clear hi)
    obtain ⟨Ao26, co26, eo26⟩ := Kd.R_slice HO243.out
    (first | subst eo26 | (injection eo26 with f1_ f2_ f3_; have f4_ := f1_.symm; have f5_ := f3_.symm; clear f1_ f2_ f3_; subst f4_; subst f5_))
    refine hK.out _ _ ⟨(blk_cell BK238.out 0).trans rfl, (blk_cell BK239.out 0).trans rfl, (blk_cell BK239.out 1).trans rfl⟩ (fun hHeld => ?_)
    clear hK K
    refine nz_ 25 ?_
    refine one_ (i := 4) (N := some 26) ba10_13 rfl rfl (one_of HT_.out (by kernel_rfl)) (by decide) (fun K hK => ?_)
    refine gz_ Try.func8 #[.agg #[.slice Ao26 t241.length co26], .agg #[.int .i64 t244, .int .i64 t245]] ?_
    with_reducible refine (spec_DropRoute.calls k _ _ t241 t244 t245 t246 t249 _ ?side1 ?side2 A12.out).mono ?_
    (case side1 => exact rc_ HO243)
    (case side2 => exact (Kd.R_reads' HO243.out).2.1)
    rintro e w27 ⟨v247, rfl, ho0, hb⟩
    refine ⟨_, rfl, ?_⟩
    have HO248 := Aside0.mk (Kd.R_lower (Kd.R_new' ho0 (Kd.R_lt (hd_ HO243))) (bz_ HB))
    replace HO243 := Aside0.mk (Kd.R_elder' (hd_ HO243) (Kd.R_base ho0) hb)
    replace BK238 := Aside0.mk (bb_ BK238 hb)
    replace BK239 := Aside0.mk (bb_ BK239 hb)
    replace BK250 := Aside0.mk (bb_ BK250 hb)
    replace HB := Aside0.mk (bt_ HB hb)
    (try clear hb)
    (try clear hb2)
    (try clear hk)
    (try clear hi)
    (try clear ho0)
    refine hK.out _ _ ⟨(blk_cell BK238.out 0).trans rfl, (blk_cell BK239.out 0).trans rfl, (blk_cell BK239.out 1).trans rfl⟩ (fun hHeld => ?_)
    clear hK K
    refine nz_ 26 ?_
    refine pz_ 5 21 ba10_14 HT_ ?_
    refine pz_ 6 27 ba10_15 HT_ ?_
    refine pz_ 7 28 ba10_3 HT_ ?_
    exact norm_ (by simp only [putAll, Act.put, List.setIfInBounds_toArray, List.set_cons_zero, List.set_cons_succ]) (hCont (.slice Ao26 t241.length co26, v247, gb250) _ ⟨hHeld, (by (with_reducible repeat (first | apply Kd.R_alloc | apply Kd.R_drewN | apply Kd.R_drew)); exact Kd.R_mono HO243.out (fun _ hk => hk.2)), (by (with_reducible repeat (first | apply Kd.R_alloc | apply Kd.R_drewN | apply Kd.R_drew)); exact Kd.R_mono HO248.out (fun _ hk => hk.2)), (by (with_reducible repeat (first | refine blk_drewN ?_ _ | refine blk_drew ?_ | refine blk_alloc ?_ _)); exact BK238.out), (by (with_reducible repeat (first | refine blk_drewN ?_ _ | refine blk_drew ?_ | refine blk_alloc ?_ _)); exact BK239.out), (by (with_reducible repeat (first | refine blk_drewN ?_ _ | refine blk_drew ?_ | refine blk_alloc ?_ _)); exact BK250.out), GW250.out, GE250.out, NB238_250.out, NB250_238.out, NB239_250.out, NB250_239.out, (by repeat (first | (with_reducible first | exact HB.out | apply below_alloc | apply pw_below_drewN | apply below_drew1 | refine below_set ?_ GE238.out | refine below_set ?_ GE239.out | refine below_set ?_ GE250.out) | exact HB.out))⟩)
  ·skip
   refine box_step ?hg (N := 6) ?hd (cs := #[.slice none 0 0]) (t := 30) ?hr ?_; (case hd => rfl); (case hg => rfl); (case hr => first | (go_simp; done) | (go_simp; rfl))
   intro gb250 hg w23 hbox hb
   have BK250 := Aside0.mk hbox
   have GW250 := ge_ HB hg
   have GE250 := ge_ HB hg
   have NB238_250 := nl_ BK238 hg
   have NB250_238 := ng_ BK238 hg
   have NB239_250 := nl_ BK239 hg
   have NB250_239 := ng_ BK239 hg
   replace HB := Aside0.mk (bt_ HB hb)
   replace BK238 := Aside0.mk (bb_ BK238 hb)
   replace BK239 := Aside0.mk (bb_ BK239 hb)
   clear hb hbox hg
   refine hK.out _ _ ⟨(blk_cell BK238.out 0).trans rfl, (blk_cell BK239.out 0).trans rfl, (blk_cell BK239.out 1).trans rfl⟩ (fun hHeld => ?_)
   clear hK K
   refine nz_ 6 ?_
   refine one_ (i := 1) (N := some 23) ba10_7 rfl rfl (one_of HT_.out (by kernel_rfl)) (by decide) (fun K hK => ?_)
   refine gz_ Try.func9 #[.agg #[.slice A0_0 l0_0.length c0_0]] ?_
   with_reducible refine (laws_toTable.calls k _ _ l0_0 t241 _ ?side1 ?side2 A10.out).mono ?_
   (case side1 => exact cb_ HR0_0 HB)
   (case side2 => exact HC0_0.out)
   rintro e w24 ⟨v242, rfl, ho0, hb⟩
   refine ⟨_, rfl, ?_⟩
   have HO243 := Aside0.mk (Kd.R_lower ho0 (bz_ HB))
   replace BK238 := Aside0.mk (bb_ BK238 hb)
   replace BK239 := Aside0.mk (bb_ BK239 hb)
   replace BK250 := Aside0.mk (bb_ BK250 hb)
   replace HB := Aside0.mk (bt_ HB hb)
   (try clear hb)
   (try clear hb2)
   (try clear hk)
   (try clear hi)
   (try clear ho0)
   refine hK.out _ _ ⟨(blk_cell BK238.out 0).trans rfl, (blk_cell BK239.out 0).trans rfl, (blk_cell BK239.out 1).trans rfl⟩ (fun hHeld => ?_)
   clear hK K
   refine nz_ 23 ?_
   refine one_ (i := 3) (N := some 25) ba10_9 rfl rfl (one_of HT_.out (by kernel_rfl)) (by decide) (fun K hK => ?_)
   refine gz_ Try.func10 #[.agg #[.int .i64 a1_0, .int .i64 a1_1]] ?_
   with_reducible refine (laws_toPrefix.calls a1_0 a1_1 t244 t245 _ A11.out).mono ?_
   rintro e w25 ⟨rfl, hb⟩
   refine ⟨_, rfl, ?_⟩
   replace HO243 := rb_ HO243 hb
   replace BK238 := Aside0.mk (bb_ BK238 hb)
   replace BK239 := Aside0.mk (bb_ BK239 hb)
   replace BK250 := Aside0.mk (bb_ BK250 hb)
   replace HB := Aside0.mk (bt_ HB hb)
   (try clear hb)
   (try clear hb2)
   (try clear hk)
   (try clear hi)
   obtain ⟨Ao26, co26, eo26⟩ := Kd.R_slice HO243.out
   (first | subst eo26 | (injection eo26 with f1_ f2_ f3_; have f4_ := f1_.symm; have f5_ := f3_.symm; clear f1_ f2_ f3_; subst f4_; subst f5_))
   refine hK.out _ _ ⟨(blk_cell BK238.out 0).trans rfl, (blk_cell BK239.out 0).trans rfl, (blk_cell BK239.out 1).trans rfl⟩ (fun hHeld => ?_)
   clear hK K
   refine nz_ 25 ?_
   refine one_ (i := 4) (N := some 26) ba10_13 rfl rfl (one_of HT_.out (by kernel_rfl)) (by decide) (fun K hK => ?_)
   refine gz_ Try.func8 #[.agg #[.slice Ao26 t241.length co26], .agg #[.int .i64 t244, .int .i64 t245]] ?_
   with_reducible refine (spec_DropRoute.calls k _ _ t241 t244 t245 t246 t249 _ ?side1 ?side2 A12.out).mono ?_
   (case side1 => exact rc_ HO243)
   (case side2 => exact (Kd.R_reads' HO243.out).2.1)
   rintro e w27 ⟨v247, rfl, ho0, hb⟩
   refine ⟨_, rfl, ?_⟩
   have HO248 := Aside0.mk (Kd.R_lower (Kd.R_new' ho0 (Kd.R_lt (hd_ HO243))) (bz_ HB))
   replace HO243 := Aside0.mk (Kd.R_elder' (hd_ HO243) (Kd.R_base ho0) hb)
   replace BK238 := Aside0.mk (bb_ BK238 hb)
   replace BK239 := Aside0.mk (bb_ BK239 hb)
   replace BK250 := Aside0.mk (bb_ BK250 hb)
   replace HB := Aside0.mk (bt_ HB hb)
   (try clear hb)
   (try clear hb2)
   (try clear hk)
   (try clear hi)
   (try clear ho0)
   refine hK.out _ _ ⟨(blk_cell BK238.out 0).trans rfl, (blk_cell BK239.out 0).trans rfl, (blk_cell BK239.out 1).trans rfl⟩ (fun hHeld => ?_)
   clear hK K
   refine nz_ 26 ?_
   refine pz_ 5 21 ba10_14 HT_ ?_
   refine pz_ 6 27 ba10_15 HT_ ?_
   refine pz_ 7 28 ba10_3 HT_ ?_
   exact norm_ (by simp only [putAll, Act.put, List.setIfInBounds_toArray, List.set_cons_zero, List.set_cons_succ]) (hCont (.slice Ao26 t241.length co26, v247, gb250) _ ⟨hHeld, (by (with_reducible repeat (first | apply Kd.R_alloc | apply Kd.R_drewN | apply Kd.R_drew)); exact Kd.R_mono HO243.out (fun _ hk => hk.2)), (by (with_reducible repeat (first | apply Kd.R_alloc | apply Kd.R_drewN | apply Kd.R_drew)); exact Kd.R_mono HO248.out (fun _ hk => hk.2)), (by (with_reducible repeat (first | refine blk_drewN ?_ _ | refine blk_drew ?_ | refine blk_alloc ?_ _)); exact BK238.out), (by (with_reducible repeat (first | refine blk_drewN ?_ _ | refine blk_drew ?_ | refine blk_alloc ?_ _)); exact BK239.out), (by (with_reducible repeat (first | refine blk_drewN ?_ _ | refine blk_drew ?_ | refine blk_alloc ?_ _)); exact BK250.out), GW250.out, GE250.out, NB238_250.out, NB250_238.out, NB239_250.out, NB250_239.out, (by repeat (first | (with_reducible first | exact HB.out | apply below_alloc | apply pw_below_drewN | apply below_drew1 | refine below_set ?_ GE238.out | refine below_set ?_ GE239.out | refine below_set ?_ GE250.out) | exact HB.out))⟩)
 rintro ⟨v242, v247, gb250⟩ w28 ⟨hS_, h0_, h1_, h2_, h3_, h4_, h5_, h6_, h7_, h8_, h9_, h10_, h11_⟩
 have HO243 : Aside0 (Kd.R k43 43 w28 w.heap.size (fun k_ => some k_ ≠ (v247 : Value).ownBlock) v242 t241) := ⟨h0_⟩
 have HO248 : Aside0 (Kd.R k43 43 w28 w.heap.size (fun k_ => some k_ ≠ (v242 : Value).ownBlock) v247 t246) := ⟨h1_⟩
 have BK250 : Aside0 (w28.heap[gb250]? = some (.cells #[.slice none 0 0] 30 (0, 0))) := ⟨h4_⟩
 have GW250 : Aside0 (w.heap.size ≤ gb250) := ⟨h5_⟩
 have GE250 : Aside0 (w.heap.size ≤ gb250) := ⟨h6_⟩
 have NB238_250 : Aside0 (gb238 ≠ gb250) := ⟨h7_⟩
 have NB250_238 : Aside0 (gb250 ≠ gb238) := ⟨h8_⟩
 have NB239_250 : Aside0 (gb239 ≠ gb250) := ⟨h9_⟩
 have NB250_239 : Aside0 (gb250 ≠ gb239) := ⟨h10_⟩
 replace BK238 : Aside0 (w28.heap[gb238]? = some (.cells #[.slice A0_0 l0_0.length c0_0] 24 (0, 0))) := ⟨h2_⟩
 replace BK239 : Aside0 (w28.heap[gb239]? = some (.cells #[.int .i64 a1_0, .int .i64 a1_1] 26 (0, 0))) := ⟨h3_⟩
 replace HB : Aside0 (Below w.heap.size w w28) := ⟨h11_⟩
 clear h0_ h1_ h2_ h3_ h4_ h5_ h6_ h7_ h8_ h9_ h10_ h11_
 have hHeld : w28.cell? ⟨gb238, 0, none⟩ = some (.slice A0_0 l0_0.length c0_0) ∧ w28.cell? ⟨gb239, 0, none⟩ = some (.int .i64 a1_0) ∧ w28.cell? ⟨gb239, 1, none⟩ = some (.int .i64 a1_1) := hS_
 obtain ⟨Ao29, co29, eo29⟩ := Kd.R_slice HO248.out
 (first | subst eo29 | (injection eo29 with f1_ f2_ f3_; have f4_ := f1_.symm; have f5_ := f3_.symm; clear f1_ f2_ f3_; subst f4_; subst f5_))
 refine norm_ (a' := ?_) ?_ ?_
 rotate_left; · simp only [putAll, Act.put, List.setIfInBounds_toArray, List.set_cons_zero, List.set_cons_succ]; rfl
 refine one_ (i := 9) (N := none) ba10_16 rfl rfl (one_of HT_.out (by kernel_rfl)) (by decide) (fun K hK => ?_)
 have hs30 : w28.cell? ⟨gb250, 0, none⟩ = some (.slice none 0 0) := (blk_cell BK250.out 0).trans rfl
 have hfs30 := blk_frozen BK250.out 0
 have hns30_0 := NB238_250.out
 have hns30_1 := NB239_250.out
 have hms30_0 := NB250_238.out
 have hms30_1 := NB250_239.out
 refine skip_ (w1 := ?_) (by rfl) rfl ?_ ?_
 rotate_left; · go_simp; rfl
 refine hK.out _ _ ⟨((cell_far (p := ⟨gb250, _, none⟩) NB238_250.out _).trans (hHeld.1)), ((cell_far (p := ⟨gb250, _, none⟩) NB239_250.out _).trans (hHeld.2.1)), ((cell_far (p := ⟨gb250, _, none⟩) NB239_250.out _).trans (hHeld.2.2))⟩ (fun hHeld => ?_)
 clear hK K
 refine pz_ 10 7 ba10_17 HT_ ?_
 refine done_ (done_of HT_.out (by kernel_rfl)) ?_
 have hnb31 := NB238_250.out
 have hnc31 := NB250_238.out
 have hcz32_0 := cz_ BK238 0 (.slice A0_0 l0_0.length c0_0)
 have hfz32_0 := blk_frozen BK238.out 0
 try go_wp2_with (first | ((with_reducible refine gate_callee (f := 9) rfl ?_); refine gl_ (some 30) Try.func9 #[.agg #[.slice A0_0 l0_0.length c0_0]] ?_; (with_reducible refine (laws_toTable.calls k _ _ l0_0 t251 _ ?side1 ?side2 A13.out).mono ?_); (case side1 => exact Kd.C_below HR0_0.out (by repeat (first | (with_reducible first | exact HB.out | apply below_alloc | apply pw_below_drewN | apply below_drew1 | refine below_set ?_ GE238.out | refine below_set ?_ GE239.out | refine below_set ?_ GE250.out) | exact HB.out))); (case side2 => exact HC0_0.out); rintro e w33 ⟨v252, rfl, ho0, hb⟩; refine ⟨_, rfl, ?_⟩; have HO253 := Aside0.mk (Kd.R_lower (Kd.R_new' (Kd.R_new' ho0 (Kd.R_lt (hs_ HO243 BK250))) (Kd.R_lt (hs_ HO248 BK250))) (bz_ HB)); replace HO243 := Aside0.mk (Kd.R_elder' (hs_ HO243 BK250) (Kd.R_base ho0) hb); replace HO248 := Aside0.mk (Kd.R_elder' (hs_ HO248 BK250) (Kd.R_base ho0) hb); replace BK238 := bf_ BK238 NB238_250 hb; replace BK239 := bf_ BK239 NB239_250 hb; replace BK250 := Aside0.mk (blk_below (g := gb250) (o := .cells #[.slice Ao29 t246.length co29] 30 (0, 0)) (by (with_reducible repeat (first | refine blk_drewN ?_ _ | refine blk_drew ?_ | refine blk_alloc ?_ _)); refine blk_put (cs := #[.slice none 0 0]) ?_ 0 _ rfl; (with_reducible repeat (first | refine blk_drewN ?_ _ | refine blk_drew ?_ | refine blk_alloc ?_ _)); exact BK250.out) hb); replace HB := Aside0.mk (bt_ HB hb); (try clear hb); (try clear hb2); (try clear hk); (try clear hi); (try clear ho0)) | ((with_reducible refine gate_dst (N := 8) rfl ?_); refine box_event ?hg (N := 8) ?hd (cs := #[.slice none 0 0]) (t := 30) ?hr ?_; (case hd => rfl); (case hg => rfl); (case hr => first | (go_simp; done) | (go_simp; rfl)); intro gb254 hg w34 hbox hb; have BK254 := Aside0.mk hbox; have GW254 := ge_ HB hg; have GE254 := ge_ HB hg; have NB238_254 := nl_ BK238 hg; have NB254_238 := ng_ BK238 hg; have NB239_254 := nl_ BK239 hg; have NB254_239 := ng_ BK239 hg; have NB250_254 := nl_ BK250 hg; have NB254_250 := ng_ BK250 hg; replace HO243 := rb_ HO243 hb; replace HO248 := rb_ HO248 hb; replace HO253 := rb_ HO253 hb; replace HB := Aside0.mk (bt_ HB hb); replace BK238 := Aside0.mk (bb_ BK238 hb); replace BK239 := Aside0.mk (bb_ BK239 hb); replace BK250 := Aside0.mk (bb_ BK250 hb); clear hb hbox hg; obtain ⟨Ao35, co35, eo35⟩ := Kd.R_slice HO253.out; subst eo35; have hnb36 := NB254_238.out; have hnc36 := NB238_254.out; have hnb37 := NB254_239.out; have hnc37 := NB239_254.out; have hnb38 := NB254_250.out; have hnc38 := NB250_254.out; have hcz39_0 := cz_ BK254 0 (.slice none 0 0); have hfz39_0 := blk_frozen BK254.out 0))
 have n0_ : Aside0 (Kd.R k43 43 (w34.setCell ⟨gb254, 0, none⟩ (.slice Ao35 t251.length co35)) w.heap.size (fun k_ => some k_ ≠ (.slice Ao29 t246.length co29 : Value).ownBlock ∧ some k_ ≠ (.slice Ao35 t251.length co35 : Value).ownBlock) v242 t241) := ⟨by (with_reducible repeat (first | apply Kd.R_alloc | apply Kd.R_drewN | apply Kd.R_drew)); exact Kd.R_mono (Kd.R_far (p := ⟨gb254, 0, none⟩) (Kd.R_types HO243.out BK254.out (by decide)) (fun _ hk => hk.2) (.slice Ao35 t251.length co35)) (fun _ hk => by first | exact ⟨hk.1.1, hk.1.2⟩ | grind)⟩
 have n1_ : Aside0 (Kd.R k43 43 (w34.setCell ⟨gb254, 0, none⟩ (.slice Ao35 t251.length co35)) w.heap.size (fun k_ => some k_ ≠ (v242 : Value).ownBlock ∧ some k_ ≠ (.slice Ao35 t251.length co35 : Value).ownBlock) (.slice Ao29 t246.length co29) t246) := ⟨by (with_reducible repeat (first | apply Kd.R_alloc | apply Kd.R_drewN | apply Kd.R_drew)); exact Kd.R_mono (Kd.R_far (p := ⟨gb254, 0, none⟩) (Kd.R_types HO248.out BK254.out (by decide)) (fun _ hk => hk.2) (.slice Ao35 t251.length co35)) (fun _ hk => by first | exact ⟨hk.1.1, hk.1.2⟩ | grind)⟩
 have n2_ : Aside0 (Kd.R k43 43 (w34.setCell ⟨gb254, 0, none⟩ (.slice Ao35 t251.length co35)) w.heap.size (fun k_ => some k_ ≠ (v242 : Value).ownBlock ∧ some k_ ≠ (.slice Ao29 t246.length co29 : Value).ownBlock) (.slice Ao35 t251.length co35) t251) := ⟨by (with_reducible repeat (first | apply Kd.R_alloc | apply Kd.R_drewN | apply Kd.R_drew)); exact Kd.R_mono (Kd.R_far (p := ⟨gb254, 0, none⟩) (Kd.R_types HO253.out BK254.out (by decide)) (fun _ hk => hk.2) (.slice Ao35 t251.length co35)) (fun _ hk => by first | exact ⟨hk.1.1.2, hk.1.2⟩ | grind)⟩
 have n3_ : Aside0 ((w34.setCell ⟨gb254, 0, none⟩ (.slice Ao35 t251.length co35)).heap[gb238]? = some (.cells #[.slice A0_0 l0_0.length c0_0] 24 (0, 0))) := ⟨by (with_reducible repeat (first | refine blk_drewN ?_ _ | refine blk_drew ?_ | refine blk_alloc ?_ _)); refine blk_far ?_ NB238_254.out _; (with_reducible repeat (first | refine blk_drewN ?_ _ | refine blk_drew ?_ | refine blk_alloc ?_ _)); exact BK238.out⟩
 have n4_ : Aside0 ((w34.setCell ⟨gb254, 0, none⟩ (.slice Ao35 t251.length co35)).heap[gb239]? = some (.cells #[.int .i64 a1_0, .int .i64 a1_1] 26 (0, 0))) := ⟨by (with_reducible repeat (first | refine blk_drewN ?_ _ | refine blk_drew ?_ | refine blk_alloc ?_ _)); refine blk_far ?_ NB239_254.out _; (with_reducible repeat (first | refine blk_drewN ?_ _ | refine blk_drew ?_ | refine blk_alloc ?_ _)); exact BK239.out⟩
 have n5_ : Aside0 ((w34.setCell ⟨gb254, 0, none⟩ (.slice Ao35 t251.length co35)).heap[gb250]? = some (.cells #[.slice Ao29 t246.length co29] 30 (0, 0))) := ⟨by (with_reducible repeat (first | refine blk_drewN ?_ _ | refine blk_drew ?_ | refine blk_alloc ?_ _)); refine blk_far ?_ NB250_254.out _; (with_reducible repeat (first | refine blk_drewN ?_ _ | refine blk_drew ?_ | refine blk_alloc ?_ _)); exact BK250.out⟩
 have n6_ : Aside0 ((w34.setCell ⟨gb254, 0, none⟩ (.slice Ao35 t251.length co35)).heap[gb254]? = some (.cells #[.slice Ao35 t251.length co35] 30 (0, 0))) := ⟨by (with_reducible repeat (first | refine blk_drewN ?_ _ | refine blk_drew ?_ | refine blk_alloc ?_ _)); refine blk_put (cs := #[.slice none 0 0]) ?_ 0 _ rfl; (with_reducible repeat (first | refine blk_drewN ?_ _ | refine blk_drew ?_ | refine blk_alloc ?_ _)); exact BK254.out⟩
 have n7_ : Aside0 (Below w.heap.size w (w34.setCell ⟨gb254, 0, none⟩ (.slice Ao35 t251.length co35))) := ⟨by repeat (first | (with_reducible first | exact HB.out | apply below_alloc | apply pw_below_drewN | apply below_drew1 | refine below_set ?_ GE238.out | refine below_set ?_ GE239.out | refine below_set ?_ GE250.out | refine below_set ?_ GE254.out) | exact HB.out)⟩
 (try clear HO243)
 (try clear HO248)
 (try clear HO253)
 (try clear BK238)
 (try clear BK239)
 (try clear BK250)
 (try clear BK254)
 (try clear HB)
 generalize (w34.setCell ⟨gb254, 0, none⟩ (.slice Ao35 t251.length co35)) = w40 at n0_ n1_ n2_ n3_ n4_ n5_ n6_ n7_ ⊢
 have HO243 := n0_
 have HO248 := n1_
 have HO253 := n2_
 have BK238 := n3_
 have BK239 := n4_
 have BK250 := n5_
 have BK254 := n6_
 have HB := n7_
 clear n0_ n1_ n2_ n3_ n4_ n5_ n6_ n7_
 replace HO243 := Aside0.mk (Kd.R_drew HO243.out)
 replace HO248 := Aside0.mk (Kd.R_drew HO248.out)
 replace HO253 := Aside0.mk (Kd.R_drew HO253.out)
 replace BK238 := Aside0.mk (blk_drew BK238.out)
 replace BK239 := Aside0.mk (blk_drew BK239.out)
 replace BK250 := Aside0.mk (blk_drew BK250.out)
 replace BK254 := Aside0.mk (blk_drew BK254.out)
 replace HB := Aside0.mk (below_drew1 HB.out)
 refine start_ (n := 10) (S := fun w' => w'.cell? ⟨gb254, 0, none⟩ = some (.slice Ao35 t251.length co35) ∧ w'.cell? ⟨gb239, 0, none⟩ = some (.int .i64 a1_0) ∧ w'.cell? ⟨gb239, 1, none⟩ = some (.int .i64 a1_1)) (ds := []) ba10_18 (by kernel_rfl) rfl rfl ⟨(blk_cell BK254.out 0).trans rfl, (blk_cell BK239.out 0).trans rfl, (blk_cell BK239.out 1).trans rfl⟩ (fun hHeld => ?_); refine with_tabW laws_FnExactDropRoute.tab7 laws_FnExactDropRoute.bits7 (fun HT_ HW_ => ?_)
 generalize w40.drew = w41 at HO243 HO248 HO253 BK238 BK239 BK250 BK254 HB hHeld ⊢
 refine pt_ 0 32 ba10_19 HT_ HW_ hHeld ?_
 refine pt_ 1 33 ba10_20 HT_ HW_ hHeld ?_
 refine join_ (σ := Value × Nat) 2 ba10_21 (fun s_ => [(34, .agg #[.int .i64 t255, .int .i64 t256]), (35, .tuple #[.agg #[s_.1], .bool t260]), (9, .pointer (some ⟨s_.2, 0, none⟩)), (31, .tuple #[.agg #[s_.1], .bool t260]), (36, .agg #[s_.1]), (37, .bool t260)]) (fun s_ w' => (w'.cell? ⟨gb254, 0, none⟩ = some (.slice Ao35 t251.length co35) ∧ w'.cell? ⟨gb239, 0, none⟩ = some (.int .i64 a1_0) ∧ w'.cell? ⟨gb239, 1, none⟩ = some (.int .i64 a1_1)) ∧ (Kd.R k43 43 w' w.heap.size (fun k_ => some k_ ≠ (.slice Ao29 t246.length co29 : Value).ownBlock ∧ some k_ ≠ (.slice Ao35 t251.length co35 : Value).ownBlock ∧ some k_ ≠ (s_.1 : Value).ownBlock) v242 t241) ∧ (Kd.R k43 43 w' w.heap.size (fun k_ => some k_ ≠ (v242 : Value).ownBlock ∧ some k_ ≠ (.slice Ao35 t251.length co35 : Value).ownBlock ∧ some k_ ≠ (s_.1 : Value).ownBlock) (.slice Ao29 t246.length co29) t246) ∧ (Kd.R k43 43 w' w.heap.size (fun k_ => some k_ ≠ (v242 : Value).ownBlock ∧ some k_ ≠ (.slice Ao29 t246.length co29 : Value).ownBlock ∧ some k_ ≠ (s_.1 : Value).ownBlock) (.slice Ao35 t251.length co35) t251) ∧ (Kd.R k43 43 w' w.heap.size (fun k_ => some k_ ≠ (v242 : Value).ownBlock ∧ some k_ ≠ (.slice Ao29 t246.length co29 : Value).ownBlock ∧ some k_ ≠ (.slice Ao35 t251.length co35 : Value).ownBlock) s_.1 t257) ∧ (w'.heap[gb238]? = some (.cells #[.slice A0_0 l0_0.length c0_0] 24 (0, 0))) ∧ (w'.heap[gb239]? = some (.cells #[.int .i64 a1_0, .int .i64 a1_1] 26 (0, 0))) ∧ (w'.heap[gb250]? = some (.cells #[.slice Ao29 t246.length co29] 30 (0, 0))) ∧ (w'.heap[gb254]? = some (.cells #[.slice Ao35 t251.length co35] 30 (0, 0))) ∧ (w'.heap[s_.2]? = some (.cells #[.slice none 0 0] 30 (0, 0))) ∧ (w.heap.size ≤ s_.2) ∧ (w.heap.size ≤ s_.2) ∧ (gb238 ≠ s_.2) ∧ (s_.2 ≠ gb238) ∧ (gb239 ≠ s_.2) ∧ (s_.2 ≠ gb239) ∧ (gb250 ≠ s_.2) ∧ (s_.2 ≠ gb250) ∧ (gb254 ≠ s_.2) ∧ (s_.2 ≠ gb254) ∧ (Below w.heap.size w w')) ?_ ?_
 rotate_left
 ·intro hCont
  refine two_ (i := 2) (j := 7) (Ni := some 34) (Nj := some 9) ba10_22 ba10_23 rfl rfl rfl rfl (two_of HT_.out (by kernel_rfl)) (by decide) (by decide) (fun K hK => ?_) (fun K hK => ?_)
  ·skip
   refine gz_ Try.func10 #[.agg #[.int .i64 a1_0, .int .i64 a1_1]] ?_
   with_reducible refine (laws_toPrefix.calls a1_0 a1_1 t255 t256 _ A14.out).mono ?_
   rintro e w42 ⟨rfl, hb⟩
   refine ⟨_, rfl, ?_⟩
   replace HO243 := rb_ HO243 hb
   replace HO248 := rb_ HO248 hb
   replace HO253 := rb_ HO253 hb
   replace BK238 := Aside0.mk (bb_ BK238 hb)
   replace BK239 := Aside0.mk (bb_ BK239 hb)
   replace BK250 := Aside0.mk (bb_ BK250 hb)
   replace BK254 := Aside0.mk (bb_ BK254 hb)
   replace HB := Aside0.mk (bt_ HB hb)
   (try clear hb)
   (try clear hb2)
   (try clear hk)
   (try clear hi)
   refine hK.out _ _ ⟨(blk_cell BK254.out 0).trans rfl, (blk_cell BK239.out 0).trans rfl, (blk_cell BK239.out 1).trans rfl⟩ (fun hHeld => ?_)
   clear hK K
   refine nz_ 34 ?_
   refine two_ (i := 3) (j := 7) (Ni := some 35) (Nj := some 9) ba10_24 ba10_25 rfl rfl rfl rfl (two_of HT_.out (by kernel_rfl)) (by decide) (by decide) (fun K hK => ?_) (fun K hK => ?_)
   ·skip
    refine gz_ Try.func11 #[.agg #[.slice Ao35 t251.length co35], .agg #[.int .i64 t255, .int .i64 t256]] ?_
    with_reducible refine (impl_DropRoute.calls k _ _ t251 t255 t256 t257 t260 _ ?side1 ?side2 A15.out).mono ?_
    (case side1 => exact rc_ HO253)
    (case side2 => exact (Kd.R_reads' HO253.out).2.1)
    rintro e w43 ⟨v258, rfl, ho0, hb⟩
    refine ⟨_, rfl, ?_⟩
    have HO259 := Aside0.mk (Kd.R_lower (Kd.R_new' (Kd.R_new' (Kd.R_new' ho0 (Kd.R_lt (hd_ HO243))) (Kd.R_lt (hd_ HO248))) (Kd.R_lt (hd_ HO253))) (bz_ HB))
    replace HO243 := Aside0.mk (Kd.R_elder' (hd_ HO243) (Kd.R_base ho0) hb)
    replace HO248 := Aside0.mk (Kd.R_elder' (hd_ HO248) (Kd.R_base ho0) hb)
    replace HO253 := Aside0.mk (Kd.R_elder' (hd_ HO253) (Kd.R_base ho0) hb)
    replace BK238 := Aside0.mk (bb_ BK238 hb)
    replace BK239 := Aside0.mk (bb_ BK239 hb)
    replace BK250 := Aside0.mk (bb_ BK250 hb)
    replace BK254 := Aside0.mk (bb_ BK254 hb)
    replace HB := Aside0.mk (bt_ HB hb)
    (try clear hb)
    (try clear hb2)
    (try clear hk)
    (try clear hi)
    (try clear ho0)
    refine hK.out _ _ ⟨(blk_cell BK254.out 0).trans rfl, (blk_cell BK239.out 0).trans rfl, (blk_cell BK239.out 1).trans rfl⟩ (fun hHeld => ?_)
    clear hK K
    refine nz_ 35 ?_
    refine pz_ 4 31 ba10_26 HT_ ?_
    refine pz_ 5 36 ba10_27 HT_ ?_
    refine pz_ 6 37 ba10_28 HT_ ?_
    refine one_ (i := 7) (N := some 9) ba10_21 rfl rfl (one_of HT_.out (by kernel_rfl)) (by decide) (fun K hK => ?_)
    refine box_step ?hg (N := 9) ?hd (cs := #[.slice none 0 0]) (t := 30) ?hr ?_; (case hd => rfl); (case hg => rfl); (case hr => first | (go_simp; done) | (go_simp; rfl))
    intro gb261 hg w44 hbox hb
    have BK261 := Aside0.mk hbox
    have GW261 := ge_ HB hg
    have GE261 := ge_ HB hg
    have NB238_261 := nl_ BK238 hg
    have NB261_238 := ng_ BK238 hg
    have NB239_261 := nl_ BK239 hg
    have NB261_239 := ng_ BK239 hg
    have NB250_261 := nl_ BK250 hg
    have NB261_250 := ng_ BK250 hg
    have NB254_261 := nl_ BK254 hg
    have NB261_254 := ng_ BK254 hg
    replace HO243 := rb_ HO243 hb
    replace HO248 := rb_ HO248 hb
    replace HO253 := rb_ HO253 hb
    replace HO259 := rb_ HO259 hb
    replace HB := Aside0.mk (bt_ HB hb)
    replace BK238 := Aside0.mk (bb_ BK238 hb)
    replace BK239 := Aside0.mk (bb_ BK239 hb)
    replace BK250 := Aside0.mk (bb_ BK250 hb)
    replace BK254 := Aside0.mk (bb_ BK254 hb)
    clear hb hbox hg
    refine hK.out _ _ ⟨(blk_cell BK254.out 0).trans rfl, (blk_cell BK239.out 0).trans rfl, (blk_cell BK239.out 1).trans rfl⟩ (fun hHeld => ?_)
    clear hK K
    refine nz_ 9 ?_
    exact norm_ (by simp only [putAll, Act.put, List.setIfInBounds_toArray, List.set_cons_zero, List.set_cons_succ]) (hCont (v258, gb261) _ ⟨hHeld, (by (with_reducible repeat (first | apply Kd.R_alloc | apply Kd.R_drewN | apply Kd.R_drew)); exact Kd.R_mono HO243.out (fun _ hk => ⟨hk.1.1, ⟨hk.1.2, hk.2⟩⟩)), (by (with_reducible repeat (first | apply Kd.R_alloc | apply Kd.R_drewN | apply Kd.R_drew)); exact Kd.R_mono HO248.out (fun _ hk => ⟨hk.1.1, ⟨hk.1.2, hk.2⟩⟩)), (by (with_reducible repeat (first | apply Kd.R_alloc | apply Kd.R_drewN | apply Kd.R_drew)); exact Kd.R_mono HO253.out (fun _ hk => ⟨hk.1.1, ⟨hk.1.2, hk.2⟩⟩)), (by (with_reducible repeat (first | apply Kd.R_alloc | apply Kd.R_drewN | apply Kd.R_drew)); exact Kd.R_mono HO259.out (fun _ hk => ⟨hk.1.1.2, ⟨hk.1.2, hk.2⟩⟩)), (by (with_reducible repeat (first | refine blk_drewN ?_ _ | refine blk_drew ?_ | refine blk_alloc ?_ _)); exact BK238.out), (by (with_reducible repeat (first | refine blk_drewN ?_ _ | refine blk_drew ?_ | refine blk_alloc ?_ _)); exact BK239.out), (by (with_reducible repeat (first | refine blk_drewN ?_ _ | refine blk_drew ?_ | refine blk_alloc ?_ _)); exact BK250.out), (by (with_reducible repeat (first | refine blk_drewN ?_ _ | refine blk_drew ?_ | refine blk_alloc ?_ _)); exact BK254.out), (by (with_reducible repeat (first | refine blk_drewN ?_ _ | refine blk_drew ?_ | refine blk_alloc ?_ _)); exact BK261.out), GW261.out, GE261.out, NB238_261.out, NB261_238.out, NB239_261.out, NB261_239.out, NB250_261.out, NB261_250.out, NB254_261.out, NB261_254.out, (by repeat (first | (with_reducible first | exact HB.out | apply below_alloc | apply pw_below_drewN | apply below_drew1 | refine below_set ?_ GE238.out | refine below_set ?_ GE239.out | refine below_set ?_ GE250.out | refine below_set ?_ GE254.out | refine below_set ?_ GE261.out) | exact HB.out))⟩)
   ·skip
    refine box_step ?hg (N := 9) ?hd (cs := #[.slice none 0 0]) (t := 30) ?hr ?_; (case hd => rfl); (case hg => rfl); (case hr => first | (go_simp; done) | (go_simp; rfl))
    intro gb261 hg w43 hbox hb
    have BK261 := Aside0.mk hbox
    have GW261 := ge_ HB hg
    have GE261 := ge_ HB hg
    have NB238_261 := nl_ BK238 hg
    have NB261_238 := ng_ BK238 hg
    have NB239_261 := nl_ BK239 hg
    have NB261_239 := ng_ BK239 hg
    have NB250_261 := nl_ BK250 hg
    have NB261_250 := ng_ BK250 hg
    have NB254_261 := nl_ BK254 hg
    have NB261_254 := ng_ BK254 hg
    replace HO243 := rb_ HO243 hb
    replace HO248 := rb_ HO248 hb
    replace HO253 := rb_ HO253 hb
    replace HB := Aside0.mk (bt_ HB hb)
    replace BK238 := Aside0.mk (bb_ BK238 hb)
    replace BK239 := Aside0.mk (bb_ BK239 hb)
    replace BK250 := Aside0.mk (bb_ BK250 hb)
    replace BK254 := Aside0.mk (bb_ BK254 hb)
    clear hb hbox hg
    refine hK.out _ _ ⟨(blk_cell BK254.out 0).trans rfl, (blk_cell BK239.out 0).trans rfl, (blk_cell BK239.out 1).trans rfl⟩ (fun hHeld => ?_)
    clear hK K
    refine nz_ 9 ?_
    refine one_ (i := 3) (N := some 35) ba10_29 rfl rfl (one_of HT_.out (by kernel_rfl)) (by decide) (fun K hK => ?_)
    refine gz_ Try.func11 #[.agg #[.slice Ao35 t251.length co35], .agg #[.int .i64 t255, .int .i64 t256]] ?_
    with_reducible refine (impl_DropRoute.calls k _ _ t251 t255 t256 t257 t260 _ ?side1 ?side2 A15.out).mono ?_
    (case side1 => exact rc_ HO253)
    (case side2 => exact (Kd.R_reads' HO253.out).2.1)
    rintro e w44 ⟨v258, rfl, ho0, hb⟩
    refine ⟨_, rfl, ?_⟩
    have HO259 := Aside0.mk (Kd.R_lower (Kd.R_new' (Kd.R_new' (Kd.R_new' ho0 (Kd.R_lt (hd_ HO243))) (Kd.R_lt (hd_ HO248))) (Kd.R_lt (hd_ HO253))) (bz_ HB))
    replace HO243 := Aside0.mk (Kd.R_elder' (hd_ HO243) (Kd.R_base ho0) hb)
    replace HO248 := Aside0.mk (Kd.R_elder' (hd_ HO248) (Kd.R_base ho0) hb)
    replace HO253 := Aside0.mk (Kd.R_elder' (hd_ HO253) (Kd.R_base ho0) hb)
    replace BK238 := Aside0.mk (bb_ BK238 hb)
    replace BK239 := Aside0.mk (bb_ BK239 hb)
    replace BK250 := Aside0.mk (bb_ BK250 hb)
    replace BK254 := Aside0.mk (bb_ BK254 hb)
    replace BK261 := Aside0.mk (bb_ BK261 hb)
    replace HB := Aside0.mk (bt_ HB hb)
    (try clear hb)
    (try clear hb2)
    (try clear hk)
    (try clear hi)
    (try clear ho0)
    refine hK.out _ _ ⟨(blk_cell BK254.out 0).trans rfl, (blk_cell BK239.out 0).trans rfl, (blk_cell BK239.out 1).trans rfl⟩ (fun hHeld => ?_)
    clear hK K
    refine nz_ 35 ?_
    refine pz_ 4 31 ba10_30 HT_ ?_
    refine pz_ 5 36 ba10_31 HT_ ?_
    refine pz_ 6 37 ba10_21 HT_ ?_
    exact norm_ (by simp only [putAll, Act.put, List.setIfInBounds_toArray, List.set_cons_zero, List.set_cons_succ]) (hCont (v258, gb261) _ ⟨hHeld, (by (with_reducible repeat (first | apply Kd.R_alloc | apply Kd.R_drewN | apply Kd.R_drew)); exact Kd.R_mono HO243.out (fun _ hk => ⟨hk.1.1, ⟨hk.1.2, hk.2⟩⟩)), (by (with_reducible repeat (first | apply Kd.R_alloc | apply Kd.R_drewN | apply Kd.R_drew)); exact Kd.R_mono HO248.out (fun _ hk => ⟨hk.1.1, ⟨hk.1.2, hk.2⟩⟩)), (by (with_reducible repeat (first | apply Kd.R_alloc | apply Kd.R_drewN | apply Kd.R_drew)); exact Kd.R_mono HO253.out (fun _ hk => ⟨hk.1.1, ⟨hk.1.2, hk.2⟩⟩)), (by (with_reducible repeat (first | apply Kd.R_alloc | apply Kd.R_drewN | apply Kd.R_drew)); exact Kd.R_mono HO259.out (fun _ hk => ⟨hk.1.1.2, ⟨hk.1.2, hk.2⟩⟩)), (by (with_reducible repeat (first | refine blk_drewN ?_ _ | refine blk_drew ?_ | refine blk_alloc ?_ _)); exact BK238.out), (by (with_reducible repeat (first | refine blk_drewN ?_ _ | refine blk_drew ?_ | refine blk_alloc ?_ _)); exact BK239.out), (by (with_reducible repeat (first | refine blk_drewN ?_ _ | refine blk_drew ?_ | refine blk_alloc ?_ _)); exact BK250.out), (by (with_reducible repeat (first | refine blk_drewN ?_ _ | refine blk_drew ?_ | refine blk_alloc ?_ _)); exact BK254.out), (by (with_reducible repeat (first | refine blk_drewN ?_ _ | refine blk_drew ?_ | refine blk_alloc ?_ _)); exact BK261.out), GW261.out, GE261.out, NB238_261.out, NB261_238.out, NB239_261.out, NB261_239.out, NB250_261.out, NB261_250.out, NB254_261.out, NB261_254.out, (by repeat (first | (with_reducible first | exact HB.out | apply below_alloc | apply pw_below_drewN | apply below_drew1 | refine below_set ?_ GE238.out | refine below_set ?_ GE239.out | refine below_set ?_ GE250.out | refine below_set ?_ GE254.out | refine below_set ?_ GE261.out) | exact HB.out))⟩)
  ·skip
   refine box_step ?hg (N := 9) ?hd (cs := #[.slice none 0 0]) (t := 30) ?hr ?_; (case hd => rfl); (case hg => rfl); (case hr => first | (go_simp; done) | (go_simp; rfl))
   intro gb261 hg w42 hbox hb
   have BK261 := Aside0.mk hbox
   have GW261 := ge_ HB hg
   have GE261 := ge_ HB hg
   have NB238_261 := nl_ BK238 hg
   have NB261_238 := ng_ BK238 hg
   have NB239_261 := nl_ BK239 hg
   have NB261_239 := ng_ BK239 hg
   have NB250_261 := nl_ BK250 hg
   have NB261_250 := ng_ BK250 hg
   have NB254_261 := nl_ BK254 hg
   have NB261_254 := ng_ BK254 hg
   replace HO243 := rb_ HO243 hb
   replace HO248 := rb_ HO248 hb
   replace HO253 := rb_ HO253 hb
   replace HB := Aside0.mk (bt_ HB hb)
   replace BK238 := Aside0.mk (bb_ BK238 hb)
   replace BK239 := Aside0.mk (bb_ BK239 hb)
   replace BK250 := Aside0.mk (bb_ BK250 hb)
   replace BK254 := Aside0.mk (bb_ BK254 hb)
   clear hb hbox hg
   refine hK.out _ _ ⟨(blk_cell BK254.out 0).trans rfl, (blk_cell BK239.out 0).trans rfl, (blk_cell BK239.out 1).trans rfl⟩ (fun hHeld => ?_)
   clear hK K
   refine nz_ 9 ?_
   refine one_ (i := 2) (N := some 34) ba10_25 rfl rfl (one_of HT_.out (by kernel_rfl)) (by decide) (fun K hK => ?_)
   refine gz_ Try.func10 #[.agg #[.int .i64 a1_0, .int .i64 a1_1]] ?_
   with_reducible refine (laws_toPrefix.calls a1_0 a1_1 t255 t256 _ A14.out).mono ?_
   rintro e w43 ⟨rfl, hb⟩
   refine ⟨_, rfl, ?_⟩
   replace HO243 := rb_ HO243 hb
   replace HO248 := rb_ HO248 hb
   replace HO253 := rb_ HO253 hb
   replace BK238 := Aside0.mk (bb_ BK238 hb)
   replace BK239 := Aside0.mk (bb_ BK239 hb)
   replace BK250 := Aside0.mk (bb_ BK250 hb)
   replace BK254 := Aside0.mk (bb_ BK254 hb)
   replace BK261 := Aside0.mk (bb_ BK261 hb)
   replace HB := Aside0.mk (bt_ HB hb)
   (try clear hb)
   (try clear hb2)
   (try clear hk)
   (try clear hi)
   refine hK.out _ _ ⟨(blk_cell BK254.out 0).trans rfl, (blk_cell BK239.out 0).trans rfl, (blk_cell BK239.out 1).trans rfl⟩ (fun hHeld => ?_)
   clear hK K
   refine nz_ 34 ?_
   refine one_ (i := 3) (N := some 35) ba10_29 rfl rfl (one_of HT_.out (by kernel_rfl)) (by decide) (fun K hK => ?_)
   refine gz_ Try.func11 #[.agg #[.slice Ao35 t251.length co35], .agg #[.int .i64 t255, .int .i64 t256]] ?_
   with_reducible refine (impl_DropRoute.calls k _ _ t251 t255 t256 t257 t260 _ ?side1 ?side2 A15.out).mono ?_
   (case side1 => exact rc_ HO253)
   (case side2 => exact (Kd.R_reads' HO253.out).2.1)
   rintro e w44 ⟨v258, rfl, ho0, hb⟩
   refine ⟨_, rfl, ?_⟩
   have HO259 := Aside0.mk (Kd.R_lower (Kd.R_new' (Kd.R_new' (Kd.R_new' ho0 (Kd.R_lt (hd_ HO243))) (Kd.R_lt (hd_ HO248))) (Kd.R_lt (hd_ HO253))) (bz_ HB))
   replace HO243 := Aside0.mk (Kd.R_elder' (hd_ HO243) (Kd.R_base ho0) hb)
   replace HO248 := Aside0.mk (Kd.R_elder' (hd_ HO248) (Kd.R_base ho0) hb)
   replace HO253 := Aside0.mk (Kd.R_elder' (hd_ HO253) (Kd.R_base ho0) hb)
   replace BK238 := Aside0.mk (bb_ BK238 hb)
   replace BK239 := Aside0.mk (bb_ BK239 hb)
   replace BK250 := Aside0.mk (bb_ BK250 hb)
   replace BK254 := Aside0.mk (bb_ BK254 hb)
   replace BK261 := Aside0.mk (bb_ BK261 hb)
   replace HB := Aside0.mk (bt_ HB hb)
   (try clear hb)
   (try clear hb2)
   (try clear hk)
   (try clear hi)
   (try clear ho0)
   refine hK.out _ _ ⟨(blk_cell BK254.out 0).trans rfl, (blk_cell BK239.out 0).trans rfl, (blk_cell BK239.out 1).trans rfl⟩ (fun hHeld => ?_)
   clear hK K
   refine nz_ 35 ?_
   refine pz_ 4 31 ba10_30 HT_ ?_
   refine pz_ 5 36 ba10_31 HT_ ?_
   refine pz_ 6 37 ba10_21 HT_ ?_
   exact norm_ (by simp only [putAll, Act.put, List.setIfInBounds_toArray, List.set_cons_zero, List.set_cons_succ]) (hCont (v258, gb261) _ ⟨hHeld, (by (with_reducible repeat (first | apply Kd.R_alloc | apply Kd.R_drewN | apply Kd.R_drew)); exact Kd.R_mono HO243.out (fun _ hk => ⟨hk.1.1, ⟨hk.1.2, hk.2⟩⟩)), (by (with_reducible repeat (first | apply Kd.R_alloc | apply Kd.R_drewN | apply Kd.R_drew)); exact Kd.R_mono HO248.out (fun _ hk => ⟨hk.1.1, ⟨hk.1.2, hk.2⟩⟩)), (by (with_reducible repeat (first | apply Kd.R_alloc | apply Kd.R_drewN | apply Kd.R_drew)); exact Kd.R_mono HO253.out (fun _ hk => ⟨hk.1.1, ⟨hk.1.2, hk.2⟩⟩)), (by (with_reducible repeat (first | apply Kd.R_alloc | apply Kd.R_drewN | apply Kd.R_drew)); exact Kd.R_mono HO259.out (fun _ hk => ⟨hk.1.1.2, ⟨hk.1.2, hk.2⟩⟩)), (by (with_reducible repeat (first | refine blk_drewN ?_ _ | refine blk_drew ?_ | refine blk_alloc ?_ _)); exact BK238.out), (by (with_reducible repeat (first | refine blk_drewN ?_ _ | refine blk_drew ?_ | refine blk_alloc ?_ _)); exact BK239.out), (by (with_reducible repeat (first | refine blk_drewN ?_ _ | refine blk_drew ?_ | refine blk_alloc ?_ _)); exact BK250.out), (by (with_reducible repeat (first | refine blk_drewN ?_ _ | refine blk_drew ?_ | refine blk_alloc ?_ _)); exact BK254.out), (by (with_reducible repeat (first | refine blk_drewN ?_ _ | refine blk_drew ?_ | refine blk_alloc ?_ _)); exact BK261.out), GW261.out, GE261.out, NB238_261.out, NB261_238.out, NB239_261.out, NB261_239.out, NB250_261.out, NB261_250.out, NB254_261.out, NB261_254.out, (by repeat (first | (with_reducible first | exact HB.out | apply below_alloc | apply pw_below_drewN | apply below_drew1 | refine below_set ?_ GE238.out | refine below_set ?_ GE239.out | refine below_set ?_ GE250.out | refine below_set ?_ GE254.out | refine below_set ?_ GE261.out) | exact HB.out))⟩)
 rintro ⟨v258, gb261⟩ w45 ⟨hS_, h0_, h1_, h2_, h3_, h4_, h5_, h6_, h7_, h8_, h9_, h10_, h11_, h12_, h13_, h14_, h15_, h16_, h17_, h18_, h19_⟩
 have HO259 : Aside0 (Kd.R k43 43 w45 w.heap.size (fun k_ => some k_ ≠ (v242 : Value).ownBlock ∧ some k_ ≠ (.slice Ao29 t246.length co29 : Value).ownBlock ∧ some k_ ≠ (.slice Ao35 t251.length co35 : Value).ownBlock) v258 t257) := ⟨h3_⟩
 have BK261 : Aside0 (w45.heap[gb261]? = some (.cells #[.slice none 0 0] 30 (0, 0))) := ⟨h8_⟩
 have GW261 : Aside0 (w.heap.size ≤ gb261) := ⟨h9_⟩
 have GE261 : Aside0 (w.heap.size ≤ gb261) := ⟨h10_⟩
 have NB238_261 : Aside0 (gb238 ≠ gb261) := ⟨h11_⟩
 have NB261_238 : Aside0 (gb261 ≠ gb238) := ⟨h12_⟩
 have NB239_261 : Aside0 (gb239 ≠ gb261) := ⟨h13_⟩
 have NB261_239 : Aside0 (gb261 ≠ gb239) := ⟨h14_⟩
 have NB250_261 : Aside0 (gb250 ≠ gb261) := ⟨h15_⟩
 have NB261_250 : Aside0 (gb261 ≠ gb250) := ⟨h16_⟩
 have NB254_261 : Aside0 (gb254 ≠ gb261) := ⟨h17_⟩
 have NB261_254 : Aside0 (gb261 ≠ gb254) := ⟨h18_⟩
 replace HO243 : Aside0 (Kd.R k43 43 w45 w.heap.size (fun k_ => some k_ ≠ (.slice Ao29 t246.length co29 : Value).ownBlock ∧ some k_ ≠ (.slice Ao35 t251.length co35 : Value).ownBlock ∧ some k_ ≠ (v258 : Value).ownBlock) v242 t241) := ⟨h0_⟩
 replace HO248 : Aside0 (Kd.R k43 43 w45 w.heap.size (fun k_ => some k_ ≠ (v242 : Value).ownBlock ∧ some k_ ≠ (.slice Ao35 t251.length co35 : Value).ownBlock ∧ some k_ ≠ (v258 : Value).ownBlock) (.slice Ao29 t246.length co29) t246) := ⟨h1_⟩
 replace HO253 : Aside0 (Kd.R k43 43 w45 w.heap.size (fun k_ => some k_ ≠ (v242 : Value).ownBlock ∧ some k_ ≠ (.slice Ao29 t246.length co29 : Value).ownBlock ∧ some k_ ≠ (v258 : Value).ownBlock) (.slice Ao35 t251.length co35) t251) := ⟨h2_⟩
 replace BK238 : Aside0 (w45.heap[gb238]? = some (.cells #[.slice A0_0 l0_0.length c0_0] 24 (0, 0))) := ⟨h4_⟩
 replace BK239 : Aside0 (w45.heap[gb239]? = some (.cells #[.int .i64 a1_0, .int .i64 a1_1] 26 (0, 0))) := ⟨h5_⟩
 replace BK250 : Aside0 (w45.heap[gb250]? = some (.cells #[.slice Ao29 t246.length co29] 30 (0, 0))) := ⟨h6_⟩
 replace BK254 : Aside0 (w45.heap[gb254]? = some (.cells #[.slice Ao35 t251.length co35] 30 (0, 0))) := ⟨h7_⟩
 replace HB : Aside0 (Below w.heap.size w w45) := ⟨h19_⟩
 clear h0_ h1_ h2_ h3_ h4_ h5_ h6_ h7_ h8_ h9_ h10_ h11_ h12_ h13_ h14_ h15_ h16_ h17_ h18_ h19_
 have hHeld : w45.cell? ⟨gb254, 0, none⟩ = some (.slice Ao35 t251.length co35) ∧ w45.cell? ⟨gb239, 0, none⟩ = some (.int .i64 a1_0) ∧ w45.cell? ⟨gb239, 1, none⟩ = some (.int .i64 a1_1) := hS_
 obtain ⟨Ao46, co46, eo46⟩ := Kd.R_slice HO259.out
 (first | subst eo46 | (injection eo46 with f1_ f2_ f3_; have f4_ := f1_.symm; have f5_ := f3_.symm; clear f1_ f2_ f3_; subst f4_; subst f5_))
 refine norm_ (a' := ?_) ?_ ?_
 rotate_left; · simp only [putAll, Act.put, List.setIfInBounds_toArray, List.set_cons_zero, List.set_cons_succ]; rfl
 refine one_ (i := 8) (N := none) ba10_32 rfl rfl (one_of HT_.out (by kernel_rfl)) (by decide) (fun K hK => ?_)
 have hs47 : w45.cell? ⟨gb261, 0, none⟩ = some (.slice none 0 0) := (blk_cell BK261.out 0).trans rfl
 have hfs47 := blk_frozen BK261.out 0
 have hns47_0 := NB238_261.out
 have hns47_1 := NB239_261.out
 have hns47_2 := NB250_261.out
 have hns47_3 := NB254_261.out
 have hms47_0 := NB261_238.out
 have hms47_1 := NB261_239.out
 have hms47_2 := NB261_250.out
 have hms47_3 := NB261_254.out
 refine skip_ (w1 := ?_) (by rfl) rfl ?_ ?_
 rotate_left; · go_simp; rfl
 refine hK.out _ _ ⟨((cell_far (p := ⟨gb261, _, none⟩) NB254_261.out _).trans (hHeld.1)), ((cell_far (p := ⟨gb261, _, none⟩) NB239_261.out _).trans (hHeld.2.1)), ((cell_far (p := ⟨gb261, _, none⟩) NB239_261.out _).trans (hHeld.2.2))⟩ (fun hHeld => ?_)
 clear hK K
 refine pz_ 9 10 ba10_33 HT_ ?_
 refine done_ (done_of HT_.out (by kernel_rfl)) ?_
 go_upto_region 8 with (fail)
 go_cut [46] (fun v46 wc => ∃ (kq : Nat) (x46_15 : Bool), v46 = .bool x46_15 ∧ Aside0 (laws_FnExactDropRoute.j0 kq t249 t260 x46_15 l0_0 a1_0 a1_1 t246 t251 t257 = some r) ∧ Aside0 (kq ≤ k) ∧ Aside0 (Kd.R k43 43 wc w.heap.size (fun k_ => some k_ ≠ ((.slice Ao35 t251.length co35) : Value).ownBlock ∧ some k_ ≠ ((.slice Ao46 t257.length co46) : Value).ownBlock) (.slice Ao29 t246.length co29) t246) ∧ Aside0 (Kd.R k43 43 wc w.heap.size (fun k_ => some k_ ≠ ((.slice Ao29 t246.length co29) : Value).ownBlock ∧ some k_ ≠ ((.slice Ao46 t257.length co46) : Value).ownBlock) (.slice Ao35 t251.length co35) t251) ∧ Aside0 (Kd.R k43 43 wc w.heap.size (fun k_ => some k_ ≠ ((.slice Ao29 t246.length co29) : Value).ownBlock ∧ some k_ ≠ ((.slice Ao35 t251.length co35) : Value).ownBlock) (.slice Ao46 t257.length co46) t257) ∧ Aside0 (wc.heap[gb238]? = some (.cells #[(.slice A0_0 l0_0.length c0_0)] 24 (0, 0))) ∧ Aside0 (wc.heap[gb239]? = some (.cells #[.int .i64 a1_0, .int .i64 a1_1] 26 (0, 0))) ∧ Aside0 (wc.heap[gb250]? = some (.cells #[(.slice Ao29 t246.length co29)] 30 (0, 0))) ∧ Aside0 (wc.heap[gb254]? = some (.cells #[(.slice Ao35 t251.length co35)] 30 (0, 0))) ∧ Aside0 (wc.heap[gb261]? = some (.cells #[(.slice Ao46 t257.length co46)] 30 (0, 0))) ∧ Aside0 (Below w.heap.size w wc))
 case first =>
  have H := HC16.out
  clear HC16
  replace H := Option.bind_eq_some_iff.mp H
  obtain ⟨t262, A480, H⟩ := H
  have A48 := Aside0.mk A480
  clear A480
  by_cases c49 : t262 = true
  ·subst c49
   rw [if_pos rfl] at H
   have H' := Aside0.mk H
   clear H
   have hnb50 := NB261_238.out
   have hnc50 := NB238_261.out
   have hnb51 := NB261_239.out
   have hnc51 := NB239_261.out
   have hnb52 := NB261_250.out
   have hnc52 := NB250_261.out
   have hnb53 := NB261_254.out
   have hnc53 := NB254_261.out
   have hcz54_0 := cz_ BK261 0 (.slice none 0 0)
   have hfz54_0 := blk_frozen BK261.out 0
   have hnb55 := NB250_238.out
   have hnc55 := NB238_250.out
   have hnb56 := NB250_239.out
   have hnc56 := NB239_250.out
   have hnb57 := NB250_254.out
   have hnc57 := NB254_250.out
   have hcz58_0 := cz_ BK250 0 (.slice Ao29 t246.length co29)
   have hfz58_0 := blk_frozen BK250.out 0
   go_wp2_with (first | ((with_reducible refine gate_callee (f := 12) rfl ?_); refine gl_ (some 40) Try.func12 #[.agg #[.slice Ao46 t257.length co46], .agg #[.slice Ao29 t246.length co29]] ?_; (with_reducible refine (laws_eqTable.calls k _ _ t257 _ _ t246 true _ ?side1 ?side2 ?side3 ?side4 A48.out).mono ?_); (case side1 => refine (Kd.R_reads' (e := 43) (base := w.heap.size) (ok := fun k_ => (some k_ ≠ (v242 : Value).ownBlock ∧ (some k_ ≠ (.slice Ao29 t246.length co29 : Value).ownBlock ∧ some k_ ≠ (.slice Ao35 t251.length co35 : Value).ownBlock))) (n := t257.length) (c := co46) ?_).2.2; exact (hs_ HO259 BK261)); (case side2 => exact (Kd.R_reads' HO259.out).2.1); (case side3 => refine (Kd.R_reads' (e := 43) (base := w.heap.size) (ok := fun k_ => (some k_ ≠ (v242 : Value).ownBlock ∧ (some k_ ≠ (.slice Ao35 t251.length co35 : Value).ownBlock ∧ some k_ ≠ (.slice Ao46 t257.length co46 : Value).ownBlock))) (n := t246.length) (c := co29) ?_).2.2; exact (hs_ HO248 BK261)); (case side4 => exact (Kd.R_reads' HO248.out).2.1); rintro e w59 ⟨rfl, hb⟩; refine ⟨_, rfl, ?_⟩; replace HO243 := rs_ HO243 BK261 hb; replace HO248 := rs_ HO248 BK261 hb; replace HO253 := rs_ HO253 BK261 hb; replace HO259 := rs_ HO259 BK261 hb; replace BK238 := bf_ BK238 NB238_261 hb; replace BK239 := bf_ BK239 NB239_261 hb; replace BK250 := bf_ BK250 NB250_261 hb; replace BK254 := bf_ BK254 NB254_261 hb; replace BK261 := Aside0.mk (blk_below (g := gb261) (o := .cells #[.slice Ao46 t257.length co46] 30 (0, 0)) (by (with_reducible repeat (first | refine blk_drewN ?_ _ | refine blk_drew ?_ | refine blk_alloc ?_ _)); refine blk_put (cs := #[.slice none 0 0]) ?_ 0 _ rfl; (with_reducible repeat (first | refine blk_drewN ?_ _ | refine blk_drew ?_ | refine blk_alloc ?_ _)); exact BK261.out) hb); replace HB := Aside0.mk (bt_ HB hb); (try clear hb); (try clear hb2); (try clear hk); (try clear hi)))
   go_meet
   case rel => exact ⟨_, ((t260 != t249)), (by first | rfl | (simp; done) | (simp [*]; done)), H', ⟨by first | omega | exact Nat.le_refl _⟩, ⟨by (with_reducible repeat (first | apply Kd.R_alloc | apply Kd.R_drewN | apply Kd.R_drew)); exact Kd.R_mono HO248.out (fun _ hk => by first | exact ⟨hk.2.1, hk.2.2⟩ | grind)⟩, ⟨by (with_reducible repeat (first | apply Kd.R_alloc | apply Kd.R_drewN | apply Kd.R_drew)); exact Kd.R_mono HO253.out (fun _ hk => by first | exact ⟨hk.2.1, hk.2.2⟩ | grind)⟩, ⟨by (with_reducible repeat (first | apply Kd.R_alloc | apply Kd.R_drewN | apply Kd.R_drew)); exact Kd.R_mono HO259.out (fun _ hk => by first | exact ⟨hk.2.1, hk.2.2⟩ | grind)⟩, ⟨by (with_reducible repeat (first | refine blk_drewN ?_ _ | refine blk_drew ?_ | refine blk_alloc ?_ _)); exact BK238.out⟩, ⟨by (with_reducible repeat (first | refine blk_drewN ?_ _ | refine blk_drew ?_ | refine blk_alloc ?_ _)); exact BK239.out⟩, ⟨by (with_reducible repeat (first | refine blk_drewN ?_ _ | refine blk_drew ?_ | refine blk_alloc ?_ _)); exact BK250.out⟩, ⟨by (with_reducible repeat (first | refine blk_drewN ?_ _ | refine blk_drew ?_ | refine blk_alloc ?_ _)); exact BK254.out⟩, ⟨by (with_reducible repeat (first | refine blk_drewN ?_ _ | refine blk_drew ?_ | refine blk_alloc ?_ _)); exact BK261.out⟩, ⟨by repeat (first | (with_reducible first | exact HB.out | apply below_alloc | apply pw_below_drewN | apply below_drew1 | refine below_set ?_ GE238.out | refine below_set ?_ GE239.out | refine below_set ?_ GE250.out | refine below_set ?_ GE254.out | refine below_set ?_ GE261.out) | exact HB.out)⟩⟩
  replace c49 := Bool.eq_false_iff.mpr c49
  subst c49
  rw [if_neg (show ¬ (false = true) by decide)] at H
  have H' := Aside0.mk H
  clear H
  have hnb60 := NB261_238.out
  have hnc60 := NB238_261.out
  have hnb61 := NB261_239.out
  have hnc61 := NB239_261.out
  have hnb62 := NB261_250.out
  have hnc62 := NB250_261.out
  have hnb63 := NB261_254.out
  have hnc63 := NB254_261.out
  have hcz64_0 := cz_ BK261 0 (.slice none 0 0)
  have hfz64_0 := blk_frozen BK261.out 0
  have hnb65 := NB250_238.out
  have hnc65 := NB238_250.out
  have hnb66 := NB250_239.out
  have hnc66 := NB239_250.out
  have hnb67 := NB250_254.out
  have hnc67 := NB254_250.out
  have hcz68_0 := cz_ BK250 0 (.slice Ao29 t246.length co29)
  have hfz68_0 := blk_frozen BK250.out 0
  go_wp2_with (first | ((with_reducible refine gate_callee (f := 12) rfl ?_); refine gl_ (some 40) Try.func12 #[.agg #[.slice Ao46 t257.length co46], .agg #[.slice Ao29 t246.length co29]] ?_; (with_reducible refine (laws_eqTable.calls k _ _ t257 _ _ t246 false _ ?side1 ?side2 ?side3 ?side4 A48.out).mono ?_); (case side1 => refine (Kd.R_reads' (e := 43) (base := w.heap.size) (ok := fun k_ => (some k_ ≠ (v242 : Value).ownBlock ∧ (some k_ ≠ (.slice Ao29 t246.length co29 : Value).ownBlock ∧ some k_ ≠ (.slice Ao35 t251.length co35 : Value).ownBlock))) (n := t257.length) (c := co46) ?_).2.2; exact (hs_ HO259 BK261)); (case side2 => exact (Kd.R_reads' HO259.out).2.1); (case side3 => refine (Kd.R_reads' (e := 43) (base := w.heap.size) (ok := fun k_ => (some k_ ≠ (v242 : Value).ownBlock ∧ (some k_ ≠ (.slice Ao35 t251.length co35 : Value).ownBlock ∧ some k_ ≠ (.slice Ao46 t257.length co46 : Value).ownBlock))) (n := t246.length) (c := co29) ?_).2.2; exact (hs_ HO248 BK261)); (case side4 => exact (Kd.R_reads' HO248.out).2.1); rintro e w69 ⟨rfl, hb⟩; refine ⟨_, rfl, ?_⟩; replace HO243 := rs_ HO243 BK261 hb; replace HO248 := rs_ HO248 BK261 hb; replace HO253 := rs_ HO253 BK261 hb; replace HO259 := rs_ HO259 BK261 hb; replace BK238 := bf_ BK238 NB238_261 hb; replace BK239 := bf_ BK239 NB239_261 hb; replace BK250 := bf_ BK250 NB250_261 hb; replace BK254 := bf_ BK254 NB254_261 hb; replace BK261 := Aside0.mk (blk_below (g := gb261) (o := .cells #[.slice Ao46 t257.length co46] 30 (0, 0)) (by (with_reducible repeat (first | refine blk_drewN ?_ _ | refine blk_drew ?_ | refine blk_alloc ?_ _)); refine blk_put (cs := #[.slice none 0 0]) ?_ 0 _ rfl; (with_reducible repeat (first | refine blk_drewN ?_ _ | refine blk_drew ?_ | refine blk_alloc ?_ _)); exact BK261.out) hb); replace HB := Aside0.mk (bt_ HB hb); (try clear hb); (try clear hb2); (try clear hk); (try clear hi)))
  go_meet
  case rel => exact ⟨_, (true), (by first | rfl | (simp; done) | (simp [*]; done)), H', ⟨by first | omega | exact Nat.le_refl _⟩, ⟨by (with_reducible repeat (first | apply Kd.R_alloc | apply Kd.R_drewN | apply Kd.R_drew)); exact Kd.R_mono HO248.out (fun _ hk => by first | exact ⟨hk.2.1, hk.2.2⟩ | grind)⟩, ⟨by (with_reducible repeat (first | apply Kd.R_alloc | apply Kd.R_drewN | apply Kd.R_drew)); exact Kd.R_mono HO253.out (fun _ hk => by first | exact ⟨hk.2.1, hk.2.2⟩ | grind)⟩, ⟨by (with_reducible repeat (first | apply Kd.R_alloc | apply Kd.R_drewN | apply Kd.R_drew)); exact Kd.R_mono HO259.out (fun _ hk => by first | exact ⟨hk.2.1, hk.2.2⟩ | grind)⟩, ⟨by (with_reducible repeat (first | refine blk_drewN ?_ _ | refine blk_drew ?_ | refine blk_alloc ?_ _)); exact BK238.out⟩, ⟨by (with_reducible repeat (first | refine blk_drewN ?_ _ | refine blk_drew ?_ | refine blk_alloc ?_ _)); exact BK239.out⟩, ⟨by (with_reducible repeat (first | refine blk_drewN ?_ _ | refine blk_drew ?_ | refine blk_alloc ?_ _)); exact BK250.out⟩, ⟨by (with_reducible repeat (first | refine blk_drewN ?_ _ | refine blk_drew ?_ | refine blk_alloc ?_ _)); exact BK254.out⟩, ⟨by (with_reducible repeat (first | refine blk_drewN ?_ _ | refine blk_drew ?_ | refine blk_alloc ?_ _)); exact BK261.out⟩, ⟨by repeat (first | (with_reducible first | exact HB.out | apply below_alloc | apply pw_below_drewN | apply below_drew1 | refine below_set ?_ GE238.out | refine below_set ?_ GE239.out | refine below_set ?_ GE250.out | refine below_set ?_ GE254.out | refine below_set ?_ GE261.out) | exact HB.out)⟩⟩
 case rest =>
  clear HC16
  try clear c1
  try clear p2
  try clear c4
  try clear c5
  try clear c6
  try clear c10
  try clear c11
  try clear c12
  try clear c49
  try clear c50
  try clear c51
  try clear c52
  try clear c53
  try clear c55
  try clear c56
  try clear c57
  try clear c60
  try clear c61
  try clear c62
  try clear c63
  try clear c65
  try clear c66
  try clear c67
  try clear hcz54_0
  try clear hcz58_0
  try clear hcz64_0
  try clear hcz68_0
  try clear hfz54_0
  try clear hfz58_0
  try clear hfz64_0
  try clear hfz68_0
  obtain ⟨kq, x46_15, rfl, HA, HJ15, HO_251000, HO_255000, HO_262000, BK238, BK239, BK250, BK254, BK261, HB⟩ := hcut
  cases kq with
  | zero => exact absurd HA.out (by simp [laws_FnExactDropRoute.j0])
  | succ kj15 =>
   have H := HA.out
   clear HA
   simp only [laws_FnExactDropRoute.j0] at H
   by_cases c70 : x46_15 = true
   ·subst c70
    rw [if_pos rfl] at H
    obtain rfl := Option.some.inj H
    go_wp2
    go_ret
    exact ⟨by first | rfl | (simp [errW_none, errW_some] <;> rfl) | (simp [*, errW_none, errW_some] <;> rfl), by repeat (first | (with_reducible first | exact HB.out | apply below_alloc | apply pw_below_drewN | apply below_drew1 | refine below_set ?_ GE238.out | refine below_set ?_ GE239.out | refine below_set ?_ GE250.out | refine below_set ?_ GE254.out | refine below_set ?_ GE261.out) | exact HB.out)⟩
   replace c70 := Bool.eq_false_iff.mpr c70
   subst c70
   rw [if_neg (show ¬ (false = true) by decide)] at H
   replace H := Option.bind_eq_some_iff.mp H
   obtain ⟨t263, A710, H⟩ := H
   have A71 := Aside0.mk A710
   clear A710
   replace H := Option.bind_eq_some_iff.mp H
   obtain ⟨t266, A720, H⟩ := H
   have A72 := Aside0.mk A720
   clear A720
   by_cases c73 : t266 = true
   rotate_left
   ·replace c73 := Bool.eq_false_iff.mpr c73
    subst c73
    rw [if_neg (show ¬ (false = true) by decide)] at H
    obtain rfl := Option.some.inj H
    try go_wp2
    replace HO_251000 := Aside0.mk (Kd.R_drew HO_251000.out)
    replace HO_255000 := Aside0.mk (Kd.R_drew HO_255000.out)
    replace HO_262000 := Aside0.mk (Kd.R_drew HO_262000.out)
    replace BK238 := Aside0.mk (blk_drew BK238.out)
    replace BK239 := Aside0.mk (blk_drew BK239.out)
    replace BK250 := Aside0.mk (blk_drew BK250.out)
    replace BK254 := Aside0.mk (blk_drew BK254.out)
    replace BK261 := Aside0.mk (blk_drew BK261.out)
    replace HB := Aside0.mk (below_drew1 HB.out)
    refine start_ (n := 5) (S := fun w' => w'.cell? ⟨gb254, 0, none⟩ = some (.slice Ao35 t251.length co35) ∧ w'.cell? ⟨gb238, 0, none⟩ = some (.slice A0_0 l0_0.length c0_0)) (ds := []) ba10_34 (by kernel_rfl) rfl rfl ⟨(blk_cell BK254.out 0).trans rfl, (blk_cell BK238.out 0).trans rfl⟩ (fun hHeld => ?_)
    generalize wc.drew = w202 at HO_251000 HO_255000 HO_262000 BK238 BK239 BK250 BK254 BK261 HB hHeld ⊢
    refine take_ (i := 0) (N := some 47) (v := ?_) (a' := ?_) ba10_35 rfl rfl (by kernel_rfl) (fun _ _ _ h => h) (Or.inl ⟨by rfl, ?_⟩) hHeld ?_ ?_
    rotate_left; · rintro w' ⟨s0, s1⟩; go_simp; with_reducible rfl
    rotate_left; · simp only [Act.put, List.setIfInBounds_toArray, List.set_cons_zero, List.set_cons_succ, i64_w, i32_w]; rfl
    refine take_ (i := 1) (N := some 48) (v := ?_) (a' := ?_) ba10_36 rfl rfl (by kernel_rfl) (fun _ _ _ h => h) (Or.inl ⟨by rfl, ?_⟩) hHeld ?_ ?_
    rotate_left; · rintro w' ⟨s0, s1⟩; go_simp; with_reducible rfl
    rotate_left; · simp only [Act.put, List.setIfInBounds_toArray, List.set_cons_zero, List.set_cons_succ, i64_w, i32_w]; rfl
    refine one_ (i := 2) (N := some 49) ba10_37 rfl rfl (by kernel_rfl) (by decide) (fun K hK => ?_)
    refine gz_ Try.func9 #[.agg #[.slice A0_0 l0_0.length c0_0]] ?_
    with_reducible refine (laws_toTable.calls kj15 _ _ l0_0 t263 _ ?side1 ?side2 A71.out).mono ?_
    (case side1 => exact cb_ HR0_0 HB)
    (case side2 => exact HC0_0.out)
    rintro e w203 ⟨v264, rfl, ho0, hb⟩
    refine ⟨_, rfl, ?_⟩
    have HO265 := Aside0.mk (Kd.R_lower (Kd.R_new' (Kd.R_new' (Kd.R_new' ho0 (Kd.R_lt (hd_ HO_251000))) (Kd.R_lt (hd_ HO_255000))) (Kd.R_lt (hd_ HO_262000))) (bz_ HB))
    replace HO_251000 := Aside0.mk (Kd.R_elder' (hd_ HO_251000) (Kd.R_base ho0) hb)
    replace HO_255000 := Aside0.mk (Kd.R_elder' (hd_ HO_255000) (Kd.R_base ho0) hb)
    replace HO_262000 := Aside0.mk (Kd.R_elder' (hd_ HO_262000) (Kd.R_base ho0) hb)
    replace BK238 := Aside0.mk (bb_ BK238 hb)
    replace BK239 := Aside0.mk (bb_ BK239 hb)
    replace BK250 := Aside0.mk (bb_ BK250 hb)
    replace BK254 := Aside0.mk (bb_ BK254 hb)
    replace BK261 := Aside0.mk (bb_ BK261 hb)
    replace HB := Aside0.mk (bt_ HB hb)
    (try clear hb)
    (try clear hb2)
    (try clear hk)
    (try clear hi)
    (try clear ho0)
    obtain ⟨Ao204, co204, eo204⟩ := Kd.R_slice HO265.out
    (first | subst eo204 | (injection eo204 with f1_ f2_ f3_; have f4_ := f1_.symm; have f5_ := f3_.symm; clear f1_ f2_ f3_; subst f4_; subst f5_))
    refine hK.out _ _ ⟨(blk_cell BK254.out 0).trans rfl, (blk_cell BK238.out 0).trans rfl⟩ (fun hHeld => ?_)
    clear hK K
    refine nz_ 49 ?_
    refine one_ (i := 3) (N := some 50) ba10_38 rfl rfl (by kernel_rfl) (by decide) (fun K hK => ?_)
    refine gz_ Try.func12 #[.agg #[.slice Ao35 t251.length co35], .agg #[.slice Ao204 t263.length co204]] ?_
    with_reducible refine (laws_eqTable.calls kj15 _ _ t251 _ _ t263 false _ ?side1 ?side2 ?side3 ?side4 A72.out).mono ?_
    (case side1 => exact rc_ HO_255000)
    (case side2 => exact (Kd.R_reads' HO_255000.out).2.1)
    (case side3 => exact rc_ HO265)
    (case side4 => exact (Kd.R_reads' HO265.out).2.1)
    rintro e w205 ⟨rfl, hb⟩
    refine ⟨_, rfl, ?_⟩
    replace HO_251000 := rb_ HO_251000 hb
    replace HO_255000 := rb_ HO_255000 hb
    replace HO_262000 := rb_ HO_262000 hb
    replace HO265 := rb_ HO265 hb
    replace BK238 := Aside0.mk (bb_ BK238 hb)
    replace BK239 := Aside0.mk (bb_ BK239 hb)
    replace BK250 := Aside0.mk (bb_ BK250 hb)
    replace BK254 := Aside0.mk (bb_ BK254 hb)
    replace BK261 := Aside0.mk (bb_ BK261 hb)
    replace HB := Aside0.mk (bt_ HB hb)
    (try clear hb)
    (try clear hb2)
    (try clear hk)
    (try clear hi)
    refine hK.out _ _ ⟨(blk_cell BK254.out 0).trans rfl, (blk_cell BK238.out 0).trans rfl⟩ (fun hHeld => ?_)
    clear hK K
    refine nz_ 50 ?_
    refine pure_ (i := 4) (N := some 51) (v := ?_) (a' := ?_) ba10_39 rfl rfl (by kernel_rfl) (fun _ _ _ h => h) (Or.inl ⟨by rfl, ?_⟩) ?_ ?_
    rotate_left; · intro w'; go_simp; with_reducible rfl
    rotate_left; · simp only [Act.put, List.setIfInBounds_toArray, List.set_cons_zero, List.set_cons_succ, i64_w, i32_w]; rfl
    refine done_ (by kernel_rfl) ?_
    try go_wp2
    go_ret
    exact ⟨by first | rfl | (simp [errW_none, errW_some] <;> rfl) | (simp [*, errW_none, errW_some] <;> rfl), by repeat (first | (with_reducible first | exact HB.out | apply below_alloc | apply pw_below_drewN | apply below_drew1 | refine below_set ?_ GE238.out | refine below_set ?_ GE239.out | refine below_set ?_ GE250.out | refine below_set ?_ GE254.out | refine below_set ?_ GE261.out) | exact HB.out)⟩
   subst c73
   rw [if_pos rfl] at H
   replace H := Option.bind_eq_some_iff.mp H
   obtain ⟨⟨t267, t268⟩, A740, H⟩ := H
   have A74 := Aside0.mk A740
   clear A740
   have HC75 := Aside0.mk H
   clear H
   try go_wp2
   replace HO_251000 := Aside0.mk (Kd.R_drew HO_251000.out)
   replace HO_255000 := Aside0.mk (Kd.R_drew HO_255000.out)
   replace HO_262000 := Aside0.mk (Kd.R_drew HO_262000.out)
   replace BK238 := Aside0.mk (blk_drew BK238.out)
   replace BK239 := Aside0.mk (blk_drew BK239.out)
   replace BK250 := Aside0.mk (blk_drew BK250.out)
   replace BK254 := Aside0.mk (blk_drew BK254.out)
   replace BK261 := Aside0.mk (blk_drew BK261.out)
   replace HB := Aside0.mk (below_drew1 HB.out)
   refine start_ (n := 5) (S := fun w' => w'.cell? ⟨gb254, 0, none⟩ = some (.slice Ao35 t251.length co35) ∧ w'.cell? ⟨gb238, 0, none⟩ = some (.slice A0_0 l0_0.length c0_0)) (ds := []) ba10_34 (by kernel_rfl) rfl rfl ⟨(blk_cell BK254.out 0).trans rfl, (blk_cell BK238.out 0).trans rfl⟩ (fun hHeld => ?_)
   generalize wc.drew = w76 at HO_251000 HO_255000 HO_262000 BK238 BK239 BK250 BK254 BK261 HB hHeld ⊢
   refine take_ (i := 0) (N := some 47) (v := ?_) (a' := ?_) ba10_35 rfl rfl (by kernel_rfl) (fun _ _ _ h => h) (Or.inl ⟨by rfl, ?_⟩) hHeld ?_ ?_
   rotate_left; · rintro w' ⟨s0, s1⟩; go_simp; with_reducible rfl
   rotate_left; · simp only [Act.put, List.setIfInBounds_toArray, List.set_cons_zero, List.set_cons_succ, i64_w, i32_w]; rfl
   refine take_ (i := 1) (N := some 48) (v := ?_) (a' := ?_) ba10_36 rfl rfl (by kernel_rfl) (fun _ _ _ h => h) (Or.inl ⟨by rfl, ?_⟩) hHeld ?_ ?_
   rotate_left; · rintro w' ⟨s0, s1⟩; go_simp; with_reducible rfl
   rotate_left; · simp only [Act.put, List.setIfInBounds_toArray, List.set_cons_zero, List.set_cons_succ, i64_w, i32_w]; rfl
   refine one_ (i := 2) (N := some 49) ba10_37 rfl rfl (by kernel_rfl) (by decide) (fun K hK => ?_)
   refine gz_ Try.func9 #[.agg #[.slice A0_0 l0_0.length c0_0]] ?_
   with_reducible refine (laws_toTable.calls kj15 _ _ l0_0 t263 _ ?side1 ?side2 A71.out).mono ?_
   (case side1 => exact cb_ HR0_0 HB)
   (case side2 => exact HC0_0.out)
   rintro e w77 ⟨v264, rfl, ho0, hb⟩
   refine ⟨_, rfl, ?_⟩
   have HO265 := Aside0.mk (Kd.R_lower (Kd.R_new' (Kd.R_new' (Kd.R_new' ho0 (Kd.R_lt (hd_ HO_251000))) (Kd.R_lt (hd_ HO_255000))) (Kd.R_lt (hd_ HO_262000))) (bz_ HB))
   replace HO_251000 := Aside0.mk (Kd.R_elder' (hd_ HO_251000) (Kd.R_base ho0) hb)
   replace HO_255000 := Aside0.mk (Kd.R_elder' (hd_ HO_255000) (Kd.R_base ho0) hb)
   replace HO_262000 := Aside0.mk (Kd.R_elder' (hd_ HO_262000) (Kd.R_base ho0) hb)
   replace BK238 := Aside0.mk (bb_ BK238 hb)
   replace BK239 := Aside0.mk (bb_ BK239 hb)
   replace BK250 := Aside0.mk (bb_ BK250 hb)
   replace BK254 := Aside0.mk (bb_ BK254 hb)
   replace BK261 := Aside0.mk (bb_ BK261 hb)
   replace HB := Aside0.mk (bt_ HB hb)
   (try clear hb)
   (try clear hb2)
   (try clear hk)
   (try clear hi)
   (try clear ho0)
   obtain ⟨Ao78, co78, eo78⟩ := Kd.R_slice HO265.out
   (first | subst eo78 | (injection eo78 with f1_ f2_ f3_; have f4_ := f1_.symm; have f5_ := f3_.symm; clear f1_ f2_ f3_; subst f4_; subst f5_))
   refine hK.out _ _ ⟨(blk_cell BK254.out 0).trans rfl, (blk_cell BK238.out 0).trans rfl⟩ (fun hHeld => ?_)
   clear hK K
   refine nz_ 49 ?_
   refine one_ (i := 3) (N := some 50) ba10_38 rfl rfl (by kernel_rfl) (by decide) (fun K hK => ?_)
   refine gz_ Try.func12 #[.agg #[.slice Ao35 t251.length co35], .agg #[.slice Ao78 t263.length co78]] ?_
   with_reducible refine (laws_eqTable.calls kj15 _ _ t251 _ _ t263 true _ ?side1 ?side2 ?side3 ?side4 A72.out).mono ?_
   (case side1 => exact rc_ HO_255000)
   (case side2 => exact (Kd.R_reads' HO_255000.out).2.1)
   (case side3 => exact rc_ HO265)
   (case side4 => exact (Kd.R_reads' HO265.out).2.1)
   rintro e w79 ⟨rfl, hb⟩
   refine ⟨_, rfl, ?_⟩
   replace HO_251000 := rb_ HO_251000 hb
   replace HO_255000 := rb_ HO_255000 hb
   replace HO_262000 := rb_ HO_262000 hb
   replace HO265 := rb_ HO265 hb
   replace BK238 := Aside0.mk (bb_ BK238 hb)
   replace BK239 := Aside0.mk (bb_ BK239 hb)
   replace BK250 := Aside0.mk (bb_ BK250 hb)
   replace BK254 := Aside0.mk (bb_ BK254 hb)
   replace BK261 := Aside0.mk (bb_ BK261 hb)
   replace HB := Aside0.mk (bt_ HB hb)
   (try clear hb)
   (try clear hb2)
   (try clear hk)
   (try clear hi)
   refine hK.out _ _ ⟨(blk_cell BK254.out 0).trans rfl, (blk_cell BK238.out 0).trans rfl⟩ (fun hHeld => ?_)
   clear hK K
   refine nz_ 50 ?_
   refine pure_ (i := 4) (N := some 51) (v := ?_) (a' := ?_) ba10_39 rfl rfl (by kernel_rfl) (fun _ _ _ h => h) (Or.inl ⟨by rfl, ?_⟩) ?_ ?_
   rotate_left; · intro w'; go_simp; with_reducible rfl
   rotate_left; · simp only [Act.put, List.setIfInBounds_toArray, List.set_cons_zero, List.set_cons_succ, i64_w, i32_w]; rfl
   refine done_ (by kernel_rfl) ?_
   have hnb80 := NB254_238.out
   have hnc80 := NB238_254.out
   have hnb81 := NB254_239.out
   have hnc81 := NB239_254.out
   have hnb82 := NB254_250.out
   have hnc82 := NB250_254.out
   have hnb83 := NB254_261.out
   have hnc83 := NB261_254.out
   have hcz84_0 := cz_ BK254 0 (.slice Ao35 t251.length co35)
   have hfz84_0 := blk_frozen BK254.out 0
   go_upto_region 14 with (first | ((with_reducible refine gate_callee (f := 13) rfl ?_); refine gl_ (some 54) Try.func13 #[.agg #[.slice Ao35 t251.length co35], .int .i64 1] ?_; (with_reducible refine (laws_markTable.calls kj15 (fun k_ => some k_ = (.slice Ao35 t251.length co35 : Value).ownBlock) (.slice Ao35 t251.length co35) t251 1 t267 t268 w _ ?side1 ?side2 A74.out).mono ?_); (case side1 => exact by_ HB); (case side2 => exact Kd.R_tight rfl HO_255000.out); rintro e w85 ⟨rfl, hy0, hb, hkp⟩; refine ⟨_, rfl, ?_⟩; replace HO_251000 := kp_ (fun k_ => some k_ ≠ (.slice Ao35 t251.length co35 : Value).ownBlock ∧ some k_ ≠ (.slice Ao46 t257.length co46 : Value).ownBlock ∧ some k_ ≠ (.slice Ao78 t263.length co78 : Value).ownBlock) (HO_251000.out) hkp; replace HO_262000 := kp_ (fun k_ => some k_ ≠ (.slice Ao29 t246.length co29 : Value).ownBlock ∧ some k_ ≠ (.slice Ao35 t251.length co35 : Value).ownBlock ∧ some k_ ≠ (.slice Ao78 t263.length co78 : Value).ownBlock) (HO_262000.out) hkp; replace BK238 := bk_ BK238 hkp (fun hs_ => (Kd.R_ne HO_255000.out BK238.out (by decide)) hs_); replace BK239 := bk_ BK239 hkp (fun hs_ => (Kd.R_ne HO_255000.out BK239.out (by decide)) hs_); replace BK250 := bk_ BK250 hkp (fun hs_ => (Kd.R_ne HO_255000.out BK250.out (by decide)) hs_); replace BK254 := bk_ BK254 hkp (fun hs_ => (Kd.R_ne HO_255000.out BK254.out (by decide)) hs_); replace BK261 := bk_ BK261 hkp (fun hs_ => (Kd.R_ne HO_255000.out BK261.out (by decide)) hs_); replace HO_255000 := Aside0.mk (Kd.R_reok rfl hy0 (fun k_ e_ => HO_255000.out.1 k_ e_)); replace HO265 := kp_ (fun k_ => some k_ ≠ (.slice Ao29 t246.length co29 : Value).ownBlock ∧ some k_ ≠ (.slice Ao35 t251.length co35 : Value).ownBlock ∧ some k_ ≠ (.slice Ao46 t257.length co46 : Value).ownBlock) (HO265.out) hkp; replace HB := Aside0.mk (hb); (try clear hb); (try clear hkp); (try clear hy0)))
   (try simp only [Act.put, List.setIfInBounds_toArray, List.set_cons_zero, List.set_cons_succ])
   go_cut [67] (fun v67 wc => ∃ (kq : Nat) (x67_74 : Bool), v67 = .bool x67_74 ∧ Aside0 (laws_FnExactDropRoute.j1 kq t249 x67_74 l0_0 a1_0 a1_1 t246 t257 = some r) ∧ Aside0 (kq ≤ kj15) ∧ Aside0 (Kd.R k43 43 wc w.heap.size (fun k_ => some k_ ≠ ((.slice Ao35 t251.length co35) : Value).ownBlock ∧ some k_ ≠ ((.slice Ao46 t257.length co46) : Value).ownBlock) (.slice Ao29 t246.length co29) t246) ∧ Aside0 (Kd.R k43 43 wc w.heap.size (fun k_ => some k_ ≠ ((.slice Ao29 t246.length co29) : Value).ownBlock ∧ some k_ ≠ ((.slice Ao46 t257.length co46) : Value).ownBlock) (.slice Ao35 t251.length co35) t268) ∧ Aside0 (Kd.R k43 43 wc w.heap.size (fun k_ => some k_ ≠ ((.slice Ao29 t246.length co29) : Value).ownBlock ∧ some k_ ≠ ((.slice Ao35 t251.length co35) : Value).ownBlock) (.slice Ao46 t257.length co46) t257) ∧ Aside0 (wc.heap[gb238]? = some (.cells #[(.slice A0_0 l0_0.length c0_0)] 24 (0, 0))) ∧ Aside0 (wc.heap[gb239]? = some (.cells #[.int .i64 a1_0, .int .i64 a1_1] 26 (0, 0))) ∧ Aside0 (wc.heap[gb250]? = some (.cells #[(.slice Ao29 t246.length co29)] 30 (0, 0))) ∧ Aside0 (wc.heap[gb254]? = some (.cells #[(.slice Ao35 t251.length co35)] 30 (0, 0))) ∧ Aside0 (wc.heap[gb261]? = some (.cells #[(.slice Ao46 t257.length co46)] 30 (0, 0))) ∧ Aside0 (Below w.heap.size w wc))
   case first =>
    have H := HC75.out
    clear HC75
    by_cases c86 : t267 < 0
    ·rw [if_pos c86] at H
     have c86b0 : decide (t267 < 0) = true := decide_eq_true c86
     clear c86
     (first | rw [c86b0] | (simp only [i64_w, i32_w]; rw [c86b0]) | skip)
     have H' := Aside0.mk H
     clear H
     go_wp2
     go_meet
     case rel => exact ⟨_, (true), (by first | rfl | (simp; done) | (simp [*]; done)), H', ⟨by have := HJ15.out; first | omega | exact Nat.le_refl _⟩, ⟨by (with_reducible repeat (first | apply Kd.R_alloc | apply Kd.R_drewN | apply Kd.R_drew)); exact Kd.R_mono HO_251000.out (fun _ hk => by first | exact ⟨hk.1, hk.2.1⟩ | grind)⟩, ⟨by (with_reducible repeat (first | apply Kd.R_alloc | apply Kd.R_drewN | apply Kd.R_drew)); exact Kd.R_mono HO_255000.out (fun _ hk => by first | exact ⟨hk.1.1, hk.1.2⟩ | grind)⟩, ⟨by (with_reducible repeat (first | apply Kd.R_alloc | apply Kd.R_drewN | apply Kd.R_drew)); exact Kd.R_mono HO_262000.out (fun _ hk => by first | exact ⟨hk.1, hk.2.1⟩ | grind)⟩, ⟨by (with_reducible repeat (first | refine blk_drewN ?_ _ | refine blk_drew ?_ | refine blk_alloc ?_ _)); exact BK238.out⟩, ⟨by (with_reducible repeat (first | refine blk_drewN ?_ _ | refine blk_drew ?_ | refine blk_alloc ?_ _)); exact BK239.out⟩, ⟨by (with_reducible repeat (first | refine blk_drewN ?_ _ | refine blk_drew ?_ | refine blk_alloc ?_ _)); exact BK250.out⟩, ⟨by (with_reducible repeat (first | refine blk_drewN ?_ _ | refine blk_drew ?_ | refine blk_alloc ?_ _)); exact BK254.out⟩, ⟨by (with_reducible repeat (first | refine blk_drewN ?_ _ | refine blk_drew ?_ | refine blk_alloc ?_ _)); exact BK261.out⟩, ⟨by repeat (first | (with_reducible first | exact HB.out | apply below_alloc | apply pw_below_drewN | apply below_drew1 | refine below_set ?_ GE238.out | refine below_set ?_ GE239.out | refine below_set ?_ GE250.out | refine below_set ?_ GE254.out | refine below_set ?_ GE261.out) | exact HB.out)⟩⟩
    rw [if_neg c86] at H
    have c86b0 : decide (t267 < 0) = false := decide_eq_false c86
    clear c86
    (first | rw [c86b0] | (simp only [i64_w, i32_w]; rw [c86b0]) | skip)
    replace H := Option.bind_eq_some_iff.mp H
    obtain ⟨t269, A870, H⟩ := H
    have A87 := Aside0.mk A870
    clear A870
    by_cases c88 : t269 = true
    ·subst c88
     rw [if_pos rfl] at H
     have H' := Aside0.mk H
     clear H
     have hnb89 := NB261_238.out
     have hnc89 := NB238_261.out
     have hnb90 := NB261_239.out
     have hnc90 := NB239_261.out
     have hnb91 := NB261_250.out
     have hnc91 := NB250_261.out
     have hnb92 := NB261_254.out
     have hnc92 := NB254_261.out
     have hcz93_0 := cz_ BK261 0 (.slice Ao46 t257.length co46)
     have hfz93_0 := blk_frozen BK261.out 0
     have hnb94 := NB250_238.out
     have hnc94 := NB238_250.out
     have hnb95 := NB250_239.out
     have hnc95 := NB239_250.out
     have hnb96 := NB250_254.out
     have hnc96 := NB254_250.out
     have hcz97_0 := cz_ BK250 0 (.slice Ao29 t246.length co29)
     have hfz97_0 := blk_frozen BK250.out 0
     go_wp2_with (first | (go_at_call 12; (with_reducible refine (laws_eqTable.calls kj15 _ _ t257 _ _ t246 true _ ?side1 ?side2 ?side3 ?side4 A87.out).mono ?_); (case side1 => exact rc_ HO_262000); (case side2 => exact (Kd.R_reads' HO_262000.out).2.1); (case side3 => exact rc_ HO_251000); (case side4 => exact (Kd.R_reads' HO_251000.out).2.1); rintro e w98 ⟨rfl, hb⟩; replace HO_251000 := rb_ HO_251000 hb; replace HO_255000 := rb_ HO_255000 hb; replace HO_262000 := rb_ HO_262000 hb; replace HO265 := rb_ HO265 hb; replace BK238 := Aside0.mk (bb_ BK238 hb); replace BK239 := Aside0.mk (bb_ BK239 hb); replace BK250 := Aside0.mk (bb_ BK250 hb); replace BK254 := Aside0.mk (bb_ BK254 hb); replace BK261 := Aside0.mk (bb_ BK261 hb); replace HB := Aside0.mk (bt_ HB hb); (try clear hb); (try clear hb2); (try clear hk); (try clear hi)))
     go_meet
     case rel => exact ⟨_, ((t260 != t249)), (by first | rfl | (simp; done) | (simp [*]; done)), H', ⟨by have := HJ15.out; first | omega | exact Nat.le_refl _⟩, ⟨by (with_reducible repeat (first | apply Kd.R_alloc | apply Kd.R_drewN | apply Kd.R_drew)); exact Kd.R_mono HO_251000.out (fun _ hk => by first | exact ⟨hk.1, hk.2.1⟩ | grind)⟩, ⟨by (with_reducible repeat (first | apply Kd.R_alloc | apply Kd.R_drewN | apply Kd.R_drew)); exact Kd.R_mono HO_255000.out (fun _ hk => by first | exact ⟨hk.1.1, hk.1.2⟩ | grind)⟩, ⟨by (with_reducible repeat (first | apply Kd.R_alloc | apply Kd.R_drewN | apply Kd.R_drew)); exact Kd.R_mono HO_262000.out (fun _ hk => by first | exact ⟨hk.1, hk.2.1⟩ | grind)⟩, ⟨by (with_reducible repeat (first | refine blk_drewN ?_ _ | refine blk_drew ?_ | refine blk_alloc ?_ _)); exact BK238.out⟩, ⟨by (with_reducible repeat (first | refine blk_drewN ?_ _ | refine blk_drew ?_ | refine blk_alloc ?_ _)); exact BK239.out⟩, ⟨by (with_reducible repeat (first | refine blk_drewN ?_ _ | refine blk_drew ?_ | refine blk_alloc ?_ _)); exact BK250.out⟩, ⟨by (with_reducible repeat (first | refine blk_drewN ?_ _ | refine blk_drew ?_ | refine blk_alloc ?_ _)); exact BK254.out⟩, ⟨by (with_reducible repeat (first | refine blk_drewN ?_ _ | refine blk_drew ?_ | refine blk_alloc ?_ _)); exact BK261.out⟩, ⟨by repeat (first | (with_reducible first | exact HB.out | apply below_alloc | apply pw_below_drewN | apply below_drew1 | refine below_set ?_ GE238.out | refine below_set ?_ GE239.out | refine below_set ?_ GE250.out | refine below_set ?_ GE254.out | refine below_set ?_ GE261.out) | exact HB.out)⟩⟩
    replace c88 := Bool.eq_false_iff.mpr c88
    subst c88
    rw [if_neg (show ¬ (false = true) by decide)] at H
    have H' := Aside0.mk H
    clear H
    have hnb99 := NB261_238.out
    have hnc99 := NB238_261.out
    have hnb100 := NB261_239.out
    have hnc100 := NB239_261.out
    have hnb101 := NB261_250.out
    have hnc101 := NB250_261.out
    have hnb102 := NB261_254.out
    have hnc102 := NB254_261.out
    have hcz103_0 := cz_ BK261 0 (.slice Ao46 t257.length co46)
    have hfz103_0 := blk_frozen BK261.out 0
    have hnb104 := NB250_238.out
    have hnc104 := NB238_250.out
    have hnb105 := NB250_239.out
    have hnc105 := NB239_250.out
    have hnb106 := NB250_254.out
    have hnc106 := NB254_250.out
    have hcz107_0 := cz_ BK250 0 (.slice Ao29 t246.length co29)
    have hfz107_0 := blk_frozen BK250.out 0
    go_wp2_with (first | (go_at_call 12; (with_reducible refine (laws_eqTable.calls kj15 _ _ t257 _ _ t246 false _ ?side1 ?side2 ?side3 ?side4 A87.out).mono ?_); (case side1 => exact rc_ HO_262000); (case side2 => exact (Kd.R_reads' HO_262000.out).2.1); (case side3 => exact rc_ HO_251000); (case side4 => exact (Kd.R_reads' HO_251000.out).2.1); rintro e w108 ⟨rfl, hb⟩; replace HO_251000 := rb_ HO_251000 hb; replace HO_255000 := rb_ HO_255000 hb; replace HO_262000 := rb_ HO_262000 hb; replace HO265 := rb_ HO265 hb; replace BK238 := Aside0.mk (bb_ BK238 hb); replace BK239 := Aside0.mk (bb_ BK239 hb); replace BK250 := Aside0.mk (bb_ BK250 hb); replace BK254 := Aside0.mk (bb_ BK254 hb); replace BK261 := Aside0.mk (bb_ BK261 hb); replace HB := Aside0.mk (bt_ HB hb); (try clear hb); (try clear hb2); (try clear hk); (try clear hi)))
    go_meet
    case rel => exact ⟨_, (true), (by first | rfl | (simp; done) | (simp [*]; done)), H', ⟨by have := HJ15.out; first | omega | exact Nat.le_refl _⟩, ⟨by (with_reducible repeat (first | apply Kd.R_alloc | apply Kd.R_drewN | apply Kd.R_drew)); exact Kd.R_mono HO_251000.out (fun _ hk => by first | exact ⟨hk.1, hk.2.1⟩ | grind)⟩, ⟨by (with_reducible repeat (first | apply Kd.R_alloc | apply Kd.R_drewN | apply Kd.R_drew)); exact Kd.R_mono HO_255000.out (fun _ hk => by first | exact ⟨hk.1.1, hk.1.2⟩ | grind)⟩, ⟨by (with_reducible repeat (first | apply Kd.R_alloc | apply Kd.R_drewN | apply Kd.R_drew)); exact Kd.R_mono HO_262000.out (fun _ hk => by first | exact ⟨hk.1, hk.2.1⟩ | grind)⟩, ⟨by (with_reducible repeat (first | refine blk_drewN ?_ _ | refine blk_drew ?_ | refine blk_alloc ?_ _)); exact BK238.out⟩, ⟨by (with_reducible repeat (first | refine blk_drewN ?_ _ | refine blk_drew ?_ | refine blk_alloc ?_ _)); exact BK239.out⟩, ⟨by (with_reducible repeat (first | refine blk_drewN ?_ _ | refine blk_drew ?_ | refine blk_alloc ?_ _)); exact BK250.out⟩, ⟨by (with_reducible repeat (first | refine blk_drewN ?_ _ | refine blk_drew ?_ | refine blk_alloc ?_ _)); exact BK254.out⟩, ⟨by (with_reducible repeat (first | refine blk_drewN ?_ _ | refine blk_drew ?_ | refine blk_alloc ?_ _)); exact BK261.out⟩, ⟨by repeat (first | (with_reducible first | exact HB.out | apply below_alloc | apply pw_below_drewN | apply below_drew1 | refine below_set ?_ GE238.out | refine below_set ?_ GE239.out | refine below_set ?_ GE250.out | refine below_set ?_ GE254.out | refine below_set ?_ GE261.out) | exact HB.out)⟩⟩
   case rest =>
    clear HC75
    try clear c1
    try clear p2
    try clear c4
    try clear c5
    try clear c6
    try clear c7
    try clear c8
    try clear c9
    try clear c10
    try clear c11
    try clear c12
    try clear c13
    try clear c49
    try clear c50
    try clear c51
    try clear c52
    try clear c53
    try clear c55
    try clear c56
    try clear c57
    try clear c60
    try clear c61
    try clear c62
    try clear c63
    try clear c65
    try clear c66
    try clear c67
    try clear c70
    try clear c73
    try clear c80
    try clear c81
    try clear c82
    try clear c83
    try clear c86
    try clear c86b0
    try clear c88
    try clear c89
    try clear c90
    try clear c91
    try clear c92
    try clear c94
    try clear c95
    try clear c96
    try clear c99
    try clear c100
    try clear c101
    try clear c102
    try clear c104
    try clear c105
    try clear c106
    try clear hcz103_0
    try clear hcz107_0
    try clear hcz54_0
    try clear hcz58_0
    try clear hcz64_0
    try clear hcz68_0
    try clear hcz84_0
    try clear hcz93_0
    try clear hcz97_0
    try clear hfz103_0
    try clear hfz107_0
    try clear hfz54_0
    try clear hfz58_0
    try clear hfz64_0
    try clear hfz68_0
    try clear hfz84_0
    try clear hfz93_0
    try clear hfz97_0
    try clear p2
    obtain ⟨kq, x67_74, rfl, HA, HJ74, HO_251000, HO_255000, HO_262000, BK238, BK239, BK250, BK254, BK261, HB⟩ := hcut
    have hl255000_74 := (Kd.R_reads' HO_255000.out).1
    rw [hl255000_74] at HO_255000
    (try simp only [hl255000_74])
    (try simp only [hl255000_74] at BK238)
    (try simp only [hl255000_74] at BK239)
    (try simp only [hl255000_74] at BK250)
    (try simp only [hl255000_74] at BK254)
    (try simp only [hl255000_74] at BK261)
    (try simp only [hl255000_74] at HO_251000)
    (try simp only [hl255000_74] at HO_262000)
    cases kq with
    | zero => exact absurd HA.out (by simp [laws_FnExactDropRoute.j1])
    | succ kj74 =>
     have H := HA.out
     clear HA
     simp only [laws_FnExactDropRoute.j1] at H
     by_cases c109 : x67_74 = true
     ·subst c109
      rw [if_pos rfl] at H
      obtain rfl := Option.some.inj H
      go_wp2
      go_ret
      exact ⟨by first | rfl | (simp [errW_none, errW_some] <;> rfl) | (simp [*, errW_none, errW_some] <;> rfl), by repeat (first | (with_reducible first | exact HB.out | apply below_alloc | apply pw_below_drewN | apply below_drew1 | refine below_set ?_ GE238.out | refine below_set ?_ GE239.out | refine below_set ?_ GE250.out | refine below_set ?_ GE254.out | refine below_set ?_ GE261.out) | exact HB.out)⟩
     replace c109 := Bool.eq_false_iff.mpr c109
     subst c109
     rw [if_neg (show ¬ (false = true) by decide)] at H
     replace H := Option.bind_eq_some_iff.mp H
     obtain ⟨⟨t270, t271⟩, A1100, H⟩ := H
     have A110 := Aside0.mk A1100
     clear A1100
     replace H := Option.bind_eq_some_iff.mp H
     obtain ⟨t272, A1110, H⟩ := H
     have A111 := Aside0.mk A1110
     clear A1110
     by_cases c112 : t272 < 0
     ·rw [if_pos c112] at H
      have c112b0 : decide (t272 < 0) = true := decide_eq_true c112
      clear c112
      obtain rfl := Option.some.inj H
      have hnb113 := NB261_238.out
      have hnc113 := NB238_261.out
      have hnb114 := NB261_239.out
      have hnc114 := NB239_261.out
      have hnb115 := NB261_250.out
      have hnc115 := NB250_261.out
      have hnb116 := NB261_254.out
      have hnc116 := NB254_261.out
      have hcz117_0 := cz_ BK261 0 (.slice Ao46 t257.length co46)
      have hfz117_0 := blk_frozen BK261.out 0
      go_wp2_with (first | ((with_reducible refine gate_callee (f := 13) rfl ?_); refine gl_ (some 70) Try.func13 #[.agg #[.slice Ao46 t257.length co46], .int .i64 1] ?_; (with_reducible refine (laws_markTable.calls kj74 (fun k_ => some k_ = (.slice Ao46 t257.length co46 : Value).ownBlock) (.slice Ao46 t257.length co46) t257 1 t270 t271 w _ ?side1 ?side2 A110.out).mono ?_); (case side1 => exact by_ HB); (case side2 => exact Kd.R_tight rfl HO_262000.out); rintro e w118 ⟨rfl, hy0, hb, hkp⟩; refine ⟨_, rfl, ?_⟩; replace HO_251000 := kp_ (fun k_ => some k_ ≠ (.slice Ao35 t268.length co35 : Value).ownBlock ∧ some k_ ≠ (.slice Ao46 t257.length co46 : Value).ownBlock) (HO_251000.out) hkp; replace HO_255000 := kp_ (fun k_ => some k_ ≠ (.slice Ao29 t246.length co29 : Value).ownBlock ∧ some k_ ≠ (.slice Ao46 t257.length co46 : Value).ownBlock) (HO_255000.out) hkp; replace BK238 := bk_ BK238 hkp (fun hs_ => (Kd.R_ne HO_262000.out BK238.out (by decide)) hs_); replace BK239 := bk_ BK239 hkp (fun hs_ => (Kd.R_ne HO_262000.out BK239.out (by decide)) hs_); replace BK250 := bk_ BK250 hkp (fun hs_ => (Kd.R_ne HO_262000.out BK250.out (by decide)) hs_); replace BK254 := bk_ BK254 hkp (fun hs_ => (Kd.R_ne HO_262000.out BK254.out (by decide)) hs_); replace BK261 := bk_ BK261 hkp (fun hs_ => (Kd.R_ne HO_262000.out BK261.out (by decide)) hs_); replace HO_262000 := Aside0.mk (Kd.R_reok rfl hy0 (fun k_ e_ => HO_262000.out.1 k_ e_)); replace HB := Aside0.mk (hb); (try clear hb); (try clear hkp); (try clear hy0); have hcz119_0 := cz_ BK261 0 (.slice Ao46 t257.length co46); have hfz119_0 := blk_frozen BK261.out 0) | ((with_reducible refine gate_callee (f := 14) rfl ?_); refine goesL_ (some 73) rfl rfl Try.func14 (by kernel_rfl) rfl #[.agg #[.slice Ao46 t271.length co46], .int .i64 1] rfl (by (try simp only [List.map_toArray, List.map_cons, List.map_nil]); first | done | (rw [show t271.length = t257.length from (Kd.R_reads' HO_262000.out).1.symm] <;> rfl) | rfl | (simp only [List.length_drop, List.length_take]; rfl)) ?_; (with_reducible refine (laws_heldTable.calls kj74 _ _ t271 1 t272 _ ?side1 ?side2 A111.out).mono ?_); (case side1 => exact rc_ HO_262000); (case side2 => rw [show t271.length = t257.length from (Kd.R_reads' HO_262000.out).1.symm]; exact (Kd.R_reads' HO_262000.out).2.1); rintro e w120 ⟨rfl, hb⟩; refine ⟨_, rfl, ?_⟩; replace HO_251000 := rb_ HO_251000 hb; replace HO_255000 := rb_ HO_255000 hb; replace HO_262000 := rb_ HO_262000 hb; replace BK238 := Aside0.mk (bb_ BK238 hb); replace BK239 := Aside0.mk (bb_ BK239 hb); replace BK250 := Aside0.mk (bb_ BK250 hb); replace BK254 := Aside0.mk (bb_ BK254 hb); replace BK261 := Aside0.mk (bb_ BK261 hb); replace HB := Aside0.mk (bt_ HB hb); (try clear hb); (try clear hb2); (try clear hk); (try clear hi)))
      go_ret
      exact ⟨by first | rfl | (simp [errW_none, errW_some] <;> rfl) | (simp [*, errW_none, errW_some] <;> rfl), by repeat (first | (with_reducible first | exact HB.out | apply below_alloc | apply pw_below_drewN | apply below_drew1 | refine below_set ?_ GE238.out | refine below_set ?_ GE239.out | refine below_set ?_ GE250.out | refine below_set ?_ GE254.out | refine below_set ?_ GE261.out) | exact HB.out)⟩
     rw [if_neg c112] at H
     have c112b0 : decide (t272 < 0) = false := decide_eq_false c112
     clear c112
     by_cases c121 : t272 = t270
     rotate_left
     ·rw [if_neg c121] at H
      have c121b0 : (t272 == t270) = false := beq_eq_false_iff_ne.mpr c121
      have c121b1 : (t272 != t270) = true := bne_iff_ne.mpr c121
      obtain rfl := Option.some.inj H
      have hnb194 := NB261_238.out
      have hnc194 := NB238_261.out
      have hnb195 := NB261_239.out
      have hnc195 := NB239_261.out
      have hnb196 := NB261_250.out
      have hnc196 := NB250_261.out
      have hnb197 := NB261_254.out
      have hnc197 := NB254_261.out
      have hcz198_0 := cz_ BK261 0 (.slice Ao46 t257.length co46)
      have hfz198_0 := blk_frozen BK261.out 0
      go_wp2_with (first | ((with_reducible refine gate_callee (f := 13) rfl ?_); refine gl_ (some 70) Try.func13 #[.agg #[.slice Ao46 t257.length co46], .int .i64 1] ?_; (with_reducible refine (laws_markTable.calls kj74 (fun k_ => some k_ = (.slice Ao46 t257.length co46 : Value).ownBlock) (.slice Ao46 t257.length co46) t257 1 t270 t271 w _ ?side1 ?side2 A110.out).mono ?_); (case side1 => exact by_ HB); (case side2 => exact Kd.R_tight rfl HO_262000.out); rintro e w199 ⟨rfl, hy0, hb, hkp⟩; refine ⟨_, rfl, ?_⟩; replace HO_251000 := kp_ (fun k_ => some k_ ≠ (.slice Ao35 t268.length co35 : Value).ownBlock ∧ some k_ ≠ (.slice Ao46 t257.length co46 : Value).ownBlock) (HO_251000.out) hkp; replace HO_255000 := kp_ (fun k_ => some k_ ≠ (.slice Ao29 t246.length co29 : Value).ownBlock ∧ some k_ ≠ (.slice Ao46 t257.length co46 : Value).ownBlock) (HO_255000.out) hkp; replace BK238 := bk_ BK238 hkp (fun hs_ => (Kd.R_ne HO_262000.out BK238.out (by decide)) hs_); replace BK239 := bk_ BK239 hkp (fun hs_ => (Kd.R_ne HO_262000.out BK239.out (by decide)) hs_); replace BK250 := bk_ BK250 hkp (fun hs_ => (Kd.R_ne HO_262000.out BK250.out (by decide)) hs_); replace BK254 := bk_ BK254 hkp (fun hs_ => (Kd.R_ne HO_262000.out BK254.out (by decide)) hs_); replace BK261 := bk_ BK261 hkp (fun hs_ => (Kd.R_ne HO_262000.out BK261.out (by decide)) hs_); replace HO_262000 := Aside0.mk (Kd.R_reok rfl hy0 (fun k_ e_ => HO_262000.out.1 k_ e_)); replace HB := Aside0.mk (hb); (try clear hb); (try clear hkp); (try clear hy0); have hcz200_0 := cz_ BK261 0 (.slice Ao46 t257.length co46); have hfz200_0 := blk_frozen BK261.out 0) | ((with_reducible refine gate_callee (f := 14) rfl ?_); refine goesL_ (some 73) rfl rfl Try.func14 (by kernel_rfl) rfl #[.agg #[.slice Ao46 t271.length co46], .int .i64 1] rfl (by (try simp only [List.map_toArray, List.map_cons, List.map_nil]); first | done | (rw [show t271.length = t257.length from (Kd.R_reads' HO_262000.out).1.symm] <;> rfl) | rfl | (simp only [List.length_drop, List.length_take]; rfl)) ?_; (with_reducible refine (laws_heldTable.calls kj74 _ _ t271 1 t272 _ ?side1 ?side2 A111.out).mono ?_); (case side1 => exact rc_ HO_262000); (case side2 => rw [show t271.length = t257.length from (Kd.R_reads' HO_262000.out).1.symm]; exact (Kd.R_reads' HO_262000.out).2.1); rintro e w201 ⟨rfl, hb⟩; refine ⟨_, rfl, ?_⟩; replace HO_251000 := rb_ HO_251000 hb; replace HO_255000 := rb_ HO_255000 hb; replace HO_262000 := rb_ HO_262000 hb; replace BK238 := Aside0.mk (bb_ BK238 hb); replace BK239 := Aside0.mk (bb_ BK239 hb); replace BK250 := Aside0.mk (bb_ BK250 hb); replace BK254 := Aside0.mk (bb_ BK254 hb); replace BK261 := Aside0.mk (bb_ BK261 hb); replace HB := Aside0.mk (bt_ HB hb); (try clear hb); (try clear hb2); (try clear hk); (try clear hi)))
      go_ret
      exact ⟨by first | rfl | (simp [errW_none, errW_some] <;> rfl) | (simp [*, errW_none, errW_some] <;> rfl), by repeat (first | (with_reducible first | exact HB.out | apply below_alloc | apply pw_below_drewN | apply below_drew1 | refine below_set ?_ GE238.out | refine below_set ?_ GE239.out | refine below_set ?_ GE250.out | refine below_set ?_ GE254.out | refine below_set ?_ GE261.out) | exact HB.out)⟩
     rw [if_pos c121] at H
     have c121b0 : (t272 == t270) = true := beq_iff_eq.mpr c121
     have c121b1 : (t272 != t270) = false := bne_eq_false_iff_eq.mpr c121
     clear c121
     replace H := Option.bind_eq_some_iff.mp H
     obtain ⟨t273, A1220, H⟩ := H
     have A122 := Aside0.mk A1220
     clear A1220
     replace H := Option.bind_eq_some_iff.mp H
     obtain ⟨⟨t276, t277⟩, A1230, H⟩ := H
     have A123 := Aside0.mk A1230
     clear A1230
     replace H := Option.bind_eq_some_iff.mp H
     obtain ⟨⟨t278, t281⟩, A1240, H⟩ := H
     have A124 := Aside0.mk A1240
     clear A1240
     have HC125 := Aside0.mk H
     clear H
     have hnb126 := NB261_238.out
     have hnc126 := NB238_261.out
     have hnb127 := NB261_239.out
     have hnc127 := NB239_261.out
     have hnb128 := NB261_250.out
     have hnc128 := NB250_261.out
     have hnb129 := NB261_254.out
     have hnc129 := NB254_261.out
     have hcz130_0 := cz_ BK261 0 (.slice Ao46 t257.length co46)
     have hfz130_0 := blk_frozen BK261.out 0
     try go_wp2_with (first | ((with_reducible refine gate_callee (f := 13) rfl ?_); refine gl_ (some 70) Try.func13 #[.agg #[.slice Ao46 t257.length co46], .int .i64 1] ?_; (with_reducible refine (laws_markTable.calls kj74 (fun k_ => some k_ = (.slice Ao46 t257.length co46 : Value).ownBlock) (.slice Ao46 t257.length co46) t257 1 t270 t271 w _ ?side1 ?side2 A110.out).mono ?_); (case side1 => exact by_ HB); (case side2 => exact Kd.R_tight rfl HO_262000.out); rintro e w131 ⟨rfl, hy0, hb, hkp⟩; refine ⟨_, rfl, ?_⟩; replace HO_251000 := kp_ (fun k_ => some k_ ≠ (.slice Ao35 t268.length co35 : Value).ownBlock ∧ some k_ ≠ (.slice Ao46 t257.length co46 : Value).ownBlock) (HO_251000.out) hkp; replace HO_255000 := kp_ (fun k_ => some k_ ≠ (.slice Ao29 t246.length co29 : Value).ownBlock ∧ some k_ ≠ (.slice Ao46 t257.length co46 : Value).ownBlock) (HO_255000.out) hkp; replace BK238 := bk_ BK238 hkp (fun hs_ => (Kd.R_ne HO_262000.out BK238.out (by decide)) hs_); replace BK239 := bk_ BK239 hkp (fun hs_ => (Kd.R_ne HO_262000.out BK239.out (by decide)) hs_); replace BK250 := bk_ BK250 hkp (fun hs_ => (Kd.R_ne HO_262000.out BK250.out (by decide)) hs_); replace BK254 := bk_ BK254 hkp (fun hs_ => (Kd.R_ne HO_262000.out BK254.out (by decide)) hs_); replace BK261 := bk_ BK261 hkp (fun hs_ => (Kd.R_ne HO_262000.out BK261.out (by decide)) hs_); replace HO_262000 := Aside0.mk (Kd.R_reok rfl hy0 (fun k_ e_ => HO_262000.out.1 k_ e_)); replace HB := Aside0.mk (hb); (try clear hb); (try clear hkp); (try clear hy0); have hcz132_0 := cz_ BK261 0 (.slice Ao46 t257.length co46); have hfz132_0 := blk_frozen BK261.out 0) | ((with_reducible refine gate_callee (f := 14) rfl ?_); refine goesL_ (some 73) rfl rfl Try.func14 (by kernel_rfl) rfl #[.agg #[.slice Ao46 t271.length co46], .int .i64 1] rfl (by (try simp only [List.map_toArray, List.map_cons, List.map_nil]); first | done | (rw [show t271.length = t257.length from (Kd.R_reads' HO_262000.out).1.symm] <;> rfl) | rfl | (simp only [List.length_drop, List.length_take]; rfl)) ?_; (with_reducible refine (laws_heldTable.calls kj74 _ _ t271 1 t272 _ ?side1 ?side2 A111.out).mono ?_); (case side1 => exact rc_ HO_262000); (case side2 => rw [show t271.length = t257.length from (Kd.R_reads' HO_262000.out).1.symm]; exact (Kd.R_reads' HO_262000.out).2.1); rintro e w133 ⟨rfl, hb⟩; refine ⟨_, rfl, ?_⟩; replace HO_251000 := rb_ HO_251000 hb; replace HO_255000 := rb_ HO_255000 hb; replace HO_262000 := rb_ HO_262000 hb; replace BK238 := Aside0.mk (bb_ BK238 hb); replace BK239 := Aside0.mk (bb_ BK239 hb); replace BK250 := Aside0.mk (bb_ BK250 hb); replace BK254 := Aside0.mk (bb_ BK254 hb); replace BK261 := Aside0.mk (bb_ BK261 hb); replace HB := Aside0.mk (bt_ HB hb); (try clear hb); (try clear hb2); (try clear hk); (try clear hi)))
     replace HO_251000 := Aside0.mk (Kd.R_drew HO_251000.out)
     replace HO_255000 := Aside0.mk (Kd.R_drew HO_255000.out)
     replace HO_262000 := Aside0.mk (Kd.R_drew HO_262000.out)
     replace BK238 := Aside0.mk (blk_drew BK238.out)
     replace BK239 := Aside0.mk (blk_drew BK239.out)
     replace BK250 := Aside0.mk (blk_drew BK250.out)
     replace BK254 := Aside0.mk (blk_drew BK254.out)
     replace BK261 := Aside0.mk (blk_drew BK261.out)
     replace HB := Aside0.mk (below_drew1 HB.out)
     refine start_ (n := 11) (S := fun w' => w'.cell? ⟨gb238, 0, none⟩ = some (.slice A0_0 l0_0.length c0_0) ∧ w'.cell? ⟨gb239, 0, none⟩ = some (.int .i64 a1_0) ∧ w'.cell? ⟨gb239, 1, none⟩ = some (.int .i64 a1_1)) (ds := []) ba10_0 (by kernel_rfl) rfl rfl ⟨(blk_cell BK238.out 0).trans rfl, (blk_cell BK239.out 0).trans rfl, (blk_cell BK239.out 1).trans rfl⟩ (fun hHeld => ?_); refine with_tabW laws_FnExactDropRoute.tab24 laws_FnExactDropRoute.bits24 (fun HT_ HW_ => ?_)
     generalize w133.drew = w134 at HO_251000 HO_255000 HO_262000 BK238 BK239 BK250 BK254 BK261 HB hHeld ⊢
     refine pt_ 0 80 ba10_1 HT_ HW_ hHeld ?_
     refine pt_ 2 82 ba10_2 HT_ HW_ hHeld ?_
     refine join_ (σ := Value × Value × Nat) 2 ba10_3 (fun s_ => [(81, .agg #[s_.1]), (83, .agg #[.int .i64 t276, .int .i64 t277]), (84, .tuple #[.agg #[s_.2.1], .bool t281]), (14, .pointer (some ⟨s_.2.2, 0, none⟩)), (79, .tuple #[.agg #[s_.2.1], .bool t281]), (85, .agg #[s_.2.1]), (86, .bool t281)]) (fun s_ w' => (w'.cell? ⟨gb238, 0, none⟩ = some (.slice A0_0 l0_0.length c0_0) ∧ w'.cell? ⟨gb239, 0, none⟩ = some (.int .i64 a1_0) ∧ w'.cell? ⟨gb239, 1, none⟩ = some (.int .i64 a1_1)) ∧ (Kd.R k43 43 w' w.heap.size (fun k_ => some k_ ≠ (s_.2.1 : Value).ownBlock ∧ some k_ ≠ (.slice Ao29 t246.length co29 : Value).ownBlock ∧ some k_ ≠ (.slice Ao35 t268.length co35 : Value).ownBlock ∧ some k_ ≠ (.slice Ao46 t257.length co46 : Value).ownBlock) s_.1 t273) ∧ (Kd.R k43 43 w' w.heap.size (fun k_ => some k_ ≠ (s_.1 : Value).ownBlock ∧ some k_ ≠ (.slice Ao29 t246.length co29 : Value).ownBlock ∧ some k_ ≠ (.slice Ao35 t268.length co35 : Value).ownBlock ∧ some k_ ≠ (.slice Ao46 t257.length co46 : Value).ownBlock) s_.2.1 t278) ∧ (Kd.R k43 43 w' w.heap.size (fun k_ => some k_ ≠ (s_.1 : Value).ownBlock ∧ some k_ ≠ (s_.2.1 : Value).ownBlock ∧ some k_ ≠ (.slice Ao35 t268.length co35 : Value).ownBlock ∧ some k_ ≠ (.slice Ao46 t257.length co46 : Value).ownBlock) (.slice Ao29 t246.length co29) t246) ∧ (Kd.R k43 43 w' w.heap.size (fun k_ => some k_ ≠ (s_.1 : Value).ownBlock ∧ some k_ ≠ (s_.2.1 : Value).ownBlock ∧ some k_ ≠ (.slice Ao29 t246.length co29 : Value).ownBlock ∧ some k_ ≠ (.slice Ao46 t257.length co46 : Value).ownBlock) (.slice Ao35 t268.length co35) t268) ∧ (Kd.R k43 43 w' w.heap.size (fun k_ => some k_ ≠ (s_.1 : Value).ownBlock ∧ some k_ ≠ (s_.2.1 : Value).ownBlock ∧ some k_ ≠ (.slice Ao29 t246.length co29 : Value).ownBlock ∧ some k_ ≠ (.slice Ao35 t268.length co35 : Value).ownBlock) (.slice Ao46 t257.length co46) t271) ∧ (w'.heap[gb238]? = some (.cells #[.slice A0_0 l0_0.length c0_0] 24 (0, 0))) ∧ (w'.heap[gb239]? = some (.cells #[.int .i64 a1_0, .int .i64 a1_1] 26 (0, 0))) ∧ (w'.heap[gb250]? = some (.cells #[.slice Ao29 t246.length co29] 30 (0, 0))) ∧ (w'.heap[gb254]? = some (.cells #[.slice Ao35 t268.length co35] 30 (0, 0))) ∧ (w'.heap[gb261]? = some (.cells #[.slice Ao46 t257.length co46] 30 (0, 0))) ∧ (w'.heap[s_.2.2]? = some (.cells #[.slice none 0 0] 30 (0, 0))) ∧ (w.heap.size ≤ s_.2.2) ∧ (w.heap.size ≤ s_.2.2) ∧ (gb238 ≠ s_.2.2) ∧ (s_.2.2 ≠ gb238) ∧ (gb239 ≠ s_.2.2) ∧ (s_.2.2 ≠ gb239) ∧ (gb250 ≠ s_.2.2) ∧ (s_.2.2 ≠ gb250) ∧ (gb254 ≠ s_.2.2) ∧ (s_.2.2 ≠ gb254) ∧ (gb261 ≠ s_.2.2) ∧ (s_.2.2 ≠ gb261) ∧ (Below w.heap.size w w')) ?_ ?_
     rotate_left
     ·intro hCont
      refine two_ (i := 1) (j := 8) (Ni := some 81) (Nj := some 14) ba10_4 ba10_5 rfl rfl rfl rfl (two_of HT_.out (by kernel_rfl)) (by decide) (by decide) (fun K hK => ?_) (fun K hK => ?_)
      ·skip
       refine gz_ Try.func9 #[.agg #[.slice A0_0 l0_0.length c0_0]] ?_
       with_reducible refine (laws_toTable.calls kj74 _ _ l0_0 t273 _ ?side1 ?side2 A122.out).mono ?_
       (case side1 => exact cb_ HR0_0 HB)
       (case side2 => exact HC0_0.out)
       rintro e w135 ⟨v274, rfl, ho0, hb⟩
       refine ⟨_, rfl, ?_⟩
       have HO275 := Aside0.mk (Kd.R_lower (Kd.R_new' (Kd.R_new' (Kd.R_new' ho0 (Kd.R_lt (hd_ HO_251000))) (Kd.R_lt (hd_ HO_255000))) (Kd.R_lt (hd_ HO_262000))) (bz_ HB))
       replace HO_251000 := Aside0.mk (Kd.R_elder' (hd_ HO_251000) (Kd.R_base ho0) hb)
       replace HO_255000 := Aside0.mk (Kd.R_elder' (hd_ HO_255000) (Kd.R_base ho0) hb)
       replace HO_262000 := Aside0.mk (Kd.R_elder' (hd_ HO_262000) (Kd.R_base ho0) hb)
       replace BK238 := Aside0.mk (bb_ BK238 hb)
       replace BK239 := Aside0.mk (bb_ BK239 hb)
       replace BK250 := Aside0.mk (bb_ BK250 hb)
       replace BK254 := Aside0.mk (bb_ BK254 hb)
       replace BK261 := Aside0.mk (bb_ BK261 hb)
       replace HB := Aside0.mk (bt_ HB hb)
       (try clear hb)
       (try clear hb2)
       (try clear hk)
       (try clear hi)
       (try clear ho0)
       refine hK.out _ _ ⟨(blk_cell BK238.out 0).trans rfl, (blk_cell BK239.out 0).trans rfl, (blk_cell BK239.out 1).trans rfl⟩ (fun hHeld => ?_)
       clear hK K
       refine nz_ 81 ?_
       refine two_ (i := 3) (j := 8) (Ni := some 83) (Nj := some 14) ba10_6 ba10_7 rfl rfl rfl rfl (two_of HT_.out (by kernel_rfl)) (by decide) (by decide) (fun K hK => ?_) (fun K hK => ?_)
       ·skip
        refine gz_ Try.func10 #[.agg #[.int .i64 a1_0, .int .i64 a1_1]] ?_
        with_reducible refine (laws_toPrefix.calls a1_0 a1_1 t276 t277 _ A123.out).mono ?_
        rintro e w136 ⟨rfl, hb⟩
        refine ⟨_, rfl, ?_⟩
        replace HO_251000 := rb_ HO_251000 hb
        replace HO_255000 := rb_ HO_255000 hb
        replace HO_262000 := rb_ HO_262000 hb
        replace HO275 := rb_ HO275 hb
        replace BK238 := Aside0.mk (bb_ BK238 hb)
        replace BK239 := Aside0.mk (bb_ BK239 hb)
        replace BK250 := Aside0.mk (bb_ BK250 hb)
        replace BK254 := Aside0.mk (bb_ BK254 hb)
        replace BK261 := Aside0.mk (bb_ BK261 hb)
        replace HB := Aside0.mk (bt_ HB hb)
        (try clear hb)
        (try clear hb2)
        (try clear hk)
        (try clear hi)
        obtain ⟨Ao137, co137, eo137⟩ := Kd.R_slice HO275.out
        (first | subst eo137 | (injection eo137 with f1_ f2_ f3_; have f4_ := f1_.symm; have f5_ := f3_.symm; clear f1_ f2_ f3_; subst f4_; subst f5_))
        refine hK.out _ _ ⟨(blk_cell BK238.out 0).trans rfl, (blk_cell BK239.out 0).trans rfl, (blk_cell BK239.out 1).trans rfl⟩ (fun hHeld => ?_)
        clear hK K
        refine nz_ 83 ?_
        refine two_ (i := 4) (j := 8) (Ni := some 84) (Nj := some 14) ba10_8 ba10_9 rfl rfl rfl rfl (two_of HT_.out (by kernel_rfl)) (by decide) (by decide) (fun K hK => ?_) (fun K hK => ?_)
        ·skip
         refine gz_ Try.func11 #[.agg #[.slice Ao137 t273.length co137], .agg #[.int .i64 t276, .int .i64 t277]] ?_
         with_reducible refine (impl_DropRoute.calls kj74 _ _ t273 t276 t277 t278 t281 _ ?side1 ?side2 A124.out).mono ?_
         (case side1 => exact rc_ HO275)
         (case side2 => exact (Kd.R_reads' HO275.out).2.1)
         rintro e w138 ⟨v279, rfl, ho0, hb⟩
         refine ⟨_, rfl, ?_⟩
         have HO280 := Aside0.mk (Kd.R_lower (Kd.R_new' (Kd.R_new' (Kd.R_new' (Kd.R_new' ho0 (Kd.R_lt (hd_ HO_251000))) (Kd.R_lt (hd_ HO_255000))) (Kd.R_lt (hd_ HO_262000))) (Kd.R_lt (hd_ HO275))) (bz_ HB))
         replace HO_251000 := Aside0.mk (Kd.R_elder' (hd_ HO_251000) (Kd.R_base ho0) hb)
         replace HO_255000 := Aside0.mk (Kd.R_elder' (hd_ HO_255000) (Kd.R_base ho0) hb)
         replace HO_262000 := Aside0.mk (Kd.R_elder' (hd_ HO_262000) (Kd.R_base ho0) hb)
         replace HO275 := Aside0.mk (Kd.R_elder' (hd_ HO275) (Kd.R_base ho0) hb)
         replace BK238 := Aside0.mk (bb_ BK238 hb)
         replace BK239 := Aside0.mk (bb_ BK239 hb)
         replace BK250 := Aside0.mk (bb_ BK250 hb)
         replace BK254 := Aside0.mk (bb_ BK254 hb)
         replace BK261 := Aside0.mk (bb_ BK261 hb)
         replace HB := Aside0.mk (bt_ HB hb)
         (try clear hb)
         (try clear hb2)
         (try clear hk)
         (try clear hi)
         (try clear ho0)
         refine hK.out _ _ ⟨(blk_cell BK238.out 0).trans rfl, (blk_cell BK239.out 0).trans rfl, (blk_cell BK239.out 1).trans rfl⟩ (fun hHeld => ?_)
         clear hK K
         refine nz_ 84 ?_
         refine pz_ 5 79 ba10_10 HT_ ?_
         refine pz_ 6 85 ba10_11 HT_ ?_
         refine pz_ 7 86 ba10_12 HT_ ?_
         refine one_ (i := 8) (N := some 14) ba10_3 rfl rfl (one_of HT_.out (by kernel_rfl)) (by decide) (fun K hK => ?_)
         refine box_step ?hg (N := 14) ?hd (cs := #[.slice none 0 0]) (t := 30) ?hr ?_; (case hd => rfl); (case hg => rfl); (case hr => first | (go_simp; done) | (go_simp; rfl))
         intro gb282 hg w139 hbox hb
         have BK282 := Aside0.mk hbox
         have GW282 := ge_ HB hg
         have GE282 := ge_ HB hg
         have NB238_282 := nl_ BK238 hg
         have NB282_238 := ng_ BK238 hg
         have NB239_282 := nl_ BK239 hg
         have NB282_239 := ng_ BK239 hg
         have NB250_282 := nl_ BK250 hg
         have NB282_250 := ng_ BK250 hg
         have NB254_282 := nl_ BK254 hg
         have NB282_254 := ng_ BK254 hg
         have NB261_282 := nl_ BK261 hg
         have NB282_261 := ng_ BK261 hg
         replace HO_251000 := rb_ HO_251000 hb
         replace HO_255000 := rb_ HO_255000 hb
         replace HO_262000 := rb_ HO_262000 hb
         replace HO275 := rb_ HO275 hb
         replace HO280 := rb_ HO280 hb
         replace HB := Aside0.mk (bt_ HB hb)
         replace BK238 := Aside0.mk (bb_ BK238 hb)
         replace BK239 := Aside0.mk (bb_ BK239 hb)
         replace BK250 := Aside0.mk (bb_ BK250 hb)
         replace BK254 := Aside0.mk (bb_ BK254 hb)
         replace BK261 := Aside0.mk (bb_ BK261 hb)
         clear hb hbox hg
         refine hK.out _ _ ⟨(blk_cell BK238.out 0).trans rfl, (blk_cell BK239.out 0).trans rfl, (blk_cell BK239.out 1).trans rfl⟩ (fun hHeld => ?_)
         clear hK K
         refine nz_ 14 ?_
         exact norm_ (by simp only [putAll, Act.put, List.setIfInBounds_toArray, List.set_cons_zero, List.set_cons_succ]) (hCont (.slice Ao137 t273.length co137, v279, gb282) _ ⟨hHeld, (by (with_reducible repeat (first | apply Kd.R_alloc | apply Kd.R_drewN | apply Kd.R_drew)); exact Kd.R_mono HO275.out (fun _ hk => ⟨hk.2, ⟨hk.1.1.1.2, ⟨hk.1.1.2, hk.1.2⟩⟩⟩)), (by (with_reducible repeat (first | apply Kd.R_alloc | apply Kd.R_drewN | apply Kd.R_drew)); exact Kd.R_mono HO280.out (fun _ hk => ⟨hk.2, ⟨hk.1.1.1.2, ⟨hk.1.1.2, hk.1.2⟩⟩⟩)), (by (with_reducible repeat (first | apply Kd.R_alloc | apply Kd.R_drewN | apply Kd.R_drew)); exact Kd.R_mono HO_251000.out (fun _ hk => ⟨hk.1.2, ⟨hk.2, ⟨hk.1.1.1, hk.1.1.2⟩⟩⟩)), (by (with_reducible repeat (first | apply Kd.R_alloc | apply Kd.R_drewN | apply Kd.R_drew)); exact Kd.R_mono HO_255000.out (fun _ hk => ⟨hk.1.2, ⟨hk.2, ⟨hk.1.1.1, hk.1.1.2⟩⟩⟩)), (by (with_reducible repeat (first | apply Kd.R_alloc | apply Kd.R_drewN | apply Kd.R_drew)); exact Kd.R_mono HO_262000.out (fun _ hk => ⟨hk.1.2, ⟨hk.2, ⟨hk.1.1.1, hk.1.1.2⟩⟩⟩)), (by (with_reducible repeat (first | refine blk_drewN ?_ _ | refine blk_drew ?_ | refine blk_alloc ?_ _)); exact BK238.out), (by (with_reducible repeat (first | refine blk_drewN ?_ _ | refine blk_drew ?_ | refine blk_alloc ?_ _)); exact BK239.out), (by (with_reducible repeat (first | refine blk_drewN ?_ _ | refine blk_drew ?_ | refine blk_alloc ?_ _)); exact BK250.out), (by (with_reducible repeat (first | refine blk_drewN ?_ _ | refine blk_drew ?_ | refine blk_alloc ?_ _)); exact BK254.out), (by (with_reducible repeat (first | refine blk_drewN ?_ _ | refine blk_drew ?_ | refine blk_alloc ?_ _)); exact BK261.out), (by (with_reducible repeat (first | refine blk_drewN ?_ _ | refine blk_drew ?_ | refine blk_alloc ?_ _)); exact BK282.out), GW282.out, GE282.out, NB238_282.out, NB282_238.out, NB239_282.out, NB282_239.out, NB250_282.out, NB282_250.out, NB254_282.out, NB282_254.out, NB261_282.out, NB282_261.out, (by repeat (first | (with_reducible first | exact HB.out | apply below_alloc | apply pw_below_drewN | apply below_drew1 | refine below_set ?_ GE238.out | refine below_set ?_ GE239.out | refine below_set ?_ GE250.out | refine below_set ?_ GE254.out | refine below_set ?_ GE261.out | refine below_set ?_ GE282.out) | exact HB.out))⟩)
        ·skip
         refine box_step ?hg (N := 14) ?hd (cs := #[.slice none 0 0]) (t := 30) ?hr ?_; (case hd => rfl); (case hg => rfl); (case hr => first | (go_simp; done) | (go_simp; rfl))
         intro gb282 hg w137 hbox hb
         have BK282 := Aside0.mk hbox
         have GW282 := ge_ HB hg
         have GE282 := ge_ HB hg
         have NB238_282 := nl_ BK238 hg
         have NB282_238 := ng_ BK238 hg
         have NB239_282 := nl_ BK239 hg
         have NB282_239 := ng_ BK239 hg
         have NB250_282 := nl_ BK250 hg
         have NB282_250 := ng_ BK250 hg
         have NB254_282 := nl_ BK254 hg
         have NB282_254 := ng_ BK254 hg
         have NB261_282 := nl_ BK261 hg
         have NB282_261 := ng_ BK261 hg
         replace HO_251000 := rb_ HO_251000 hb
         replace HO_255000 := rb_ HO_255000 hb
         replace HO_262000 := rb_ HO_262000 hb
         replace HO275 := rb_ HO275 hb
         replace HB := Aside0.mk (bt_ HB hb)
         replace BK238 := Aside0.mk (bb_ BK238 hb)
         replace BK239 := Aside0.mk (bb_ BK239 hb)
         replace BK250 := Aside0.mk (bb_ BK250 hb)
         replace BK254 := Aside0.mk (bb_ BK254 hb)
         replace BK261 := Aside0.mk (bb_ BK261 hb)
         clear hb hbox hg
         obtain ⟨Ao138, co138, eo138⟩ := Kd.R_slice HO275.out
         (first | subst eo138 | (injection eo138 with f1_ f2_ f3_; have f4_ := f1_.symm; have f5_ := f3_.symm; clear f1_ f2_ f3_; subst f4_; subst f5_))
         refine hK.out _ _ ⟨(blk_cell BK238.out 0).trans rfl, (blk_cell BK239.out 0).trans rfl, (blk_cell BK239.out 1).trans rfl⟩ (fun hHeld => ?_)
         clear hK K
         refine nz_ 14 ?_
         refine one_ (i := 4) (N := some 84) ba10_13 rfl rfl (one_of HT_.out (by kernel_rfl)) (by decide) (fun K hK => ?_)
         refine gz_ Try.func11 #[.agg #[.slice Ao138 t273.length co138], .agg #[.int .i64 t276, .int .i64 t277]] ?_
         with_reducible refine (impl_DropRoute.calls kj74 _ _ t273 t276 t277 t278 t281 _ ?side1 ?side2 A124.out).mono ?_
         (case side1 => exact rc_ HO275)
         (case side2 => exact (Kd.R_reads' HO275.out).2.1)
         rintro e w139 ⟨v279, rfl, ho0, hb⟩
         refine ⟨_, rfl, ?_⟩
         have HO280 := Aside0.mk (Kd.R_lower (Kd.R_new' (Kd.R_new' (Kd.R_new' (Kd.R_new' ho0 (Kd.R_lt (hd_ HO_251000))) (Kd.R_lt (hd_ HO_255000))) (Kd.R_lt (hd_ HO_262000))) (Kd.R_lt (hd_ HO275))) (bz_ HB))
         replace HO_251000 := Aside0.mk (Kd.R_elder' (hd_ HO_251000) (Kd.R_base ho0) hb)
         replace HO_255000 := Aside0.mk (Kd.R_elder' (hd_ HO_255000) (Kd.R_base ho0) hb)
         replace HO_262000 := Aside0.mk (Kd.R_elder' (hd_ HO_262000) (Kd.R_base ho0) hb)
         replace HO275 := Aside0.mk (Kd.R_elder' (hd_ HO275) (Kd.R_base ho0) hb)
         replace BK238 := Aside0.mk (bb_ BK238 hb)
         replace BK239 := Aside0.mk (bb_ BK239 hb)
         replace BK250 := Aside0.mk (bb_ BK250 hb)
         replace BK254 := Aside0.mk (bb_ BK254 hb)
         replace BK261 := Aside0.mk (bb_ BK261 hb)
         replace BK282 := Aside0.mk (bb_ BK282 hb)
         replace HB := Aside0.mk (bt_ HB hb)
         (try clear hb)
         (try clear hb2)
         (try clear hk)
         (try clear hi)
         (try clear ho0)
         refine hK.out _ _ ⟨(blk_cell BK238.out 0).trans rfl, (blk_cell BK239.out 0).trans rfl, (blk_cell BK239.out 1).trans rfl⟩ (fun hHeld => ?_)
         clear hK K
         refine nz_ 84 ?_
         refine pz_ 5 79 ba10_14 HT_ ?_
         refine pz_ 6 85 ba10_15 HT_ ?_
         refine pz_ 7 86 ba10_3 HT_ ?_
         exact norm_ (by simp only [putAll, Act.put, List.setIfInBounds_toArray, List.set_cons_zero, List.set_cons_succ]) (hCont (.slice Ao138 t273.length co138, v279, gb282) _ ⟨hHeld, (by (with_reducible repeat (first | apply Kd.R_alloc | apply Kd.R_drewN | apply Kd.R_drew)); exact Kd.R_mono HO275.out (fun _ hk => ⟨hk.2, ⟨hk.1.1.1.2, ⟨hk.1.1.2, hk.1.2⟩⟩⟩)), (by (with_reducible repeat (first | apply Kd.R_alloc | apply Kd.R_drewN | apply Kd.R_drew)); exact Kd.R_mono HO280.out (fun _ hk => ⟨hk.2, ⟨hk.1.1.1.2, ⟨hk.1.1.2, hk.1.2⟩⟩⟩)), (by (with_reducible repeat (first | apply Kd.R_alloc | apply Kd.R_drewN | apply Kd.R_drew)); exact Kd.R_mono HO_251000.out (fun _ hk => ⟨hk.1.2, ⟨hk.2, ⟨hk.1.1.1, hk.1.1.2⟩⟩⟩)), (by (with_reducible repeat (first | apply Kd.R_alloc | apply Kd.R_drewN | apply Kd.R_drew)); exact Kd.R_mono HO_255000.out (fun _ hk => ⟨hk.1.2, ⟨hk.2, ⟨hk.1.1.1, hk.1.1.2⟩⟩⟩)), (by (with_reducible repeat (first | apply Kd.R_alloc | apply Kd.R_drewN | apply Kd.R_drew)); exact Kd.R_mono HO_262000.out (fun _ hk => ⟨hk.1.2, ⟨hk.2, ⟨hk.1.1.1, hk.1.1.2⟩⟩⟩)), (by (with_reducible repeat (first | refine blk_drewN ?_ _ | refine blk_drew ?_ | refine blk_alloc ?_ _)); exact BK238.out), (by (with_reducible repeat (first | refine blk_drewN ?_ _ | refine blk_drew ?_ | refine blk_alloc ?_ _)); exact BK239.out), (by (with_reducible repeat (first | refine blk_drewN ?_ _ | refine blk_drew ?_ | refine blk_alloc ?_ _)); exact BK250.out), (by (with_reducible repeat (first | refine blk_drewN ?_ _ | refine blk_drew ?_ | refine blk_alloc ?_ _)); exact BK254.out), (by (with_reducible repeat (first | refine blk_drewN ?_ _ | refine blk_drew ?_ | refine blk_alloc ?_ _)); exact BK261.out), (by (with_reducible repeat (first | refine blk_drewN ?_ _ | refine blk_drew ?_ | refine blk_alloc ?_ _)); exact BK282.out), GW282.out, GE282.out, NB238_282.out, NB282_238.out, NB239_282.out, NB282_239.out, NB250_282.out, NB282_250.out, NB254_282.out, NB282_254.out, NB261_282.out, NB282_261.out, (by repeat (first | (with_reducible first | exact HB.out | apply below_alloc | apply pw_below_drewN | apply below_drew1 | refine below_set ?_ GE238.out | refine below_set ?_ GE239.out | refine below_set ?_ GE250.out | refine below_set ?_ GE254.out | refine below_set ?_ GE261.out | refine below_set ?_ GE282.out) | exact HB.out))⟩)
       ·skip
        refine box_step ?hg (N := 14) ?hd (cs := #[.slice none 0 0]) (t := 30) ?hr ?_; (case hd => rfl); (case hg => rfl); (case hr => first | (go_simp; done) | (go_simp; rfl))
        intro gb282 hg w136 hbox hb
        have BK282 := Aside0.mk hbox
        have GW282 := ge_ HB hg
        have GE282 := ge_ HB hg
        have NB238_282 := nl_ BK238 hg
        have NB282_238 := ng_ BK238 hg
        have NB239_282 := nl_ BK239 hg
        have NB282_239 := ng_ BK239 hg
        have NB250_282 := nl_ BK250 hg
        have NB282_250 := ng_ BK250 hg
        have NB254_282 := nl_ BK254 hg
        have NB282_254 := ng_ BK254 hg
        have NB261_282 := nl_ BK261 hg
        have NB282_261 := ng_ BK261 hg
        replace HO_251000 := rb_ HO_251000 hb
        replace HO_255000 := rb_ HO_255000 hb
        replace HO_262000 := rb_ HO_262000 hb
        replace HO275 := rb_ HO275 hb
        replace HB := Aside0.mk (bt_ HB hb)
        replace BK238 := Aside0.mk (bb_ BK238 hb)
        replace BK239 := Aside0.mk (bb_ BK239 hb)
        replace BK250 := Aside0.mk (bb_ BK250 hb)
        replace BK254 := Aside0.mk (bb_ BK254 hb)
        replace BK261 := Aside0.mk (bb_ BK261 hb)
        clear hb hbox hg
        refine hK.out _ _ ⟨(blk_cell BK238.out 0).trans rfl, (blk_cell BK239.out 0).trans rfl, (blk_cell BK239.out 1).trans rfl⟩ (fun hHeld => ?_)
        clear hK K
        refine nz_ 14 ?_
        refine one_ (i := 3) (N := some 83) ba10_9 rfl rfl (one_of HT_.out (by kernel_rfl)) (by decide) (fun K hK => ?_)
        refine gz_ Try.func10 #[.agg #[.int .i64 a1_0, .int .i64 a1_1]] ?_
        with_reducible refine (laws_toPrefix.calls a1_0 a1_1 t276 t277 _ A123.out).mono ?_
        rintro e w137 ⟨rfl, hb⟩
        refine ⟨_, rfl, ?_⟩
        replace HO_251000 := rb_ HO_251000 hb
        replace HO_255000 := rb_ HO_255000 hb
        replace HO_262000 := rb_ HO_262000 hb
        replace HO275 := rb_ HO275 hb
        replace BK238 := Aside0.mk (bb_ BK238 hb)
        replace BK239 := Aside0.mk (bb_ BK239 hb)
        replace BK250 := Aside0.mk (bb_ BK250 hb)
        replace BK254 := Aside0.mk (bb_ BK254 hb)
        replace BK261 := Aside0.mk (bb_ BK261 hb)
        replace BK282 := Aside0.mk (bb_ BK282 hb)
        replace HB := Aside0.mk (bt_ HB hb)
        (try clear hb)
        (try clear hb2)
        (try clear hk)
        (try clear hi)
        obtain ⟨Ao138, co138, eo138⟩ := Kd.R_slice HO275.out
        (first | subst eo138 | (injection eo138 with f1_ f2_ f3_; have f4_ := f1_.symm; have f5_ := f3_.symm; clear f1_ f2_ f3_; subst f4_; subst f5_))
        refine hK.out _ _ ⟨(blk_cell BK238.out 0).trans rfl, (blk_cell BK239.out 0).trans rfl, (blk_cell BK239.out 1).trans rfl⟩ (fun hHeld => ?_)
        clear hK K
        refine nz_ 83 ?_
        refine one_ (i := 4) (N := some 84) ba10_13 rfl rfl (one_of HT_.out (by kernel_rfl)) (by decide) (fun K hK => ?_)
        refine gz_ Try.func11 #[.agg #[.slice Ao138 t273.length co138], .agg #[.int .i64 t276, .int .i64 t277]] ?_
        with_reducible refine (impl_DropRoute.calls kj74 _ _ t273 t276 t277 t278 t281 _ ?side1 ?side2 A124.out).mono ?_
        (case side1 => exact rc_ HO275)
        (case side2 => exact (Kd.R_reads' HO275.out).2.1)
        rintro e w139 ⟨v279, rfl, ho0, hb⟩
        refine ⟨_, rfl, ?_⟩
        have HO280 := Aside0.mk (Kd.R_lower (Kd.R_new' (Kd.R_new' (Kd.R_new' (Kd.R_new' ho0 (Kd.R_lt (hd_ HO_251000))) (Kd.R_lt (hd_ HO_255000))) (Kd.R_lt (hd_ HO_262000))) (Kd.R_lt (hd_ HO275))) (bz_ HB))
        replace HO_251000 := Aside0.mk (Kd.R_elder' (hd_ HO_251000) (Kd.R_base ho0) hb)
        replace HO_255000 := Aside0.mk (Kd.R_elder' (hd_ HO_255000) (Kd.R_base ho0) hb)
        replace HO_262000 := Aside0.mk (Kd.R_elder' (hd_ HO_262000) (Kd.R_base ho0) hb)
        replace HO275 := Aside0.mk (Kd.R_elder' (hd_ HO275) (Kd.R_base ho0) hb)
        replace BK238 := Aside0.mk (bb_ BK238 hb)
        replace BK239 := Aside0.mk (bb_ BK239 hb)
        replace BK250 := Aside0.mk (bb_ BK250 hb)
        replace BK254 := Aside0.mk (bb_ BK254 hb)
        replace BK261 := Aside0.mk (bb_ BK261 hb)
        replace BK282 := Aside0.mk (bb_ BK282 hb)
        replace HB := Aside0.mk (bt_ HB hb)
        (try clear hb)
        (try clear hb2)
        (try clear hk)
        (try clear hi)
        (try clear ho0)
        refine hK.out _ _ ⟨(blk_cell BK238.out 0).trans rfl, (blk_cell BK239.out 0).trans rfl, (blk_cell BK239.out 1).trans rfl⟩ (fun hHeld => ?_)
        clear hK K
        refine nz_ 84 ?_
        refine pz_ 5 79 ba10_14 HT_ ?_
        refine pz_ 6 85 ba10_15 HT_ ?_
        refine pz_ 7 86 ba10_3 HT_ ?_
        exact norm_ (by simp only [putAll, Act.put, List.setIfInBounds_toArray, List.set_cons_zero, List.set_cons_succ]) (hCont (.slice Ao138 t273.length co138, v279, gb282) _ ⟨hHeld, (by (with_reducible repeat (first | apply Kd.R_alloc | apply Kd.R_drewN | apply Kd.R_drew)); exact Kd.R_mono HO275.out (fun _ hk => ⟨hk.2, ⟨hk.1.1.1.2, ⟨hk.1.1.2, hk.1.2⟩⟩⟩)), (by (with_reducible repeat (first | apply Kd.R_alloc | apply Kd.R_drewN | apply Kd.R_drew)); exact Kd.R_mono HO280.out (fun _ hk => ⟨hk.2, ⟨hk.1.1.1.2, ⟨hk.1.1.2, hk.1.2⟩⟩⟩)), (by (with_reducible repeat (first | apply Kd.R_alloc | apply Kd.R_drewN | apply Kd.R_drew)); exact Kd.R_mono HO_251000.out (fun _ hk => ⟨hk.1.2, ⟨hk.2, ⟨hk.1.1.1, hk.1.1.2⟩⟩⟩)), (by (with_reducible repeat (first | apply Kd.R_alloc | apply Kd.R_drewN | apply Kd.R_drew)); exact Kd.R_mono HO_255000.out (fun _ hk => ⟨hk.1.2, ⟨hk.2, ⟨hk.1.1.1, hk.1.1.2⟩⟩⟩)), (by (with_reducible repeat (first | apply Kd.R_alloc | apply Kd.R_drewN | apply Kd.R_drew)); exact Kd.R_mono HO_262000.out (fun _ hk => ⟨hk.1.2, ⟨hk.2, ⟨hk.1.1.1, hk.1.1.2⟩⟩⟩)), (by (with_reducible repeat (first | refine blk_drewN ?_ _ | refine blk_drew ?_ | refine blk_alloc ?_ _)); exact BK238.out), (by (with_reducible repeat (first | refine blk_drewN ?_ _ | refine blk_drew ?_ | refine blk_alloc ?_ _)); exact BK239.out), (by (with_reducible repeat (first | refine blk_drewN ?_ _ | refine blk_drew ?_ | refine blk_alloc ?_ _)); exact BK250.out), (by (with_reducible repeat (first | refine blk_drewN ?_ _ | refine blk_drew ?_ | refine blk_alloc ?_ _)); exact BK254.out), (by (with_reducible repeat (first | refine blk_drewN ?_ _ | refine blk_drew ?_ | refine blk_alloc ?_ _)); exact BK261.out), (by (with_reducible repeat (first | refine blk_drewN ?_ _ | refine blk_drew ?_ | refine blk_alloc ?_ _)); exact BK282.out), GW282.out, GE282.out, NB238_282.out, NB282_238.out, NB239_282.out, NB282_239.out, NB250_282.out, NB282_250.out, NB254_282.out, NB282_254.out, NB261_282.out, NB282_261.out, (by repeat (first | (with_reducible first | exact HB.out | apply below_alloc | apply pw_below_drewN | apply below_drew1 | refine below_set ?_ GE238.out | refine below_set ?_ GE239.out | refine below_set ?_ GE250.out | refine below_set ?_ GE254.out | refine below_set ?_ GE261.out | refine below_set ?_ GE282.out) | exact HB.out))⟩)
      ·skip
       refine box_step ?hg (N := 14) ?hd (cs := #[.slice none 0 0]) (t := 30) ?hr ?_; (case hd => rfl); (case hg => rfl); (case hr => first | (go_simp; done) | (go_simp; rfl))
       intro gb282 hg w135 hbox hb
       have BK282 := Aside0.mk hbox
       have GW282 := ge_ HB hg
       have GE282 := ge_ HB hg
       have NB238_282 := nl_ BK238 hg
       have NB282_238 := ng_ BK238 hg
       have NB239_282 := nl_ BK239 hg
       have NB282_239 := ng_ BK239 hg
       have NB250_282 := nl_ BK250 hg
       have NB282_250 := ng_ BK250 hg
       have NB254_282 := nl_ BK254 hg
       have NB282_254 := ng_ BK254 hg
       have NB261_282 := nl_ BK261 hg
       have NB282_261 := ng_ BK261 hg
       replace HO_251000 := rb_ HO_251000 hb
       replace HO_255000 := rb_ HO_255000 hb
       replace HO_262000 := rb_ HO_262000 hb
       replace HB := Aside0.mk (bt_ HB hb)
       replace BK238 := Aside0.mk (bb_ BK238 hb)
       replace BK239 := Aside0.mk (bb_ BK239 hb)
       replace BK250 := Aside0.mk (bb_ BK250 hb)
       replace BK254 := Aside0.mk (bb_ BK254 hb)
       replace BK261 := Aside0.mk (bb_ BK261 hb)
       clear hb hbox hg
       refine hK.out _ _ ⟨(blk_cell BK238.out 0).trans rfl, (blk_cell BK239.out 0).trans rfl, (blk_cell BK239.out 1).trans rfl⟩ (fun hHeld => ?_)
       clear hK K
       refine nz_ 14 ?_
       refine one_ (i := 1) (N := some 81) ba10_7 rfl rfl (one_of HT_.out (by kernel_rfl)) (by decide) (fun K hK => ?_)
       refine gz_ Try.func9 #[.agg #[.slice A0_0 l0_0.length c0_0]] ?_
       with_reducible refine (laws_toTable.calls kj74 _ _ l0_0 t273 _ ?side1 ?side2 A122.out).mono ?_
       (case side1 => exact cb_ HR0_0 HB)
       (case side2 => exact HC0_0.out)
       rintro e w136 ⟨v274, rfl, ho0, hb⟩
       refine ⟨_, rfl, ?_⟩
       have HO275 := Aside0.mk (Kd.R_lower (Kd.R_new' (Kd.R_new' (Kd.R_new' ho0 (Kd.R_lt (hd_ HO_251000))) (Kd.R_lt (hd_ HO_255000))) (Kd.R_lt (hd_ HO_262000))) (bz_ HB))
       replace HO_251000 := Aside0.mk (Kd.R_elder' (hd_ HO_251000) (Kd.R_base ho0) hb)
       replace HO_255000 := Aside0.mk (Kd.R_elder' (hd_ HO_255000) (Kd.R_base ho0) hb)
       replace HO_262000 := Aside0.mk (Kd.R_elder' (hd_ HO_262000) (Kd.R_base ho0) hb)
       replace BK238 := Aside0.mk (bb_ BK238 hb)
       replace BK239 := Aside0.mk (bb_ BK239 hb)
       replace BK250 := Aside0.mk (bb_ BK250 hb)
       replace BK254 := Aside0.mk (bb_ BK254 hb)
       replace BK261 := Aside0.mk (bb_ BK261 hb)
       replace BK282 := Aside0.mk (bb_ BK282 hb)
       replace HB := Aside0.mk (bt_ HB hb)
       (try clear hb)
       (try clear hb2)
       (try clear hk)
       (try clear hi)
       (try clear ho0)
       refine hK.out _ _ ⟨(blk_cell BK238.out 0).trans rfl, (blk_cell BK239.out 0).trans rfl, (blk_cell BK239.out 1).trans rfl⟩ (fun hHeld => ?_)
       clear hK K
       refine nz_ 81 ?_
       refine one_ (i := 3) (N := some 83) ba10_9 rfl rfl (one_of HT_.out (by kernel_rfl)) (by decide) (fun K hK => ?_)
       refine gz_ Try.func10 #[.agg #[.int .i64 a1_0, .int .i64 a1_1]] ?_
       with_reducible refine (laws_toPrefix.calls a1_0 a1_1 t276 t277 _ A123.out).mono ?_
       rintro e w137 ⟨rfl, hb⟩
       refine ⟨_, rfl, ?_⟩
       replace HO_251000 := rb_ HO_251000 hb
       replace HO_255000 := rb_ HO_255000 hb
       replace HO_262000 := rb_ HO_262000 hb
       replace HO275 := rb_ HO275 hb
       replace BK238 := Aside0.mk (bb_ BK238 hb)
       replace BK239 := Aside0.mk (bb_ BK239 hb)
       replace BK250 := Aside0.mk (bb_ BK250 hb)
       replace BK254 := Aside0.mk (bb_ BK254 hb)
       replace BK261 := Aside0.mk (bb_ BK261 hb)
       replace BK282 := Aside0.mk (bb_ BK282 hb)
       replace HB := Aside0.mk (bt_ HB hb)
       (try clear hb)
       (try clear hb2)
       (try clear hk)
       (try clear hi)
       obtain ⟨Ao138, co138, eo138⟩ := Kd.R_slice HO275.out
       (first | subst eo138 | (injection eo138 with f1_ f2_ f3_; have f4_ := f1_.symm; have f5_ := f3_.symm; clear f1_ f2_ f3_; subst f4_; subst f5_))
       refine hK.out _ _ ⟨(blk_cell BK238.out 0).trans rfl, (blk_cell BK239.out 0).trans rfl, (blk_cell BK239.out 1).trans rfl⟩ (fun hHeld => ?_)
       clear hK K
       refine nz_ 83 ?_
       refine one_ (i := 4) (N := some 84) ba10_13 rfl rfl (one_of HT_.out (by kernel_rfl)) (by decide) (fun K hK => ?_)
       refine gz_ Try.func11 #[.agg #[.slice Ao138 t273.length co138], .agg #[.int .i64 t276, .int .i64 t277]] ?_
       with_reducible refine (impl_DropRoute.calls kj74 _ _ t273 t276 t277 t278 t281 _ ?side1 ?side2 A124.out).mono ?_
       (case side1 => exact rc_ HO275)
       (case side2 => exact (Kd.R_reads' HO275.out).2.1)
       rintro e w139 ⟨v279, rfl, ho0, hb⟩
       refine ⟨_, rfl, ?_⟩
       have HO280 := Aside0.mk (Kd.R_lower (Kd.R_new' (Kd.R_new' (Kd.R_new' (Kd.R_new' ho0 (Kd.R_lt (hd_ HO_251000))) (Kd.R_lt (hd_ HO_255000))) (Kd.R_lt (hd_ HO_262000))) (Kd.R_lt (hd_ HO275))) (bz_ HB))
       replace HO_251000 := Aside0.mk (Kd.R_elder' (hd_ HO_251000) (Kd.R_base ho0) hb)
       replace HO_255000 := Aside0.mk (Kd.R_elder' (hd_ HO_255000) (Kd.R_base ho0) hb)
       replace HO_262000 := Aside0.mk (Kd.R_elder' (hd_ HO_262000) (Kd.R_base ho0) hb)
       replace HO275 := Aside0.mk (Kd.R_elder' (hd_ HO275) (Kd.R_base ho0) hb)
       replace BK238 := Aside0.mk (bb_ BK238 hb)
       replace BK239 := Aside0.mk (bb_ BK239 hb)
       replace BK250 := Aside0.mk (bb_ BK250 hb)
       replace BK254 := Aside0.mk (bb_ BK254 hb)
       replace BK261 := Aside0.mk (bb_ BK261 hb)
       replace BK282 := Aside0.mk (bb_ BK282 hb)
       replace HB := Aside0.mk (bt_ HB hb)
       (try clear hb)
       (try clear hb2)
       (try clear hk)
       (try clear hi)
       (try clear ho0)
       refine hK.out _ _ ⟨(blk_cell BK238.out 0).trans rfl, (blk_cell BK239.out 0).trans rfl, (blk_cell BK239.out 1).trans rfl⟩ (fun hHeld => ?_)
       clear hK K
       refine nz_ 84 ?_
       refine pz_ 5 79 ba10_14 HT_ ?_
       refine pz_ 6 85 ba10_15 HT_ ?_
       refine pz_ 7 86 ba10_3 HT_ ?_
       exact norm_ (by simp only [putAll, Act.put, List.setIfInBounds_toArray, List.set_cons_zero, List.set_cons_succ]) (hCont (.slice Ao138 t273.length co138, v279, gb282) _ ⟨hHeld, (by (with_reducible repeat (first | apply Kd.R_alloc | apply Kd.R_drewN | apply Kd.R_drew)); exact Kd.R_mono HO275.out (fun _ hk => ⟨hk.2, ⟨hk.1.1.1.2, ⟨hk.1.1.2, hk.1.2⟩⟩⟩)), (by (with_reducible repeat (first | apply Kd.R_alloc | apply Kd.R_drewN | apply Kd.R_drew)); exact Kd.R_mono HO280.out (fun _ hk => ⟨hk.2, ⟨hk.1.1.1.2, ⟨hk.1.1.2, hk.1.2⟩⟩⟩)), (by (with_reducible repeat (first | apply Kd.R_alloc | apply Kd.R_drewN | apply Kd.R_drew)); exact Kd.R_mono HO_251000.out (fun _ hk => ⟨hk.1.2, ⟨hk.2, ⟨hk.1.1.1, hk.1.1.2⟩⟩⟩)), (by (with_reducible repeat (first | apply Kd.R_alloc | apply Kd.R_drewN | apply Kd.R_drew)); exact Kd.R_mono HO_255000.out (fun _ hk => ⟨hk.1.2, ⟨hk.2, ⟨hk.1.1.1, hk.1.1.2⟩⟩⟩)), (by (with_reducible repeat (first | apply Kd.R_alloc | apply Kd.R_drewN | apply Kd.R_drew)); exact Kd.R_mono HO_262000.out (fun _ hk => ⟨hk.1.2, ⟨hk.2, ⟨hk.1.1.1, hk.1.1.2⟩⟩⟩)), (by (with_reducible repeat (first | refine blk_drewN ?_ _ | refine blk_drew ?_ | refine blk_alloc ?_ _)); exact BK238.out), (by (with_reducible repeat (first | refine blk_drewN ?_ _ | refine blk_drew ?_ | refine blk_alloc ?_ _)); exact BK239.out), (by (with_reducible repeat (first | refine blk_drewN ?_ _ | refine blk_drew ?_ | refine blk_alloc ?_ _)); exact BK250.out), (by (with_reducible repeat (first | refine blk_drewN ?_ _ | refine blk_drew ?_ | refine blk_alloc ?_ _)); exact BK254.out), (by (with_reducible repeat (first | refine blk_drewN ?_ _ | refine blk_drew ?_ | refine blk_alloc ?_ _)); exact BK261.out), (by (with_reducible repeat (first | refine blk_drewN ?_ _ | refine blk_drew ?_ | refine blk_alloc ?_ _)); exact BK282.out), GW282.out, GE282.out, NB238_282.out, NB282_238.out, NB239_282.out, NB282_239.out, NB250_282.out, NB282_250.out, NB254_282.out, NB282_254.out, NB261_282.out, NB282_261.out, (by repeat (first | (with_reducible first | exact HB.out | apply below_alloc | apply pw_below_drewN | apply below_drew1 | refine below_set ?_ GE238.out | refine below_set ?_ GE239.out | refine below_set ?_ GE250.out | refine below_set ?_ GE254.out | refine below_set ?_ GE261.out | refine below_set ?_ GE282.out) | exact HB.out))⟩)
     rintro ⟨v274, v279, gb282⟩ w140 ⟨hS_, h0_, h1_, h2_, h3_, h4_, h5_, h6_, h7_, h8_, h9_, h10_, h11_, h12_, h13_, h14_, h15_, h16_, h17_, h18_, h19_, h20_, h21_, h22_, h23_⟩
     have HO275 : Aside0 (Kd.R k43 43 w140 w.heap.size (fun k_ => some k_ ≠ (v279 : Value).ownBlock ∧ some k_ ≠ (.slice Ao29 t246.length co29 : Value).ownBlock ∧ some k_ ≠ (.slice Ao35 t268.length co35 : Value).ownBlock ∧ some k_ ≠ (.slice Ao46 t257.length co46 : Value).ownBlock) v274 t273) := ⟨h0_⟩
     have HO280 : Aside0 (Kd.R k43 43 w140 w.heap.size (fun k_ => some k_ ≠ (v274 : Value).ownBlock ∧ some k_ ≠ (.slice Ao29 t246.length co29 : Value).ownBlock ∧ some k_ ≠ (.slice Ao35 t268.length co35 : Value).ownBlock ∧ some k_ ≠ (.slice Ao46 t257.length co46 : Value).ownBlock) v279 t278) := ⟨h1_⟩
     have BK282 : Aside0 (w140.heap[gb282]? = some (.cells #[.slice none 0 0] 30 (0, 0))) := ⟨h10_⟩
     have GW282 : Aside0 (w.heap.size ≤ gb282) := ⟨h11_⟩
     have GE282 : Aside0 (w.heap.size ≤ gb282) := ⟨h12_⟩
     have NB238_282 : Aside0 (gb238 ≠ gb282) := ⟨h13_⟩
     have NB282_238 : Aside0 (gb282 ≠ gb238) := ⟨h14_⟩
     have NB239_282 : Aside0 (gb239 ≠ gb282) := ⟨h15_⟩
     have NB282_239 : Aside0 (gb282 ≠ gb239) := ⟨h16_⟩
     have NB250_282 : Aside0 (gb250 ≠ gb282) := ⟨h17_⟩
     have NB282_250 : Aside0 (gb282 ≠ gb250) := ⟨h18_⟩
     have NB254_282 : Aside0 (gb254 ≠ gb282) := ⟨h19_⟩
     have NB282_254 : Aside0 (gb282 ≠ gb254) := ⟨h20_⟩
     have NB261_282 : Aside0 (gb261 ≠ gb282) := ⟨h21_⟩
     have NB282_261 : Aside0 (gb282 ≠ gb261) := ⟨h22_⟩
     replace HO_251000 : Aside0 (Kd.R k43 43 w140 w.heap.size (fun k_ => some k_ ≠ (v274 : Value).ownBlock ∧ some k_ ≠ (v279 : Value).ownBlock ∧ some k_ ≠ (.slice Ao35 t268.length co35 : Value).ownBlock ∧ some k_ ≠ (.slice Ao46 t257.length co46 : Value).ownBlock) (.slice Ao29 t246.length co29) t246) := ⟨h2_⟩
     replace HO_255000 : Aside0 (Kd.R k43 43 w140 w.heap.size (fun k_ => some k_ ≠ (v274 : Value).ownBlock ∧ some k_ ≠ (v279 : Value).ownBlock ∧ some k_ ≠ (.slice Ao29 t246.length co29 : Value).ownBlock ∧ some k_ ≠ (.slice Ao46 t257.length co46 : Value).ownBlock) (.slice Ao35 t268.length co35) t268) := ⟨h3_⟩
     replace HO_262000 : Aside0 (Kd.R k43 43 w140 w.heap.size (fun k_ => some k_ ≠ (v274 : Value).ownBlock ∧ some k_ ≠ (v279 : Value).ownBlock ∧ some k_ ≠ (.slice Ao29 t246.length co29 : Value).ownBlock ∧ some k_ ≠ (.slice Ao35 t268.length co35 : Value).ownBlock) (.slice Ao46 t257.length co46) t271) := ⟨h4_⟩
     replace BK238 : Aside0 (w140.heap[gb238]? = some (.cells #[.slice A0_0 l0_0.length c0_0] 24 (0, 0))) := ⟨h5_⟩
     replace BK239 : Aside0 (w140.heap[gb239]? = some (.cells #[.int .i64 a1_0, .int .i64 a1_1] 26 (0, 0))) := ⟨h6_⟩
     replace BK250 : Aside0 (w140.heap[gb250]? = some (.cells #[.slice Ao29 t246.length co29] 30 (0, 0))) := ⟨h7_⟩
     replace BK254 : Aside0 (w140.heap[gb254]? = some (.cells #[.slice Ao35 t268.length co35] 30 (0, 0))) := ⟨h8_⟩
     replace BK261 : Aside0 (w140.heap[gb261]? = some (.cells #[.slice Ao46 t257.length co46] 30 (0, 0))) := ⟨h9_⟩
     replace HB : Aside0 (Below w.heap.size w w140) := ⟨h23_⟩
     clear h0_ h1_ h2_ h3_ h4_ h5_ h6_ h7_ h8_ h9_ h10_ h11_ h12_ h13_ h14_ h15_ h16_ h17_ h18_ h19_ h20_ h21_ h22_ h23_
     have hHeld : w140.cell? ⟨gb238, 0, none⟩ = some (.slice A0_0 l0_0.length c0_0) ∧ w140.cell? ⟨gb239, 0, none⟩ = some (.int .i64 a1_0) ∧ w140.cell? ⟨gb239, 1, none⟩ = some (.int .i64 a1_1) := hS_
     obtain ⟨Ao141, co141, eo141⟩ := Kd.R_slice HO280.out
     (first | subst eo141 | (injection eo141 with f1_ f2_ f3_; have f4_ := f1_.symm; have f5_ := f3_.symm; clear f1_ f2_ f3_; subst f4_; subst f5_))
     refine norm_ (a' := ?_) ?_ ?_
     rotate_left; · simp only [putAll, Act.put, List.setIfInBounds_toArray, List.set_cons_zero, List.set_cons_succ]; rfl
     refine one_ (i := 9) (N := none) ba10_16 rfl rfl (one_of HT_.out (by kernel_rfl)) (by decide) (fun K hK => ?_)
     have hs142 : w140.cell? ⟨gb282, 0, none⟩ = some (.slice none 0 0) := (blk_cell BK282.out 0).trans rfl
     have hfs142 := blk_frozen BK282.out 0
     have hns142_0 := NB238_282.out
     have hns142_1 := NB239_282.out
     have hns142_2 := NB250_282.out
     have hns142_3 := NB254_282.out
     have hns142_4 := NB261_282.out
     have hms142_0 := NB282_238.out
     have hms142_1 := NB282_239.out
     have hms142_2 := NB282_250.out
     have hms142_3 := NB282_254.out
     have hms142_4 := NB282_261.out
     refine skip_ (w1 := ?_) (by rfl) rfl ?_ ?_
     rotate_left; · go_simp; rfl
     refine hK.out _ _ ⟨((cell_far (p := ⟨gb282, _, none⟩) NB238_282.out _).trans (hHeld.1)), ((cell_far (p := ⟨gb282, _, none⟩) NB239_282.out _).trans (hHeld.2.1)), ((cell_far (p := ⟨gb282, _, none⟩) NB239_282.out _).trans (hHeld.2.2))⟩ (fun hHeld => ?_)
     clear hK K
     refine pz_ 10 15 ba10_17 HT_ ?_
     refine done_ (done_of HT_.out (by kernel_rfl)) ?_
     go_upto_region 25 with (fail)
     go_cut [95] (fun v95 wc => ∃ (kq : Nat) (x95_124 : Bool), v95 = .bool x95_124 ∧ Aside0 (laws_FnExactDropRoute.j2 kq t270 x95_124 t271 = some r) ∧ Aside0 (kq ≤ kj74) ∧ Aside0 (Kd.R k43 43 wc w.heap.size (fun k_ => some k_ ≠ ((.slice Ao35 t268.length co35) : Value).ownBlock ∧ some k_ ≠ ((.slice Ao46 t257.length co46) : Value).ownBlock ∧ some k_ ≠ ((.slice Ao141 t278.length co141) : Value).ownBlock) (.slice Ao29 t246.length co29) t246) ∧ Aside0 (Kd.R k43 43 wc w.heap.size (fun k_ => some k_ ≠ ((.slice Ao29 t246.length co29) : Value).ownBlock ∧ some k_ ≠ ((.slice Ao46 t257.length co46) : Value).ownBlock ∧ some k_ ≠ ((.slice Ao141 t278.length co141) : Value).ownBlock) (.slice Ao35 t268.length co35) t268) ∧ Aside0 (Kd.R k43 43 wc w.heap.size (fun k_ => some k_ ≠ ((.slice Ao29 t246.length co29) : Value).ownBlock ∧ some k_ ≠ ((.slice Ao35 t268.length co35) : Value).ownBlock ∧ some k_ ≠ ((.slice Ao141 t278.length co141) : Value).ownBlock) (.slice Ao46 t257.length co46) t271) ∧ Aside0 (Kd.R k43 43 wc w.heap.size (fun k_ => some k_ ≠ ((.slice Ao29 t246.length co29) : Value).ownBlock ∧ some k_ ≠ ((.slice Ao35 t268.length co35) : Value).ownBlock ∧ some k_ ≠ ((.slice Ao46 t257.length co46) : Value).ownBlock) (.slice Ao141 t278.length co141) t278) ∧ Aside0 (wc.heap[gb238]? = some (.cells #[(.slice A0_0 l0_0.length c0_0)] 24 (0, 0))) ∧ Aside0 (wc.heap[gb239]? = some (.cells #[.int .i64 a1_0, .int .i64 a1_1] 26 (0, 0))) ∧ Aside0 (wc.heap[gb250]? = some (.cells #[(.slice Ao29 t246.length co29)] 30 (0, 0))) ∧ Aside0 (wc.heap[gb254]? = some (.cells #[(.slice Ao35 t268.length co35)] 30 (0, 0))) ∧ Aside0 (wc.heap[gb261]? = some (.cells #[(.slice Ao46 t257.length co46)] 30 (0, 0))) ∧ Aside0 (wc.heap[gb282]? = some (.cells #[(.slice Ao141 t278.length co141)] 30 (0, 0))) ∧ Aside0 (Below w.heap.size w wc))
     case first =>
      have H := HC125.out
      clear HC125
      replace H := Option.bind_eq_some_iff.mp H
      obtain ⟨t283, A1430, H⟩ := H
      have A143 := Aside0.mk A1430
      clear A1430
      by_cases c144 : t283 = true
      ·subst c144
       rw [if_pos rfl] at H
       have H' := Aside0.mk H
       clear H
       have hnb145 := NB282_238.out
       have hnc145 := NB238_282.out
       have hnb146 := NB282_239.out
       have hnc146 := NB239_282.out
       have hnb147 := NB282_250.out
       have hnc147 := NB250_282.out
       have hnb148 := NB282_254.out
       have hnc148 := NB254_282.out
       have hnb149 := NB282_261.out
       have hnc149 := NB261_282.out
       have hcz150_0 := cz_ BK282 0 (.slice none 0 0)
       have hfz150_0 := blk_frozen BK282.out 0
       have hnb151 := NB250_238.out
       have hnc151 := NB238_250.out
       have hnb152 := NB250_239.out
       have hnc152 := NB239_250.out
       have hnb153 := NB250_254.out
       have hnc153 := NB254_250.out
       have hnb154 := NB250_261.out
       have hnc154 := NB261_250.out
       have hcz155_0 := cz_ BK250 0 (.slice Ao29 t246.length co29)
       have hfz155_0 := blk_frozen BK250.out 0
       go_wp2_with (first | ((with_reducible refine gate_callee (f := 12) rfl ?_); refine gl_ (some 89) Try.func12 #[.agg #[.slice Ao141 t278.length co141], .agg #[.slice Ao29 t246.length co29]] ?_; (with_reducible refine (laws_eqTable.calls kj74 _ _ t278 _ _ t246 true _ ?side1 ?side2 ?side3 ?side4 A143.out).mono ?_); (case side1 => refine (Kd.R_reads' (e := 43) (base := w.heap.size) (ok := fun k_ => (some k_ ≠ (v274 : Value).ownBlock ∧ (some k_ ≠ (.slice Ao29 t246.length co29 : Value).ownBlock ∧ (some k_ ≠ (.slice Ao35 t268.length co35 : Value).ownBlock ∧ some k_ ≠ (.slice Ao46 t257.length co46 : Value).ownBlock)))) (n := t278.length) (c := co141) ?_).2.2; exact (hs_ HO280 BK282)); (case side2 => exact (Kd.R_reads' HO280.out).2.1); (case side3 => refine (Kd.R_reads' (e := 43) (base := w.heap.size) (ok := fun k_ => (some k_ ≠ (v274 : Value).ownBlock ∧ (some k_ ≠ (.slice Ao141 t278.length co141 : Value).ownBlock ∧ (some k_ ≠ (.slice Ao35 t268.length co35 : Value).ownBlock ∧ some k_ ≠ (.slice Ao46 t257.length co46 : Value).ownBlock)))) (n := t246.length) (c := co29) ?_).2.2; exact (hs_ HO_251000 BK282)); (case side4 => exact (Kd.R_reads' HO_251000.out).2.1); rintro e w156 ⟨rfl, hb⟩; refine ⟨_, rfl, ?_⟩; replace HO_251000 := rs_ HO_251000 BK282 hb; replace HO_255000 := rs_ HO_255000 BK282 hb; replace HO_262000 := rs_ HO_262000 BK282 hb; replace HO275 := rs_ HO275 BK282 hb; replace HO280 := rs_ HO280 BK282 hb; replace BK238 := bf_ BK238 NB238_282 hb; replace BK239 := bf_ BK239 NB239_282 hb; replace BK250 := bf_ BK250 NB250_282 hb; replace BK254 := bf_ BK254 NB254_282 hb; replace BK261 := bf_ BK261 NB261_282 hb; replace BK282 := Aside0.mk (blk_below (g := gb282) (o := .cells #[.slice Ao141 t278.length co141] 30 (0, 0)) (by (with_reducible repeat (first | refine blk_drewN ?_ _ | refine blk_drew ?_ | refine blk_alloc ?_ _)); refine blk_put (cs := #[.slice none 0 0]) ?_ 0 _ rfl; (with_reducible repeat (first | refine blk_drewN ?_ _ | refine blk_drew ?_ | refine blk_alloc ?_ _)); exact BK282.out) hb); replace HB := Aside0.mk (bt_ HB hb); (try clear hb); (try clear hb2); (try clear hk); (try clear hi)))
       go_meet
       case rel => exact ⟨_, ((t281 != t249)), (by first | rfl | (simp; done) | (simp [*]; done)), H', ⟨by have := HJ15.out; have := HJ74.out; first | omega | exact Nat.le_refl _⟩, ⟨by (try simp only [hl255000_74]); (with_reducible repeat (first | apply Kd.R_alloc | apply Kd.R_drewN | apply Kd.R_drew)); exact Kd.R_mono HO_251000.out (fun _ hk => ⟨hk.2.2.1, ⟨hk.2.2.2, hk.2.1⟩⟩)⟩, ⟨by (try simp only [hl255000_74]); (with_reducible repeat (first | apply Kd.R_alloc | apply Kd.R_drewN | apply Kd.R_drew)); exact Kd.R_mono HO_255000.out (fun _ hk => ⟨hk.2.2.1, ⟨hk.2.2.2, hk.2.1⟩⟩)⟩, ⟨by (try simp only [hl255000_74]); (with_reducible repeat (first | apply Kd.R_alloc | apply Kd.R_drewN | apply Kd.R_drew)); exact Kd.R_mono HO_262000.out (fun _ hk => ⟨hk.2.2.1, ⟨hk.2.2.2, hk.2.1⟩⟩)⟩, ⟨by (try simp only [hl255000_74]); (with_reducible repeat (first | apply Kd.R_alloc | apply Kd.R_drewN | apply Kd.R_drew)); exact Kd.R_mono HO280.out (fun _ hk => ⟨hk.2.1, ⟨hk.2.2.1, hk.2.2.2⟩⟩)⟩, ⟨by (try simp only [hl255000_74]); (with_reducible repeat (first | refine blk_drewN ?_ _ | refine blk_drew ?_ | refine blk_alloc ?_ _)); exact BK238.out⟩, ⟨by (try simp only [hl255000_74]); (with_reducible repeat (first | refine blk_drewN ?_ _ | refine blk_drew ?_ | refine blk_alloc ?_ _)); exact BK239.out⟩, ⟨by (try simp only [hl255000_74]); (with_reducible repeat (first | refine blk_drewN ?_ _ | refine blk_drew ?_ | refine blk_alloc ?_ _)); exact BK250.out⟩, ⟨by (try simp only [hl255000_74]); (with_reducible repeat (first | refine blk_drewN ?_ _ | refine blk_drew ?_ | refine blk_alloc ?_ _)); exact BK254.out⟩, ⟨by (try simp only [hl255000_74]); (with_reducible repeat (first | refine blk_drewN ?_ _ | refine blk_drew ?_ | refine blk_alloc ?_ _)); exact BK261.out⟩, ⟨by (try simp only [hl255000_74]); (with_reducible repeat (first | refine blk_drewN ?_ _ | refine blk_drew ?_ | refine blk_alloc ?_ _)); exact BK282.out⟩, ⟨by repeat (first | (with_reducible first | exact HB.out | apply below_alloc | apply pw_below_drewN | apply below_drew1 | refine below_set ?_ GE238.out | refine below_set ?_ GE239.out | refine below_set ?_ GE250.out | refine below_set ?_ GE254.out | refine below_set ?_ GE261.out | refine below_set ?_ GE282.out) | exact HB.out)⟩⟩
      replace c144 := Bool.eq_false_iff.mpr c144
      subst c144
      rw [if_neg (show ¬ (false = true) by decide)] at H
      have H' := Aside0.mk H
      clear H
      have hnb157 := NB282_238.out
      have hnc157 := NB238_282.out
      have hnb158 := NB282_239.out
      have hnc158 := NB239_282.out
      have hnb159 := NB282_250.out
      have hnc159 := NB250_282.out
      have hnb160 := NB282_254.out
      have hnc160 := NB254_282.out
      have hnb161 := NB282_261.out
      have hnc161 := NB261_282.out
      have hcz162_0 := cz_ BK282 0 (.slice none 0 0)
      have hfz162_0 := blk_frozen BK282.out 0
      have hnb163 := NB250_238.out
      have hnc163 := NB238_250.out
      have hnb164 := NB250_239.out
      have hnc164 := NB239_250.out
      have hnb165 := NB250_254.out
      have hnc165 := NB254_250.out
      have hnb166 := NB250_261.out
      have hnc166 := NB261_250.out
      have hcz167_0 := cz_ BK250 0 (.slice Ao29 t246.length co29)
      have hfz167_0 := blk_frozen BK250.out 0
      go_wp2_with (first | ((with_reducible refine gate_callee (f := 12) rfl ?_); refine gl_ (some 89) Try.func12 #[.agg #[.slice Ao141 t278.length co141], .agg #[.slice Ao29 t246.length co29]] ?_; (with_reducible refine (laws_eqTable.calls kj74 _ _ t278 _ _ t246 false _ ?side1 ?side2 ?side3 ?side4 A143.out).mono ?_); (case side1 => refine (Kd.R_reads' (e := 43) (base := w.heap.size) (ok := fun k_ => (some k_ ≠ (v274 : Value).ownBlock ∧ (some k_ ≠ (.slice Ao29 t246.length co29 : Value).ownBlock ∧ (some k_ ≠ (.slice Ao35 t268.length co35 : Value).ownBlock ∧ some k_ ≠ (.slice Ao46 t257.length co46 : Value).ownBlock)))) (n := t278.length) (c := co141) ?_).2.2; exact (hs_ HO280 BK282)); (case side2 => exact (Kd.R_reads' HO280.out).2.1); (case side3 => refine (Kd.R_reads' (e := 43) (base := w.heap.size) (ok := fun k_ => (some k_ ≠ (v274 : Value).ownBlock ∧ (some k_ ≠ (.slice Ao141 t278.length co141 : Value).ownBlock ∧ (some k_ ≠ (.slice Ao35 t268.length co35 : Value).ownBlock ∧ some k_ ≠ (.slice Ao46 t257.length co46 : Value).ownBlock)))) (n := t246.length) (c := co29) ?_).2.2; exact (hs_ HO_251000 BK282)); (case side4 => exact (Kd.R_reads' HO_251000.out).2.1); rintro e w168 ⟨rfl, hb⟩; refine ⟨_, rfl, ?_⟩; replace HO_251000 := rs_ HO_251000 BK282 hb; replace HO_255000 := rs_ HO_255000 BK282 hb; replace HO_262000 := rs_ HO_262000 BK282 hb; replace HO275 := rs_ HO275 BK282 hb; replace HO280 := rs_ HO280 BK282 hb; replace BK238 := bf_ BK238 NB238_282 hb; replace BK239 := bf_ BK239 NB239_282 hb; replace BK250 := bf_ BK250 NB250_282 hb; replace BK254 := bf_ BK254 NB254_282 hb; replace BK261 := bf_ BK261 NB261_282 hb; replace BK282 := Aside0.mk (blk_below (g := gb282) (o := .cells #[.slice Ao141 t278.length co141] 30 (0, 0)) (by (with_reducible repeat (first | refine blk_drewN ?_ _ | refine blk_drew ?_ | refine blk_alloc ?_ _)); refine blk_put (cs := #[.slice none 0 0]) ?_ 0 _ rfl; (with_reducible repeat (first | refine blk_drewN ?_ _ | refine blk_drew ?_ | refine blk_alloc ?_ _)); exact BK282.out) hb); replace HB := Aside0.mk (bt_ HB hb); (try clear hb); (try clear hb2); (try clear hk); (try clear hi)))
      go_meet
      case rel => exact ⟨_, (true), (by first | rfl | (simp; done) | (simp [*]; done)), H', ⟨by have := HJ15.out; have := HJ74.out; first | omega | exact Nat.le_refl _⟩, ⟨by (try simp only [hl255000_74]); (with_reducible repeat (first | apply Kd.R_alloc | apply Kd.R_drewN | apply Kd.R_drew)); exact Kd.R_mono HO_251000.out (fun _ hk => ⟨hk.2.2.1, ⟨hk.2.2.2, hk.2.1⟩⟩)⟩, ⟨by (try simp only [hl255000_74]); (with_reducible repeat (first | apply Kd.R_alloc | apply Kd.R_drewN | apply Kd.R_drew)); exact Kd.R_mono HO_255000.out (fun _ hk => ⟨hk.2.2.1, ⟨hk.2.2.2, hk.2.1⟩⟩)⟩, ⟨by (try simp only [hl255000_74]); (with_reducible repeat (first | apply Kd.R_alloc | apply Kd.R_drewN | apply Kd.R_drew)); exact Kd.R_mono HO_262000.out (fun _ hk => ⟨hk.2.2.1, ⟨hk.2.2.2, hk.2.1⟩⟩)⟩, ⟨by (try simp only [hl255000_74]); (with_reducible repeat (first | apply Kd.R_alloc | apply Kd.R_drewN | apply Kd.R_drew)); exact Kd.R_mono HO280.out (fun _ hk => ⟨hk.2.1, ⟨hk.2.2.1, hk.2.2.2⟩⟩)⟩, ⟨by (try simp only [hl255000_74]); (with_reducible repeat (first | refine blk_drewN ?_ _ | refine blk_drew ?_ | refine blk_alloc ?_ _)); exact BK238.out⟩, ⟨by (try simp only [hl255000_74]); (with_reducible repeat (first | refine blk_drewN ?_ _ | refine blk_drew ?_ | refine blk_alloc ?_ _)); exact BK239.out⟩, ⟨by (try simp only [hl255000_74]); (with_reducible repeat (first | refine blk_drewN ?_ _ | refine blk_drew ?_ | refine blk_alloc ?_ _)); exact BK250.out⟩, ⟨by (try simp only [hl255000_74]); (with_reducible repeat (first | refine blk_drewN ?_ _ | refine blk_drew ?_ | refine blk_alloc ?_ _)); exact BK254.out⟩, ⟨by (try simp only [hl255000_74]); (with_reducible repeat (first | refine blk_drewN ?_ _ | refine blk_drew ?_ | refine blk_alloc ?_ _)); exact BK261.out⟩, ⟨by (try simp only [hl255000_74]); (with_reducible repeat (first | refine blk_drewN ?_ _ | refine blk_drew ?_ | refine blk_alloc ?_ _)); exact BK282.out⟩, ⟨by repeat (first | (with_reducible first | exact HB.out | apply below_alloc | apply pw_below_drewN | apply below_drew1 | refine below_set ?_ GE238.out | refine below_set ?_ GE239.out | refine below_set ?_ GE250.out | refine below_set ?_ GE254.out | refine below_set ?_ GE261.out | refine below_set ?_ GE282.out) | exact HB.out)⟩⟩
     case rest =>
      clear HC125
      try clear c1
      try clear p2
      try clear c9
      try clear c10
      try clear c11
      try clear c12
      try clear c14
      try clear c15
      try clear c16
      try clear c144
      try clear c145
      try clear c146
      try clear c147
      try clear c148
      try clear c149
      try clear c151
      try clear c152
      try clear c153
      try clear c154
      try clear c157
      try clear c158
      try clear c159
      try clear c160
      try clear c161
      try clear c163
      try clear c164
      try clear c165
      try clear c166
      try clear hcz150_0
      try clear hcz155_0
      try clear hcz162_0
      try clear hcz167_0
      try clear hfz150_0
      try clear hfz155_0
      try clear hfz162_0
      try clear hfz167_0
      obtain ⟨kq, x95_124, rfl, HA, HJ124, HO_251000, HO_255000, HO_262000, HO_283000, BK238, BK239, BK250, BK254, BK261, BK282, HB⟩ := hcut
      have hl262000_124 := (Kd.R_reads' HO_262000.out).1
      rw [hl262000_124] at HO_262000
      (try simp only [hl262000_124])
      (try simp only [hl262000_124] at BK238)
      (try simp only [hl262000_124] at BK239)
      (try simp only [hl262000_124] at BK250)
      (try simp only [hl262000_124] at BK254)
      (try simp only [hl262000_124] at BK261)
      (try simp only [hl262000_124] at BK282)
      (try simp only [hl262000_124] at HO_251000)
      (try simp only [hl262000_124] at HO_255000)
      (try simp only [hl262000_124] at HO_283000)
      cases kq with
      | zero => exact absurd HA.out (by simp [laws_FnExactDropRoute.j2])
      | succ kj124 =>
       have H := HA.out
       clear HA
       simp only [laws_FnExactDropRoute.j2] at H
       by_cases c169 : x95_124 = true
       ·subst c169
        rw [if_pos rfl] at H
        obtain rfl := Option.some.inj H
        go_wp2
        go_ret
        exact ⟨by first | rfl | (simp [errW_none, errW_some] <;> rfl) | (simp [*, errW_none, errW_some] <;> rfl), by repeat (first | (with_reducible first | exact HB.out | apply below_alloc | apply pw_below_drewN | apply below_drew1 | refine below_set ?_ GE238.out | refine below_set ?_ GE239.out | refine below_set ?_ GE250.out | refine below_set ?_ GE254.out | refine below_set ?_ GE261.out | refine below_set ?_ GE282.out) | exact HB.out)⟩
       replace c169 := Bool.eq_false_iff.mpr c169
       subst c169
       rw [if_neg (show ¬ (false = true) by decide)] at H
       replace H := Option.bind_eq_some_iff.mp H
       obtain ⟨t284, A1700, H⟩ := H
       have A170 := Aside0.mk A1700
       clear A1700
       by_cases c171 : t284 < 0
       ·rw [if_pos c171] at H
        have c171b0 : decide (t284 < 0) = true := decide_eq_true c171
        clear c171
        obtain rfl := Option.some.inj H
        have hnb172 := NB261_238.out
        have hnc172 := NB238_261.out
        have hnb173 := NB261_239.out
        have hnc173 := NB239_261.out
        have hnb174 := NB261_250.out
        have hnc174 := NB250_261.out
        have hnb175 := NB261_254.out
        have hnc175 := NB254_261.out
        have hnb176 := NB261_282.out
        have hnc176 := NB282_261.out
        have hcz177_0 := cz_ BK261 0 (.slice Ao46 t271.length co46)
        have hfz177_0 := blk_frozen BK261.out 0
        go_wp2_with (first | ((with_reducible refine gate_callee (f := 14) rfl ?_); refine gl_ (some 98) Try.func14 #[.agg #[.slice Ao46 t271.length co46], .int .i64 1] ?_; (with_reducible refine (laws_heldTable.calls kj124 _ _ t271 1 t284 _ ?side1 ?side2 A170.out).mono ?_); (case side1 => exact rc_ HO_262000); (case side2 => exact (Kd.R_reads' HO_262000.out).2.1); rintro e w178 ⟨rfl, hb⟩; refine ⟨_, rfl, ?_⟩; replace HO_251000 := rb_ HO_251000 hb; replace HO_255000 := rb_ HO_255000 hb; replace HO_262000 := rb_ HO_262000 hb; replace HO_283000 := rb_ HO_283000 hb; replace BK238 := Aside0.mk (bb_ BK238 hb); replace BK239 := Aside0.mk (bb_ BK239 hb); replace BK250 := Aside0.mk (bb_ BK250 hb); replace BK254 := Aside0.mk (bb_ BK254 hb); replace BK261 := Aside0.mk (bb_ BK261 hb); replace BK282 := Aside0.mk (bb_ BK282 hb); replace HB := Aside0.mk (bt_ HB hb); (try clear hb); (try clear hb2); (try clear hk); (try clear hi)))
        go_ret
        exact ⟨by first | rfl | (simp [errW_none, errW_some] <;> rfl) | (simp [*, errW_none, errW_some] <;> rfl), by repeat (first | (with_reducible first | exact HB.out | apply below_alloc | apply pw_below_drewN | apply below_drew1 | refine below_set ?_ GE238.out | refine below_set ?_ GE239.out | refine below_set ?_ GE250.out | refine below_set ?_ GE254.out | refine below_set ?_ GE261.out | refine below_set ?_ GE282.out) | exact HB.out)⟩
       rw [if_neg c171] at H
       have c171b0 : decide (t284 < 0) = false := decide_eq_false c171
       clear c171
       by_cases c179 : t284 = t270
       rotate_left
       ·rw [if_neg c179] at H
        have c179b0 : (t284 == t270) = false := beq_eq_false_iff_ne.mpr c179
        have c179b1 : (t284 != t270) = true := bne_iff_ne.mpr c179
        obtain rfl := Option.some.inj H
        have hnb187 := NB261_238.out
        have hnc187 := NB238_261.out
        have hnb188 := NB261_239.out
        have hnc188 := NB239_261.out
        have hnb189 := NB261_250.out
        have hnc189 := NB250_261.out
        have hnb190 := NB261_254.out
        have hnc190 := NB254_261.out
        have hnb191 := NB261_282.out
        have hnc191 := NB282_261.out
        have hcz192_0 := cz_ BK261 0 (.slice Ao46 t271.length co46)
        have hfz192_0 := blk_frozen BK261.out 0
        go_wp2_with (first | ((with_reducible refine gate_callee (f := 14) rfl ?_); refine gl_ (some 98) Try.func14 #[.agg #[.slice Ao46 t271.length co46], .int .i64 1] ?_; (with_reducible refine (laws_heldTable.calls kj124 _ _ t271 1 t284 _ ?side1 ?side2 A170.out).mono ?_); (case side1 => exact rc_ HO_262000); (case side2 => exact (Kd.R_reads' HO_262000.out).2.1); rintro e w193 ⟨rfl, hb⟩; refine ⟨_, rfl, ?_⟩; replace HO_251000 := rb_ HO_251000 hb; replace HO_255000 := rb_ HO_255000 hb; replace HO_262000 := rb_ HO_262000 hb; replace HO_283000 := rb_ HO_283000 hb; replace BK238 := Aside0.mk (bb_ BK238 hb); replace BK239 := Aside0.mk (bb_ BK239 hb); replace BK250 := Aside0.mk (bb_ BK250 hb); replace BK254 := Aside0.mk (bb_ BK254 hb); replace BK261 := Aside0.mk (bb_ BK261 hb); replace BK282 := Aside0.mk (bb_ BK282 hb); replace HB := Aside0.mk (bt_ HB hb); (try clear hb); (try clear hb2); (try clear hk); (try clear hi)))
        go_ret
        exact ⟨by first | rfl | (simp [errW_none, errW_some] <;> rfl) | (simp [*, errW_none, errW_some] <;> rfl), by repeat (first | (with_reducible first | exact HB.out | apply below_alloc | apply pw_below_drewN | apply below_drew1 | refine below_set ?_ GE238.out | refine below_set ?_ GE239.out | refine below_set ?_ GE250.out | refine below_set ?_ GE254.out | refine below_set ?_ GE261.out | refine below_set ?_ GE282.out) | exact HB.out)⟩
       rw [if_pos c179] at H
       have c179b0 : (t284 == t270) = true := beq_iff_eq.mpr c179
       have c179b1 : (t284 != t270) = false := bne_eq_false_iff_eq.mpr c179
       clear c179
       obtain rfl := Option.some.inj H
       have hnb180 := NB261_238.out
       have hnc180 := NB238_261.out
       have hnb181 := NB261_239.out
       have hnc181 := NB239_261.out
       have hnb182 := NB261_250.out
       have hnc182 := NB250_261.out
       have hnb183 := NB261_254.out
       have hnc183 := NB254_261.out
       have hnb184 := NB261_282.out
       have hnc184 := NB282_261.out
       have hcz185_0 := cz_ BK261 0 (.slice Ao46 t271.length co46)
       have hfz185_0 := blk_frozen BK261.out 0
       go_wp2_with (first | ((with_reducible refine gate_callee (f := 14) rfl ?_); refine gl_ (some 98) Try.func14 #[.agg #[.slice Ao46 t271.length co46], .int .i64 1] ?_; (with_reducible refine (laws_heldTable.calls kj124 _ _ t271 1 t284 _ ?side1 ?side2 A170.out).mono ?_); (case side1 => exact rc_ HO_262000); (case side2 => exact (Kd.R_reads' HO_262000.out).2.1); rintro e w186 ⟨rfl, hb⟩; refine ⟨_, rfl, ?_⟩; replace HO_251000 := rb_ HO_251000 hb; replace HO_255000 := rb_ HO_255000 hb; replace HO_262000 := rb_ HO_262000 hb; replace HO_283000 := rb_ HO_283000 hb; replace BK238 := Aside0.mk (bb_ BK238 hb); replace BK239 := Aside0.mk (bb_ BK239 hb); replace BK250 := Aside0.mk (bb_ BK250 hb); replace BK254 := Aside0.mk (bb_ BK254 hb); replace BK261 := Aside0.mk (bb_ BK261 hb); replace BK282 := Aside0.mk (bb_ BK282 hb); replace HB := Aside0.mk (bt_ HB hb); (try clear hb); (try clear hb2); (try clear hk); (try clear hi)))
       go_ret
       exact ⟨by first | rfl | (simp [errW_none, errW_some] <;> rfl) | (simp [*, errW_none, errW_some] <;> rfl), by repeat (first | (with_reducible first | exact HB.out | apply below_alloc | apply pw_below_drewN | apply below_drew1 | refine below_set ?_ GE238.out | refine below_set ?_ GE239.out | refine below_set ?_ GE250.out | refine below_set ?_ GE254.out | refine below_set ?_ GE261.out | refine below_set ?_ GE282.out) | exact HB.out)⟩

end Go.Proofs.Ytflfbaofgfandaa.QFnExactDropRoute
