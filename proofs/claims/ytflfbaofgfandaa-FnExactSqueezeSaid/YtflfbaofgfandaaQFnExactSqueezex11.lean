/- Contracts of functions that the law reaches: what each call returns and what it leaves in memory. Made by this session over the print of the kit. -/
import Derived.Test.YtflfbaofgfandaaQFnExactSqueezex0
import Derived.Test.YtflfbaofgfandaaQFnExactSqueezex5
import Derived.Test.YtflfbaofgfandaaQFnExactSqueezex6
import Derived.Test.YtflfbaofgfandaaQFnExactSqueezex7
import Derived.Test.YtflfbaofgfandaaQFnExactSqueezex10
namespace Go.Proofs.Ytflfbaofgfandaa.QFnExactSqueeze
open Go.RowKit Go.Proofs.YtflfbaofgfandaaQ.PrintWords Go.Proofs.YtflfbaofgfandaaQ.PrintLast Go.Proofs.YtflfbaofgfandaaQ.PrintMore
attribute [local go_sem] max2_int min2_int max_two min_two max_three min_three max_four min_four   -- for this text's walks alone
set_option linter.unusedVariables false
set_option linter.unusedSimpArgs false
abbrev tb11 : Bool := true
abbrev fb11 : Bool := false
def ba11_0 : Array Bool := #[fb11,fb11,fb11,fb11,fb11,fb11,fb11,fb11,fb11,fb11,fb11,fb11,fb11,fb11,fb11,fb11,fb11,fb11,fb11,fb11,fb11,fb11,fb11,fb11]
def ba11_1 : Array Bool := #[tb11,fb11,fb11,fb11,fb11,fb11,fb11,fb11,fb11,fb11,fb11,fb11,fb11,fb11,fb11,fb11,fb11,fb11,fb11,fb11,fb11,fb11,fb11,fb11]
def ba11_2 : Array Bool := #[tb11,tb11,fb11,fb11,fb11,fb11,fb11,fb11,fb11,fb11,fb11,fb11,fb11,fb11,fb11,fb11,fb11,fb11,fb11,fb11,fb11,fb11,fb11,fb11]
def ba11_3 : Array Bool := #[tb11,tb11,tb11,fb11,fb11,fb11,fb11,fb11,fb11,fb11,fb11,fb11,fb11,fb11,fb11,fb11,fb11,fb11,fb11,fb11,fb11,fb11,fb11,fb11]
def ba11_4 : Array Bool := #[tb11,tb11,tb11,tb11,fb11,fb11,fb11,fb11,fb11,fb11,fb11,fb11,fb11,fb11,fb11,fb11,fb11,fb11,fb11,fb11,fb11,fb11,fb11,fb11]
def ba11_5 : Array Bool := #[tb11,tb11,tb11,tb11,tb11,fb11,fb11,fb11,fb11,fb11,fb11,fb11,fb11,fb11,fb11,fb11,fb11,fb11,fb11,fb11,fb11,fb11,fb11,fb11]
def ba11_6 : Array Bool := #[tb11,tb11,tb11,tb11,tb11,tb11,fb11,fb11,fb11,fb11,fb11,fb11,fb11,fb11,fb11,fb11,fb11,fb11,fb11,fb11,fb11,fb11,fb11,fb11]
def ba11_7 : Array Bool := #[tb11,tb11,tb11,tb11,tb11,tb11,tb11,fb11,fb11,fb11,fb11,fb11,fb11,fb11,fb11,fb11,fb11,fb11,fb11,fb11,fb11,fb11,fb11,fb11]
def ba11_8 : Array Bool := #[tb11,tb11,tb11,tb11,tb11,tb11,tb11,tb11,fb11,fb11,fb11,fb11,fb11,fb11,fb11,fb11,fb11,fb11,fb11,fb11,fb11,fb11,fb11,fb11]
def ba11_9 : Array Bool := #[tb11,tb11,tb11,tb11,tb11,tb11,tb11,tb11,tb11,fb11,fb11,fb11,fb11,fb11,fb11,fb11,fb11,fb11,fb11,fb11,fb11,fb11,fb11,fb11]
def ba11_10 : Array Bool := #[tb11,tb11,tb11,tb11,tb11,tb11,tb11,tb11,tb11,tb11,fb11,fb11,fb11,fb11,fb11,fb11,fb11,fb11,fb11,fb11,fb11,fb11,fb11,fb11]
def ba11_11 : Array Bool := #[tb11,tb11,tb11,tb11,tb11,tb11,tb11,tb11,tb11,tb11,tb11,fb11,fb11,fb11,fb11,fb11,fb11,fb11,fb11,fb11,fb11,fb11,fb11,fb11]
def ba11_12 : Array Bool := #[tb11,tb11,tb11,tb11,tb11,tb11,tb11,tb11,tb11,tb11,tb11,tb11,fb11,fb11,fb11,fb11,fb11,fb11,fb11,fb11,fb11,fb11,fb11,fb11]
def ba11_13 : Array Bool := #[tb11,tb11,tb11,tb11,tb11,tb11,tb11,tb11,tb11,tb11,tb11,tb11,tb11,fb11,fb11,fb11,fb11,fb11,fb11,fb11,fb11,fb11,fb11,fb11]
def ba11_14 : Array Bool := #[tb11,tb11,tb11,tb11,tb11,tb11,tb11,tb11,tb11,tb11,tb11,tb11,tb11,tb11,fb11,fb11,fb11,fb11,fb11,fb11,fb11,fb11,fb11,fb11]
def ba11_15 : Array Bool := #[tb11,tb11,tb11,tb11,tb11,tb11,tb11,tb11,tb11,tb11,tb11,tb11,tb11,tb11,tb11,fb11,fb11,fb11,fb11,fb11,fb11,fb11,fb11,fb11]
def ba11_16 : Array Bool := #[tb11,tb11,tb11,tb11,tb11,tb11,tb11,tb11,tb11,tb11,tb11,tb11,tb11,tb11,tb11,tb11,fb11,fb11,fb11,fb11,fb11,fb11,fb11,fb11]
def ba11_17 : Array Bool := #[tb11,tb11,tb11,tb11,tb11,tb11,tb11,tb11,tb11,tb11,tb11,tb11,tb11,tb11,tb11,tb11,tb11,fb11,fb11,fb11,fb11,fb11,fb11,fb11]
def ba11_18 : Array Bool := #[tb11,tb11,tb11,tb11,tb11,tb11,tb11,tb11,tb11,tb11,tb11,tb11,tb11,tb11,tb11,tb11,tb11,tb11,fb11,fb11,fb11,fb11,fb11,fb11]
def ba11_19 : Array Bool := #[tb11,tb11,tb11,tb11,tb11,tb11,tb11,tb11,tb11,tb11,tb11,tb11,tb11,tb11,tb11,tb11,tb11,tb11,tb11,fb11,fb11,fb11,fb11,fb11]
def ba11_20 : Array Bool := #[tb11,tb11,tb11,tb11,tb11,tb11,tb11,tb11,tb11,tb11,tb11,tb11,tb11,tb11,tb11,tb11,tb11,tb11,tb11,tb11,fb11,fb11,fb11,fb11]
def ba11_21 : Array Bool := #[tb11,tb11,tb11,tb11,tb11,tb11,tb11,tb11,tb11,tb11,tb11,tb11,tb11,tb11,tb11,tb11,tb11,tb11,tb11,tb11,fb11,tb11,fb11,fb11]
def ba11_22 : Array Bool := #[tb11,tb11,tb11,tb11,tb11,tb11,tb11,tb11,tb11,tb11,tb11,tb11,tb11,tb11,tb11,tb11,tb11,tb11,tb11,tb11,tb11,tb11,fb11,fb11]
def ba11_23 : Array Bool := #[tb11,tb11,tb11,tb11,tb11,tb11,tb11,tb11,tb11,tb11,tb11,tb11,tb11,tb11,tb11,tb11,tb11,tb11,tb11,tb11,tb11,tb11,tb11,fb11]
def ba11_24 : Array Bool := #[tb11,tb11,tb11,tb11,tb11,tb11,tb11,tb11,tb11,tb11,tb11,tb11,tb11,tb11,tb11,tb11,tb11,tb11,tb11,tb11,tb11,tb11,tb11,tb11]
def ba11_25 : Array Bool := #[tb11,tb11,tb11,tb11,fb11,tb11,fb11,fb11,fb11,fb11,fb11,fb11,fb11,fb11,fb11,fb11,fb11,fb11,fb11,fb11,fb11,fb11,fb11,fb11]
def ba11_26 : Array Bool := #[tb11,tb11,tb11,tb11,fb11,tb11,fb11,fb11,fb11,fb11,tb11,fb11,fb11,fb11,fb11,fb11,fb11,fb11,fb11,fb11,fb11,fb11,fb11,fb11]
def ba11_27 : Array Bool := #[tb11,tb11,tb11,tb11,fb11,tb11,fb11,fb11,fb11,fb11,tb11,fb11,tb11,fb11,fb11,fb11,fb11,fb11,fb11,fb11,fb11,fb11,fb11,fb11]
def ba11_28 : Array Bool := #[tb11,tb11,tb11,tb11,tb11,tb11,fb11,fb11,fb11,fb11,tb11,fb11,tb11,fb11,fb11,fb11,fb11,fb11,fb11,fb11,fb11,fb11,fb11,fb11]
def ba11_29 : Array Bool := #[tb11,tb11,tb11,tb11,tb11,tb11,tb11,fb11,fb11,fb11,tb11,fb11,tb11,fb11,fb11,fb11,fb11,fb11,fb11,fb11,fb11,fb11,fb11,fb11]
def ba11_30 : Array Bool := #[tb11,tb11,tb11,tb11,tb11,tb11,tb11,tb11,fb11,fb11,tb11,fb11,tb11,fb11,fb11,fb11,fb11,fb11,fb11,fb11,fb11,fb11,fb11,fb11]
def ba11_31 : Array Bool := #[tb11,tb11,tb11,tb11,tb11,tb11,tb11,tb11,tb11,fb11,tb11,fb11,tb11,fb11,fb11,fb11,fb11,fb11,fb11,fb11,fb11,fb11,fb11,fb11]
def ba11_32 : Array Bool := #[tb11,tb11,tb11,tb11,tb11,tb11,tb11,tb11,tb11,tb11,tb11,fb11,tb11,fb11,fb11,fb11,fb11,fb11,fb11,fb11,fb11,fb11,fb11,fb11]
def ba11_33 : Array Bool := #[tb11,tb11,tb11,tb11,tb11,tb11,tb11,tb11,tb11,tb11,tb11,tb11,tb11,tb11,tb11,tb11,tb11,tb11,tb11,tb11,tb11,fb11,fb11,fb11]
def ba11_34 : Array Bool := #[fb11,fb11,fb11,fb11,fb11,fb11,fb11,fb11,fb11]
def ba11_35 : Array Bool := #[fb11,tb11,fb11,fb11,fb11,fb11,fb11,fb11,fb11]
def ba11_36 : Array Bool := #[fb11,tb11,fb11,tb11,fb11,fb11,fb11,fb11,fb11]
def ba11_37 : Array Bool := #[tb11,tb11,fb11,tb11,fb11,fb11,fb11,fb11,fb11]
def ba11_38 : Array Bool := #[tb11,tb11,tb11,tb11,fb11,fb11,fb11,fb11,fb11]
def ba11_39 : Array Bool := #[tb11,tb11,tb11,tb11,tb11,fb11,fb11,fb11,fb11]
def ba11_40 : Array Bool := #[tb11,tb11,tb11,tb11,tb11,tb11,fb11,fb11,fb11]
def ba11_41 : Array Bool := #[tb11,tb11,tb11,tb11,tb11,tb11,tb11,fb11,fb11]
def ba11_42 : Array Bool := #[tb11,tb11,tb11,tb11,tb11,tb11,tb11,tb11,fb11]
def ba11_43 : Array Bool := #[tb11,tb11,tb11,tb11,tb11,tb11,tb11,tb11,tb11]

/-! ### spec_Squeeze: function 18 -/
mutual
def spec_Squeeze.l0 : Nat → List (S43) → Option ((List (S43)) × Bool)
 | 0, _ => none
 | k + 1, x222000 => spec_Squeeze.l1 k (-1) 0 x222000
def spec_Squeeze.l1 : Nat → Int → Int → List (S43) → Option ((List (S43)) × Bool)
 | 0, _, _, _ => none
 | k + 1, x5, x6, x222000 => if x6 < (x222000.length : Int) then (if x5 < 0 then ((spec_l02Idle.f k x222000 x6).bind fun t222 => (if t222 = true then (spec_Squeeze.l1 k x6 (wrap64 (x6 + 1)) x222000) else (spec_Squeeze.l1 k x5 (wrap64 (x6 + 1)) x222000))) else (if 0 ≤ x6 then (if 0 ≤ x5 then (if x5 < (x222000.length : Int) then (if ((rd_T43 x222000 x6).f0.f1) > ((rd_T43 x222000 x5).f0.f1) then ((spec_l02Idle.f k x222000 x6).bind fun t225 => (if t225 = true then (spec_Squeeze.l1 k x6 (wrap64 (x6 + 1)) x222000) else (spec_Squeeze.l1 k x5 (wrap64 (x6 + 1)) x222000))) else (spec_Squeeze.l1 k x5 (wrap64 (x6 + 1)) x222000)) else (none)) else (none)) else (none))) else (if x5 < 0 then (some (x222000, true)) else (if 0 ≤ x5 then (if x5 < (x222000.length : Int) then ((spec_l02Less.f k x222000 ((rd_T43 x222000 x5).f0.f0) ((rd_T43 x222000 x5).f0.f1)).bind fun t227 => (spec_Squeeze.l0 k t227)) else (none)) else (none)))
end
def spec_Squeeze.f (k : Nat) (l0_0 : List (S43)) : Option ((List (S43)) × Bool) := (spec_TableOk.f k l0_0).bind fun t214 => (if t214 = true then ((spec_l02Copy.f k l0_0).bind fun t218 => (spec_Squeeze.l0 k t218)) else ((spec_l02Copy.f k l0_0).bind fun t215 => (some (t215, false))))
theorem spec_Squeeze.mono_l : ∀ k, (∀ y0, LeO (spec_Squeeze.l0 k y0) (spec_Squeeze.l0 (k + 1) y0)) ∧ (∀ y0 y1 y2, LeO (spec_Squeeze.l1 k y0 y1 y2) (spec_Squeeze.l1 (k + 1) y0 y1 y2))
 | 0 => ⟨fun _ r h => by simp [spec_Squeeze.l0] at h, fun _ _ _ r h => by simp [spec_Squeeze.l1] at h⟩
 | k + 1 => by
  obtain ⟨ih0, ih1⟩ := spec_Squeeze.mono_l k
  refine ⟨?_, ?_⟩
  ·intro y0
   unfold spec_Squeeze.l0
   repeat' first
   | (with_reducible exact ih0 _)
   | (with_reducible exact ih1 _ _ _)
   | (with_reducible exact spec_TableOk.mono _ _)
   | (with_reducible exact spec_l02Copy.mono _ _)
   | (with_reducible exact spec_l02Idle.mono _ _ _)
   | (with_reducible exact spec_l02Less.mono _ _ _ _)
   | (with_reducible exact LeO.refl _)
   | (with_reducible exact LeO.none _)
   | (with_reducible refine LeO.ite ?_ ?_)
   | (with_reducible refine LeO.bind ?_ (fun _ => ?_))
   | exact ih0 _
   | exact ih1 _ _ _
   | exact spec_TableOk.mono _ _
   | exact spec_l02Copy.mono _ _
   | exact spec_l02Idle.mono _ _ _
   | exact spec_l02Less.mono _ _ _ _
   | exact LeO.none _
   | refine LeO.ite ?_ ?_
   | refine LeO.bind ?_ (fun _ => ?_)
  ·intro y0 y1 y2
   unfold spec_Squeeze.l1
   repeat' first
   | (with_reducible exact ih0 _)
   | (with_reducible exact ih1 _ _ _)
   | (with_reducible exact spec_TableOk.mono _ _)
   | (with_reducible exact spec_l02Copy.mono _ _)
   | (with_reducible exact spec_l02Idle.mono _ _ _)
   | (with_reducible exact spec_l02Less.mono _ _ _ _)
   | (with_reducible exact LeO.refl _)
   | (with_reducible exact LeO.none _)
   | (with_reducible refine LeO.ite ?_ ?_)
   | (with_reducible refine LeO.bind ?_ (fun _ => ?_))
   | exact ih0 _
   | exact ih1 _ _ _
   | exact spec_TableOk.mono _ _
   | exact spec_l02Copy.mono _ _
   | exact spec_l02Idle.mono _ _ _
   | exact spec_l02Less.mono _ _ _ _
   | exact LeO.none _
   | refine LeO.ite ?_ ?_
   | refine LeO.bind ?_ (fun _ => ?_)
theorem spec_Squeeze.mono : ∀ a0 k, LeO (spec_Squeeze.f k a0) (spec_Squeeze.f (k + 1) a0) := by
 intro a0 k
 obtain ⟨ih0, ih1⟩ := spec_Squeeze.mono_l k
 unfold spec_Squeeze.f
 repeat' first
   | (with_reducible exact ih0 _)
   | (with_reducible exact ih1 _ _ _)
   | (with_reducible exact spec_TableOk.mono _ _)
   | (with_reducible exact spec_l02Copy.mono _ _)
   | (with_reducible exact spec_l02Idle.mono _ _ _)
   | (with_reducible exact spec_l02Less.mono _ _ _ _)
   | (with_reducible exact LeO.refl _)
   | (with_reducible exact LeO.none _)
   | (with_reducible refine LeO.ite ?_ ?_)
   | (with_reducible refine LeO.bind ?_ (fun _ => ?_))
   | exact ih0 _
   | exact ih1 _ _ _
   | exact spec_TableOk.mono _ _
   | exact spec_l02Copy.mono _ _
   | exact spec_l02Idle.mono _ _ _
   | exact spec_l02Less.mono _ _ _ _
   | exact LeO.none _
   | refine LeO.ite ?_ ?_
   | refine LeO.bind ?_ (fun _ => ?_)
def spec_Squeeze.T8 : Bool × List (List Nat × List Nat) := (true, [([], []), ([0], [0]), ([1], [1]), ([2], [2]), ([3, 2], [2, 3]), ([2], [2]), ([4, 5, 2], [2, 4, 5]), ([6, 2], [2, 6]), ([7, 2], [2, 7]), ([8, 2], [2, 8]), ([2], [2]), ([10, 2], [2, 10]), ([2], [2]), ([11, 12, 2], [2, 11, 12]), ([13, 2], [2, 13]), ([14, 2], [2, 14]), ([15, 2], [2, 15]), ([9, 16, 2], [2, 9, 16]), ([2, 17], [2, 17]), ([18, 2], [18]), ([19], [19]), ([19], [19]), ([20, 21, 19, 19], [19, 20, 21]), ([19, 22], [19, 22])])
def spec_Squeeze.B8 : List Nat := [0, 1, 3, 7, 15, 7, 63, 127, 255, 511, 7, 1031, 7, 7175, 15367, 31751, 64519, 131071, 262143, 524287, 1048575, 1048575, 4194303, 8388607]
theorem spec_Squeeze.tab8 : rtab .any (opsOf Try.f18 8) = spec_Squeeze.T8 := by kernel_rfl
theorem spec_Squeeze.bits8 : waitsOk spec_Squeeze.T8.2 spec_Squeeze.B8 = true := by kernel_rfl
def spec_Squeeze.T12 : Bool × List (List Nat × List Nat) := (true, [([], []), ([], []), ([1], [1]), ([], []), ([2, 3], [2, 3]), ([4], [4]), ([5], [5]), ([0, 6], [0, 6]), ([7, 7, 0, 1, 2, 3, 4, 5, 6, 7], [7])])
def spec_Squeeze.B12 : List Nat := [0, 0, 2, 0, 14, 30, 62, 127, 255]
theorem spec_Squeeze.tab12 : rtab .any (opsOf Try.f18 12) = spec_Squeeze.T12 := by kernel_rfl
theorem spec_Squeeze.bits12 : waitsOk spec_Squeeze.T12.2 spec_Squeeze.B12 = true := by kernel_rfl
set_option maxHeartbeats 8000000 in
set_option maxRecDepth 100000 in
theorem spec_Squeeze.calls (k : Nat) (A0_0 : Option Addr) (c0_0 : Nat) (l0_0 : List (S43)) (r1 : List (S43)) (r2 : Bool) (w : World) (hr0_0 : Kd.C k43 w A0_0 l0_0.length l0_0) (hc0_0 : l0_0.length ≤ c0_0) (h : spec_Squeeze.f k l0_0 = some (r1, r2)) :
  Calls Try.prog 18 #[.agg #[.slice A0_0 l0_0.length c0_0]] w fun e w' => ∃ v0_ : Value, e = .returned (.tuple #[.agg #[v0_], .bool r2]) ∧ Kd.R k43 43 w' w.heap.size (fun _ => True) v0_ r1 ∧ Below w.heap.size w w' := by
 have hu30 := Try.underlying30
 have hu34 := Try.underlying34
 have HR0_0 := Aside0.mk hr0_0
 have HC0_0 := Aside0.mk hc0_0
 clear hr0_0 hc0_0
 have HB := Aside0.mk (Below.refl w.heap.size w)
 have H : ((spec_TableOk.f k l0_0).bind fun t214 => (if t214 = true then ((spec_l02Copy.f k l0_0).bind fun t218 => (spec_Squeeze.l0 k t218)) else ((spec_l02Copy.f k l0_0).bind fun t215 => (some (t215, false))))) = some (r1, r2) := h
 clear h
 replace H := Option.bind_eq_some_iff.mp H
 obtain ⟨t214, A20, H⟩ := H
 have A2 := Aside0.mk A20
 clear A20
 by_cases c3 : t214 = true
 rotate_left
 ·replace c3 := Bool.eq_false_iff.mpr c3
  subst c3
  rw [if_neg (show ¬ (false = true) by decide)] at H
  replace H := Option.bind_eq_some_iff.mp H
  obtain ⟨t215, A740, H⟩ := H
  have A74 := Aside0.mk A740
  clear A740
  simp only [Option.some.injEq, Prod.mk.injEq] at H
  obtain ⟨rfl, rfl⟩ := H
  go_enter Try.func18, Try.ntmps18
  go_wp2_with (first | ((with_reducible refine gate_dst (N := 1) rfl ?_); refine box_event ?hg (N := 1) ?hd (cs := #[.slice A0_0 l0_0.length c0_0]) (t := 30) ?hr ?_; (case hd => rfl); (case hg => rfl); (case hr => first | (go_simp; done) | (go_simp; rfl)); intro gb212 hg w75 hbox hb; have BK212 := Aside0.mk hbox; have GW212 := ge_ HB hg; have GE212 := ge_ HB hg; replace HB := Aside0.mk (bt_ HB hb); clear hb hbox hg) | ((with_reducible refine gate_dst (N := 2) rfl ?_); refine box_event ?hg (N := 2) ?hd (cs := #[.slice none 0 0]) (t := 30) ?hr ?_; (case hd => rfl); (case hg => rfl); (case hr => first | (go_simp; done) | (go_simp; rfl)); intro gb213 hg w76 hbox hb; have BK213 := Aside0.mk hbox; have GW213 := ge_ HB hg; have GE213 := ge_ HB hg; have NB212_213 := nl_ BK212 hg; have NB213_212 := ng_ BK212 hg; replace HB := Aside0.mk (bt_ HB hb); replace BK212 := Aside0.mk (bb_ BK212 hb); clear hb hbox hg; have hnb77 := NB212_213.out; have hnc77 := NB213_212.out; have hcz78_0 := cz_ BK212 0 (.slice A0_0 l0_0.length c0_0); have hfz78_0 := blk_frozen BK212.out 0) | ((with_reducible refine gate_callee (f := 27) rfl ?_); refine gl_ (some 8) Try.func27 #[.agg #[.slice A0_0 l0_0.length c0_0]] ?_; (with_reducible refine (spec_TableOk.calls k _ _ l0_0 false _ ?side1 ?side2 A2.out).mono ?_); (case side1 => exact cb_ HR0_0 HB); (case side2 => exact HC0_0.out); rintro e w79 ⟨rfl, hb⟩; refine ⟨_, rfl, ?_⟩; replace BK212 := Aside0.mk (bb_ BK212 hb); replace BK213 := Aside0.mk (bb_ BK213 hb); replace HB := Aside0.mk (bt_ HB hb); (try clear hb); (try clear hb2); (try clear hk); (try clear hi); have hcz80_0 := cz_ BK212 0 (.slice A0_0 l0_0.length c0_0); have hfz80_0 := blk_frozen BK212.out 0) | ((with_reducible refine gate_callee (f := 28) rfl ?_); refine gl_ (some 11) Try.func28 #[.agg #[.slice A0_0 l0_0.length c0_0]] ?_; (with_reducible refine (spec_l02Copy.calls k _ _ l0_0 t215 _ ?side1 ?side2 A74.out).mono ?_); (case side1 => exact cb_ HR0_0 HB); (case side2 => exact HC0_0.out); rintro e w81 ⟨v216, rfl, ho0, hb⟩; refine ⟨_, rfl, ?_⟩; have HO217 := Aside0.mk (Kd.R_lower ho0 (bz_ HB)); replace BK212 := Aside0.mk (bb_ BK212 hb); replace BK213 := Aside0.mk (bb_ BK213 hb); replace HB := Aside0.mk (bt_ HB hb); (try clear hb); (try clear hb2); (try clear hk); (try clear hi); (try clear ho0); obtain ⟨Ao82, co82, eo82⟩ := Kd.R_slice HO217.out; subst eo82; have hcz83_0 := cz_ BK213 0 (.slice none 0 0); have hfz83_0 := blk_frozen BK213.out 0))
  refine bodyPost_ret (results_ct rfl _ _ gb213 30 #[.slice Ao82 t215.length co82] (0, 0) _ rfl (by (with_reducible repeat (first | refine blk_drewN ?_ _ | refine blk_drew ?_ | refine blk_alloc ?_ _)); refine blk_put (cs := #[.slice none 0 0]) ?_ 0 _ rfl; (with_reducible repeat (first | refine blk_drewN ?_ _ | refine blk_drew ?_ | refine blk_alloc ?_ _)); exact BK213.out) Try.underlying30 rfl (by kernel_rfl)) rfl ?_
  exact ⟨_, by first | rfl | (simp [errW_none, errW_some] <;> rfl) | (simp [*, errW_none, errW_some] <;> rfl), by (with_reducible repeat (first | apply Kd.R_alloc | apply Kd.R_drewN | apply Kd.R_drew)); exact Kd.R_mono (Kd.R_far (p := ⟨gb213, 0, none⟩) (Kd.R_types HO217.out BK213.out (by decide)) (fun _ hk => hk.2) (.slice Ao82 t215.length co82)) (fun _ hk => trivial), by repeat (first | (with_reducible first | exact HB.out | apply below_alloc | apply pw_below_drewN | apply below_drew1 | refine below_set ?_ GE212.out | refine below_set ?_ GE213.out) | exact HB.out)⟩
 subst c3
 rw [if_pos rfl] at H
 replace H := Option.bind_eq_some_iff.mp H
 obtain ⟨t218, A40, H⟩ := H
 have A4 := Aside0.mk A40
 clear A40
 have H' := Aside0.mk H
 clear H
 go_enter Try.func18, Try.ntmps18
 go_wp2_with (first | ((with_reducible refine gate_dst (N := 1) rfl ?_); refine box_event ?hg (N := 1) ?hd (cs := #[.slice A0_0 l0_0.length c0_0]) (t := 30) ?hr ?_; (case hd => rfl); (case hg => rfl); (case hr => first | (go_simp; done) | (go_simp; rfl)); intro gb212 hg w5 hbox hb; have BK212 := Aside0.mk hbox; have GW212 := ge_ HB hg; have GE212 := ge_ HB hg; replace HB := Aside0.mk (bt_ HB hb); clear hb hbox hg) | ((with_reducible refine gate_dst (N := 2) rfl ?_); refine box_event ?hg (N := 2) ?hd (cs := #[.slice none 0 0]) (t := 30) ?hr ?_; (case hd => rfl); (case hg => rfl); (case hr => first | (go_simp; done) | (go_simp; rfl)); intro gb213 hg w6 hbox hb; have BK213 := Aside0.mk hbox; have GW213 := ge_ HB hg; have GE213 := ge_ HB hg; have NB212_213 := nl_ BK212 hg; have NB213_212 := ng_ BK212 hg; replace HB := Aside0.mk (bt_ HB hb); replace BK212 := Aside0.mk (bb_ BK212 hb); clear hb hbox hg; have hnb7 := NB212_213.out; have hnc7 := NB213_212.out; have hcz8_0 := cz_ BK212 0 (.slice A0_0 l0_0.length c0_0); have hfz8_0 := blk_frozen BK212.out 0) | ((with_reducible refine gate_callee (f := 27) rfl ?_); refine gl_ (some 8) Try.func27 #[.agg #[.slice A0_0 l0_0.length c0_0]] ?_; (with_reducible refine (spec_TableOk.calls k _ _ l0_0 true _ ?side1 ?side2 A2.out).mono ?_); (case side1 => exact cb_ HR0_0 HB); (case side2 => exact HC0_0.out); rintro e w9 ⟨rfl, hb⟩; refine ⟨_, rfl, ?_⟩; replace BK212 := Aside0.mk (bb_ BK212 hb); replace BK213 := Aside0.mk (bb_ BK213 hb); replace HB := Aside0.mk (bt_ HB hb); (try clear hb); (try clear hb2); (try clear hk); (try clear hi); have hcz10_0 := cz_ BK212 0 (.slice A0_0 l0_0.length c0_0); have hfz10_0 := blk_frozen BK212.out 0) | ((with_reducible refine gate_callee (f := 28) rfl ?_); refine gl_ (some 13) Try.func28 #[.agg #[.slice A0_0 l0_0.length c0_0]] ?_; (with_reducible refine (spec_l02Copy.calls k _ _ l0_0 t218 _ ?side1 ?side2 A4.out).mono ?_); (case side1 => exact cb_ HR0_0 HB); (case side2 => exact HC0_0.out); rintro e w11 ⟨v219, rfl, ho0, hb⟩; refine ⟨_, rfl, ?_⟩; have HO220 := Aside0.mk (Kd.R_lower ho0 (bz_ HB)); replace BK212 := Aside0.mk (bb_ BK212 hb); replace BK213 := Aside0.mk (bb_ BK213 hb); replace HB := Aside0.mk (bt_ HB hb); (try clear hb); (try clear hb2); (try clear hk); (try clear hi); (try clear ho0)) | ((with_reducible refine gate_dst (N := 4) rfl ?_); refine box_event ?hg (N := 4) ?hd (cs := #[.slice none 0 0]) (t := 30) ?hr ?_; (case hd => rfl); (case hg => rfl); (case hr => first | (go_simp; done) | (go_simp; rfl)); intro gb221 hg w12 hbox hb; have BK221 := Aside0.mk hbox; have GW221 := ge_ HB hg; have GE221 := ge_ HB hg; have NB212_221 := nl_ BK212 hg; have NB221_212 := ng_ BK212 hg; have NB213_221 := nl_ BK213 hg; have NB221_213 := ng_ BK213 hg; replace HO220 := rb_ HO220 hb; replace HB := Aside0.mk (bt_ HB hb); replace BK212 := Aside0.mk (bb_ BK212 hb); replace BK213 := Aside0.mk (bb_ BK213 hb); clear hb hbox hg; obtain ⟨Ao13, co13, eo13⟩ := Kd.R_slice HO220.out; subst eo13; have hnb14 := NB221_212.out; have hnc14 := NB212_221.out; have hnb15 := NB221_213.out; have hnc15 := NB213_221.out; have hcz16_0 := cz_ BK221 0 (.slice none 0 0); have hfz16_0 := blk_frozen BK221.out 0))
 (try simp only [Act.put, List.setIfInBounds_toArray, List.set_cons_zero, List.set_cons_succ])
 go_loopg [] k (fun kq w' => ∃ (x222000_1 : List (S43)) (u222000 : Value), Aside0 (spec_Squeeze.l0 kq x222000_1 = some (r1, r2)) ∧ Aside0 (kq ≤ k) ∧ Aside0 (Kd.R k43 43 w' w.heap.size (fun _ => True) u222000 x222000_1) ∧ Aside0 (w'.heap[gb212]? = some (.cells #[(.slice A0_0 l0_0.length c0_0)] 30 (0, 0))) ∧ Aside0 (w'.heap[gb213]? = some (.cells #[(.slice none 0 0)] 30 (0, 0))) ∧ Aside0 (w'.heap[gb221]? = some (.cells #[u222000] 30 (0, 0))) ∧ Aside0 (Below w.heap.size w w'))
 case atStart => exact ⟨(t218), (.slice Ao13 t218.length co13), H', ⟨Nat.le_refl _⟩, ⟨by (with_reducible repeat (first | apply Kd.R_alloc | apply Kd.R_drewN | apply Kd.R_drew)); exact Kd.R_mono (Kd.R_far (p := ⟨gb221, 0, none⟩) (Kd.R_types HO220.out BK221.out (by decide)) (fun _ hk => hk.2) (.slice Ao13 t218.length co13)) (fun _ hk => trivial)⟩, ⟨by (with_reducible repeat (first | refine blk_drewN ?_ _ | refine blk_drew ?_ | refine blk_alloc ?_ _)); refine blk_far ?_ NB212_221.out _; (with_reducible repeat (first | refine blk_drewN ?_ _ | refine blk_drew ?_ | refine blk_alloc ?_ _)); exact BK212.out⟩, ⟨by (with_reducible repeat (first | refine blk_drewN ?_ _ | refine blk_drew ?_ | refine blk_alloc ?_ _)); refine blk_far ?_ NB213_221.out _; (with_reducible repeat (first | refine blk_drewN ?_ _ | refine blk_drew ?_ | refine blk_alloc ?_ _)); exact BK213.out⟩, ⟨by (with_reducible repeat (first | refine blk_drewN ?_ _ | refine blk_drew ?_ | refine blk_alloc ?_ _)); refine blk_put (cs := #[.slice none 0 0]) ?_ 0 _ rfl; (with_reducible repeat (first | refine blk_drewN ?_ _ | refine blk_drew ?_ | refine blk_alloc ?_ _)); exact BK221.out⟩, ⟨by repeat (first | (with_reducible first | exact HB.out | apply below_alloc | apply pw_below_drewN | apply below_drew1 | refine below_set ?_ GE212.out | refine below_set ?_ GE213.out | refine below_set ?_ GE221.out) | exact HB.out)⟩⟩
 case round =>
  clear H'
  try clear c1
  try clear c2
  try clear p2
  try clear c3
  try clear c7
  try clear c14
  try clear c15
  try clear hcz10_0
  try clear hcz16_0
  try clear hcz8_0
  try clear hfz10_0
  try clear hfz16_0
  try clear hfz8_0
  obtain ⟨x222000_1, u222000, HA, HK1, HO_222000, BK212, BK213, BK221, HB⟩ := hrel
  cases gk with
  | zero => exact absurd HA.out (by simp [spec_Squeeze.l0])
  | succ k1 =>
   have H := HA.out
   clear HA
   simp only [spec_Squeeze.l0] at H
   have H' := Aside0.mk H
   clear H
   go_wp2
   go_loopg [5, 6] k1 (fun kq v5 v6 w' => ∃ (x5_2 : Int) (x6_2 : Int), v5 = .int .i64 x5_2 ∧ v6 = .int .i64 x6_2 ∧ Aside0 (spec_Squeeze.l1 kq x5_2 x6_2 x222000_1 = some (r1, r2)) ∧ Aside0 (kq ≤ k1) ∧ Aside0 (Kd.R k43 43 w' w.heap.size (fun _ => True) u222000 x222000_1) ∧ Aside0 (w'.heap[gb212]? = some (.cells #[(.slice A0_0 l0_0.length c0_0)] 30 (0, 0))) ∧ Aside0 (w'.heap[gb213]? = some (.cells #[(.slice none 0 0)] 30 (0, 0))) ∧ Aside0 (w'.heap[gb221]? = some (.cells #[u222000] 30 (0, 0))) ∧ Aside0 (Below w.heap.size w w'))
   case atStart => exact ⟨((-1)), (0), (by first | rfl | (simp; done) | (simp [*]; done)), (by first | rfl | (simp; done) | (simp [*]; done)), H', ⟨Nat.le_refl _⟩, ⟨by (with_reducible repeat (first | apply Kd.R_alloc | apply Kd.R_drewN | apply Kd.R_drew)); exact HO_222000.out⟩, ⟨by (with_reducible repeat (first | refine blk_drewN ?_ _ | refine blk_drew ?_ | refine blk_alloc ?_ _)); exact BK212.out⟩, ⟨by (with_reducible repeat (first | refine blk_drewN ?_ _ | refine blk_drew ?_ | refine blk_alloc ?_ _)); exact BK213.out⟩, ⟨by (with_reducible repeat (first | refine blk_drewN ?_ _ | refine blk_drew ?_ | refine blk_alloc ?_ _)); exact BK221.out⟩, ⟨by repeat (first | (with_reducible first | exact HB.out | apply below_alloc | apply pw_below_drewN | apply below_drew1 | refine below_set ?_ GE212.out | refine below_set ?_ GE213.out | refine below_set ?_ GE221.out) | exact HB.out)⟩⟩
   case round =>
    clear H'
    try clear c1
    try clear c2
    try clear p2
    try clear c3
    try clear c7
    try clear c14
    try clear c15
    try clear hcz10_0
    try clear hcz16_0
    try clear hcz8_0
    try clear hfz10_0
    try clear hfz16_0
    try clear hfz8_0
    try clear p2
    obtain ⟨x5_2, x6_2, rfl, rfl, HA, HK2, HO_222000, BK212, BK213, BK221, HB⟩ := hrel
    cases gk with
    | zero => exact absurd HA.out (by simp [spec_Squeeze.l1])
    | succ k2 =>
     have H := HA.out
     clear HA
     simp only [spec_Squeeze.l1] at H
     by_cases c17 : x6_2 < (x222000_1.length : Int)
     rotate_left
     ·rw [if_neg c17] at H
      have c17b0 : decide (x6_2 < (x222000_1.length : Int)) = false := decide_eq_false c17
      clear c17
      by_cases c56 : x5_2 < 0
      ·rw [if_pos c56] at H
       have c56b0 : decide (x5_2 < 0) = true := decide_eq_true c56
       clear c56
       simp only [Option.some.injEq, Prod.mk.injEq] at H
       obtain ⟨rfl, rfl⟩ := H
       have hnb57 := NB221_212.out
       have hnc57 := NB212_221.out
       have hnb58 := NB221_213.out
       have hnc58 := NB213_221.out
       have hcz59_0 := cz_ BK221 0 (u222000)
       have hfz59_0 := blk_frozen BK221.out 0
       obtain ⟨Ao60, co60, eo60⟩ := Kd.R_slice HO_222000.out
       subst eo60
       have hnb61 := NB213_212.out
       have hnc61 := NB212_213.out
       have hcz62_0 := cz_ BK213 0 (.slice none 0 0)
       have hfz62_0 := blk_frozen BK213.out 0
       go_wp2
       refine bodyPost_ret (results_ct rfl _ _ gb213 30 #[.slice Ao60 x222000_1.length co60] (0, 0) _ rfl (by (with_reducible repeat (first | refine blk_drewN ?_ _ | refine blk_drew ?_ | refine blk_alloc ?_ _)); refine blk_put (cs := #[.slice none 0 0]) ?_ 0 _ rfl; (with_reducible repeat (first | refine blk_drewN ?_ _ | refine blk_drew ?_ | refine blk_alloc ?_ _)); exact BK213.out) Try.underlying30 rfl (by kernel_rfl)) rfl ?_
       exact ⟨_, by first | rfl | (simp [errW_none, errW_some] <;> rfl) | (simp [*, errW_none, errW_some] <;> rfl), by (with_reducible repeat (first | apply Kd.R_alloc | apply Kd.R_drewN | apply Kd.R_drew)); exact Kd.R_mono (Kd.R_far (p := ⟨gb213, 0, none⟩) (Kd.R_types HO_222000.out BK213.out (by decide)) (fun _ hk => hk.2) (.slice Ao60 x222000_1.length co60)) (fun _ hk => trivial), by repeat (first | (with_reducible first | exact HB.out | apply below_alloc | apply pw_below_drewN | apply below_drew1 | refine below_set ?_ GE212.out | refine below_set ?_ GE213.out | refine below_set ?_ GE221.out) | exact HB.out)⟩
      rw [if_neg c56] at H
      have c56b0 : decide (x5_2 < 0) = false := decide_eq_false c56
      clear c56
      by_cases c63 : 0 ≤ x5_2
      rotate_left
      ·rw [if_neg c63] at H
       exact absurd H (by simp)
      rw [if_pos c63] at H
      have c63b0 : decide (0 ≤ x5_2) = true := decide_eq_true c63
      clear c63
      by_cases c64 : x5_2 < (x222000_1.length : Int)
      rotate_left
      ·rw [if_neg c64] at H
       exact absurd H (by simp)
      rw [if_pos c64] at H
      have c64b0 : decide (x5_2 < (x222000_1.length : Int)) = true := decide_eq_true c64
      clear c64
      replace H := Option.bind_eq_some_iff.mp H
      obtain ⟨t227, A650, H⟩ := H
      have A65 := Aside0.mk A650
      clear A650
      have H' := Aside0.mk H
      clear H
      have hnb66 := NB221_212.out
      have hnc66 := NB212_221.out
      have hnb67 := NB221_213.out
      have hnc67 := NB213_221.out
      have hcz68_0 := cz_ BK221 0 (u222000)
      have hfz68_0 := blk_frozen BK221.out 0
      obtain ⟨Ao69, co69, eo69⟩ := Kd.R_slice HO_222000.out
      subst eo69
      try go_wp2
      replace HO_222000 := Aside0.mk (Kd.R_drew HO_222000.out)
      replace BK212 := Aside0.mk (blk_drew BK212.out)
      replace BK213 := Aside0.mk (blk_drew BK213.out)
      replace BK221 := Aside0.mk (blk_drew BK221.out)
      replace HB := Aside0.mk (below_drew1 HB.out)
      have p226 : 0 ≤ (x5_2 : Int) := of_decide_eq_true (by first | (with_reducible assumption) | assumption)
      have q226 : x5_2 < (x222000_1.length : Int) := of_decide_eq_true (by first | (with_reducible assumption) | assumption)
      obtain ⟨ad226, e226, hx226_0, hx226_1, hx226_2⟩ := at_T43 (Kd.R_reads' HO_222000.out).2.2 x5_2 p226 q226
      cases e226
      replace p226 := eq_true p226
      replace q226 := eq_true q226
      refine start_ (n := 9) (S := fun w' => w'.cell? ⟨gb221, 0, none⟩ = some (.slice (some ad226) x222000_1.length co69) ∧ w'.cell? (ad226.add ((x5_2).toNat * 3)) = some (.int .i64 ((rd_T43 x222000_1 x5_2).f0.f0)) ∧ w'.cell? ⟨(ad226.add ((x5_2).toNat * 3)).block, (ad226.add ((x5_2).toNat * 3)).off + 1, none⟩ = some (.int .i64 ((rd_T43 x222000_1 x5_2).f0.f1)) ∧ w'.cell? ⟨(ad226.add ((x5_2).toNat * 3)).block, (ad226.add ((x5_2).toNat * 3)).off + 2, none⟩ = some (.int .i64 ((rd_T43 x222000_1 x5_2).f1))) (ds := [8]) ba11_34 (by kernel_rfl) rfl rfl ⟨(blk_cell BK221.out 0).trans rfl, hx226_0, hx226_1, hx226_2⟩ (fun hHeld => ?_); refine with_tabW spec_Squeeze.tab12 spec_Squeeze.bits12 (fun HT_ HW_ => ?_)
      generalize wr.drew = w70 at HO_222000 BK212 BK213 BK221 HB hx226_0 hx226_1 hx226_2 hHeld ⊢
      refine pz_ 1 50 ba11_35 HT_ ?_
      refine pz_ 3 52 ba11_36 HT_ ?_
      refine pt_ 0 49 ba11_37 HT_ HW_ hHeld ?_
      refine pt_ 2 51 ba11_38 HT_ HW_ hHeld ?_
      refine pz_ 4 53 ba11_39 HT_ ?_
      refine pz_ 5 54 ba11_40 HT_ ?_
      refine pt_ 6 55 ba11_41 HT_ HW_ hHeld ?_
      refine one_ (i := 7) (N := some 56) ba11_42 rfl rfl (one_of HT_.out (by kernel_rfl)) (by decide) (fun K hK => ?_)
      refine gz_ Try.func26 #[.agg #[.slice (some ad226) x222000_1.length co69], .agg #[.int .i64 ((rd_T43 x222000_1 x5_2).f0.f0), .int .i64 ((rd_T43 x222000_1 x5_2).f0.f1)]] ?_
      with_reducible refine (spec_l02Less.calls k2 _ _ x222000_1 ((rd_T43 x222000_1 x5_2).f0.f0) ((rd_T43 x222000_1 x5_2).f0.f1) t227 _ ?side1 ?side2 A65.out).mono ?_
      (case side1 => exact rc_ HO_222000)
      (case side2 => exact (Kd.R_reads' HO_222000.out).2.1)
      rintro e w71 ⟨v228, rfl, ho0, hb⟩
      have HS1_ := (hb.cell (World.block_lt_of_cell? _ _ (hHeld.2.1))).trans (hHeld.2.1)
      have HS2_ := (hb.cell (World.block_lt_of_cell? _ _ (hHeld.2.2.1))).trans (hHeld.2.2.1)
      have HS3_ := (hb.cell (World.block_lt_of_cell? _ _ (hHeld.2.2.2))).trans (hHeld.2.2.2)
      refine ⟨_, rfl, ?_⟩
      have HO229 := Aside0.mk (Kd.R_lower (Kd.R_new' ho0 (Kd.R_lt (hd_ HO_222000))) (bz_ HB))
      replace HO_222000 := Aside0.mk (Kd.R_elder' (hd_ HO_222000) (Kd.R_base ho0) hb)
      replace BK212 := Aside0.mk (bb_ BK212 hb)
      replace BK213 := Aside0.mk (bb_ BK213 hb)
      replace BK221 := Aside0.mk (bb_ BK221 hb)
      replace HB := Aside0.mk (bt_ HB hb)
      (try clear hb)
      (try clear hb2)
      (try clear hk)
      (try clear hi)
      (try clear ho0)
      obtain ⟨Ao72, co72, eo72⟩ := Kd.R_slice HO229.out
      (first | subst eo72 | (injection eo72 with f1_ f2_ f3_; have f4_ := f1_.symm; have f5_ := f3_.symm; clear f1_ f2_ f3_; subst f4_; subst f5_))
      refine hK.out _ _ ⟨(blk_cell BK221.out 0).trans rfl, HS1_, HS2_, HS3_⟩ (fun hHeld => ?_)
      clear hK K
      refine nz_ 56 ?_
      refine last_ (i := 8) (N := none) ba11_43 rfl rfl (one_of HT_.out (by kernel_rfl)) (by decide) (fun K hK => ?_)
      have hs73 : w71.cell? ⟨gb221, 0, none⟩ = some (.slice (some ad226) x222000_1.length co69) := (blk_cell BK221.out 0).trans rfl
      have hfs73 := blk_frozen BK221.out 0
      have hns73_0 := NB212_221.out
      have hns73_1 := NB213_221.out
      have hms73_0 := NB221_212.out
      have hms73_1 := NB221_213.out
      refine skip_ (w1 := ?_) (by rfl) rfl ?_ ?_
      rotate_left; · go_simp; rfl
      refine hK.out _ _ ?_
      clear hK K
      refine done_ (done_of HT_.out (by kernel_rfl)) ?_
      try go_wp2
      go_roundg k2
      case measure => have := HK1.out; have := HK2.out; omega
      case rel => exact ⟨(t227), (.slice Ao72 t227.length co72), H', ⟨by have := HK1.out; have := HK2.out; omega⟩, ⟨by (with_reducible repeat (first | apply Kd.R_alloc | apply Kd.R_drewN | apply Kd.R_drew)); exact Kd.R_mono (Kd.R_far (p := ⟨gb221, 0, none⟩) (Kd.R_types HO229.out BK221.out (by decide)) (fun _ hk => hk.2) (.slice Ao72 t227.length co72)) (fun _ hk => trivial)⟩, ⟨by (with_reducible repeat (first | refine blk_drewN ?_ _ | refine blk_drew ?_ | refine blk_alloc ?_ _)); refine blk_far ?_ NB212_221.out _; (with_reducible repeat (first | refine blk_drewN ?_ _ | refine blk_drew ?_ | refine blk_alloc ?_ _)); exact BK212.out⟩, ⟨by (with_reducible repeat (first | refine blk_drewN ?_ _ | refine blk_drew ?_ | refine blk_alloc ?_ _)); refine blk_far ?_ NB213_221.out _; (with_reducible repeat (first | refine blk_drewN ?_ _ | refine blk_drew ?_ | refine blk_alloc ?_ _)); exact BK213.out⟩, ⟨by (with_reducible repeat (first | refine blk_drewN ?_ _ | refine blk_drew ?_ | refine blk_alloc ?_ _)); refine blk_put (cs := #[.slice (some ad226) x222000_1.length co69]) ?_ 0 _ rfl; (with_reducible repeat (first | refine blk_drewN ?_ _ | refine blk_drew ?_ | refine blk_alloc ?_ _)); exact BK221.out⟩, ⟨by repeat (first | (with_reducible first | exact HB.out | apply below_alloc | apply pw_below_drewN | apply below_drew1 | refine below_set ?_ GE212.out | refine below_set ?_ GE213.out | refine below_set ?_ GE221.out) | exact HB.out)⟩⟩
     rw [if_pos c17] at H
     have c17b0 : decide (x6_2 < (x222000_1.length : Int)) = true := decide_eq_true c17
     clear c17
     by_cases c18 : x5_2 < 0
     ·rw [if_pos c18] at H
      have c18b0 : decide (x5_2 < 0) = true := decide_eq_true c18
      clear c18
      replace H := Option.bind_eq_some_iff.mp H
      obtain ⟨t222, A190, H⟩ := H
      have A19 := Aside0.mk A190
      clear A190
      by_cases c20 : t222 = true
      ·subst c20
       rw [if_pos rfl] at H
       have H' := Aside0.mk H
       clear H
       have hnb21 := NB221_212.out
       have hnc21 := NB212_221.out
       have hnb22 := NB221_213.out
       have hnc22 := NB213_221.out
       have hcz23_0 := cz_ BK221 0 (u222000)
       have hfz23_0 := blk_frozen BK221.out 0
       obtain ⟨Ao24, co24, eo24⟩ := Kd.R_slice HO_222000.out
       subst eo24
       try go_wp2
       replace HO_222000 := Aside0.mk (Kd.R_drew HO_222000.out)
       replace BK212 := Aside0.mk (blk_drew BK212.out)
       replace BK213 := Aside0.mk (blk_drew BK213.out)
       replace BK221 := Aside0.mk (blk_drew BK221.out)
       replace HB := Aside0.mk (below_drew1 HB.out)
       refine start_ (n := 24) (S := fun w' => w'.cell? ⟨gb221, 0, none⟩ = some (.slice Ao24 x222000_1.length co24)) (ds := []) ba11_0 (by kernel_rfl) rfl rfl ((blk_cell BK221.out 0).trans rfl) (fun hHeld => ?_); refine with_tabW spec_Squeeze.tab8 spec_Squeeze.bits8 (fun HT_ HW_ => ?_)
       generalize wr.drew = w25 at HO_222000 BK212 BK213 BK221 HB hHeld ⊢
       refine pz_ 0 21 ba11_1 HT_ ?_
       refine pz_ 1 22 ba11_2 HT_ ?_
       refine pz_ 2 23 ba11_3 HT_ ?_
       refine pu_ 3 24 ba11_4 HT_ ?_
       refine pu_ 4 25 ba11_5 HT_ ?_
       refine pu_ 5 26 ba11_6 HT_ ?_
       refine pu_ 6 27 ba11_7 HT_ ?_
       refine pu_ 7 28 ba11_8 HT_ ?_
       refine pu_ 8 29 ba11_9 HT_ ?_
       refine pu_ 9 30 ba11_10 HT_ ?_
       refine pu_ 10 31 ba11_11 HT_ ?_
       refine pu_ 11 32 ba11_12 HT_ ?_
       refine pu_ 12 33 ba11_13 HT_ ?_
       refine pu_ 13 34 ba11_14 HT_ ?_
       refine pu_ 14 35 ba11_15 HT_ ?_
       refine pu_ 15 36 ba11_16 HT_ ?_
       refine pu_ 16 37 ba11_17 HT_ ?_
       refine pu_ 17 38 ba11_18 HT_ ?_
       refine pz_ 18 39 ba11_19 HT_ ?_
       refine pz_ 19 40 ba11_20 HT_ ?_
       refine pz_ 21 42 ba11_21 HT_ ?_
       refine take_ (i := 20) (N := some 41) (v := ?_) (a' := ?_) ba11_22 rfl rfl (take_ofW HT_.out HW_.out (by kernel_rfl)) (fun _ _ _ h => h) (Or.inl ⟨by rfl, ?_⟩) hHeld ?_ ?_
       rotate_left; · intro w' s0; go_simp; with_reducible rfl
       rotate_left; · simp only [Act.put, List.setIfInBounds_toArray, List.set_cons_zero, List.set_cons_succ, i64_w, i32_w]; rfl
       refine one_ (i := 22) (N := some 43) ba11_23 rfl rfl (one_of HT_.out (by kernel_rfl)) (by decide) (fun K hK => ?_)
       refine gz_ Try.func40 #[.agg #[.slice Ao24 x222000_1.length co24], .int .i64 x6_2] ?_
       with_reducible refine (spec_l02Idle.calls k2 _ _ x222000_1 x6_2 true _ ?side1 ?side2 A19.out).mono ?_
       (case side1 => exact rc_ HO_222000)
       (case side2 => exact (Kd.R_reads' HO_222000.out).2.1)
       rintro e w26 ⟨rfl, hb⟩
       refine ⟨_, rfl, ?_⟩
       replace HO_222000 := rb_ HO_222000 hb
       replace BK212 := Aside0.mk (bb_ BK212 hb)
       replace BK213 := Aside0.mk (bb_ BK213 hb)
       replace BK221 := Aside0.mk (bb_ BK221 hb)
       replace HB := Aside0.mk (bt_ HB hb)
       (try clear hb)
       (try clear hb2)
       (try clear hk)
       (try clear hi)
       refine hK.out _ _ ((blk_cell BK221.out 0).trans rfl) (fun hHeld => ?_)
       clear hK K
       refine nz_ 43 ?_
       refine pz_ 23 44 ba11_24 HT_ ?_
       refine done_ (done_of HT_.out (by kernel_rfl)) ?_
       try go_wp2
       go_roundg k2
       case measure => have := HK1.out; have := HK2.out; omega
       case rel => exact ⟨(x6_2), (wrap64 (x6_2 + 1)), (by first | rfl | (simp; done) | (simp [*]; done)), (by first | rfl | (simp; done) | (simp [*]; done)), H', ⟨by have := HK1.out; have := HK2.out; omega⟩, ⟨by (with_reducible repeat (first | apply Kd.R_alloc | apply Kd.R_drewN | apply Kd.R_drew)); exact HO_222000.out⟩, ⟨by (with_reducible repeat (first | refine blk_drewN ?_ _ | refine blk_drew ?_ | refine blk_alloc ?_ _)); exact BK212.out⟩, ⟨by (with_reducible repeat (first | refine blk_drewN ?_ _ | refine blk_drew ?_ | refine blk_alloc ?_ _)); exact BK213.out⟩, ⟨by (with_reducible repeat (first | refine blk_drewN ?_ _ | refine blk_drew ?_ | refine blk_alloc ?_ _)); exact BK221.out⟩, ⟨by repeat (first | (with_reducible first | exact HB.out | apply below_alloc | apply pw_below_drewN | apply below_drew1 | refine below_set ?_ GE212.out | refine below_set ?_ GE213.out | refine below_set ?_ GE221.out) | exact HB.out)⟩⟩
      replace c20 := Bool.eq_false_iff.mpr c20
      subst c20
      rw [if_neg (show ¬ (false = true) by decide)] at H
      have H' := Aside0.mk H
      clear H
      have hnb27 := NB221_212.out
      have hnc27 := NB212_221.out
      have hnb28 := NB221_213.out
      have hnc28 := NB213_221.out
      have hcz29_0 := cz_ BK221 0 (u222000)
      have hfz29_0 := blk_frozen BK221.out 0
      obtain ⟨Ao30, co30, eo30⟩ := Kd.R_slice HO_222000.out
      subst eo30
      try go_wp2
      replace HO_222000 := Aside0.mk (Kd.R_drew HO_222000.out)
      replace BK212 := Aside0.mk (blk_drew BK212.out)
      replace BK213 := Aside0.mk (blk_drew BK213.out)
      replace BK221 := Aside0.mk (blk_drew BK221.out)
      replace HB := Aside0.mk (below_drew1 HB.out)
      refine start_ (n := 24) (S := fun w' => w'.cell? ⟨gb221, 0, none⟩ = some (.slice Ao30 x222000_1.length co30)) (ds := []) ba11_0 (by kernel_rfl) rfl rfl ((blk_cell BK221.out 0).trans rfl) (fun hHeld => ?_); refine with_tabW spec_Squeeze.tab8 spec_Squeeze.bits8 (fun HT_ HW_ => ?_)
      generalize wr.drew = w31 at HO_222000 BK212 BK213 BK221 HB hHeld ⊢
      refine pz_ 0 21 ba11_1 HT_ ?_
      refine pz_ 1 22 ba11_2 HT_ ?_
      refine pz_ 2 23 ba11_3 HT_ ?_
      refine pu_ 3 24 ba11_4 HT_ ?_
      refine pu_ 4 25 ba11_5 HT_ ?_
      refine pu_ 5 26 ba11_6 HT_ ?_
      refine pu_ 6 27 ba11_7 HT_ ?_
      refine pu_ 7 28 ba11_8 HT_ ?_
      refine pu_ 8 29 ba11_9 HT_ ?_
      refine pu_ 9 30 ba11_10 HT_ ?_
      refine pu_ 10 31 ba11_11 HT_ ?_
      refine pu_ 11 32 ba11_12 HT_ ?_
      refine pu_ 12 33 ba11_13 HT_ ?_
      refine pu_ 13 34 ba11_14 HT_ ?_
      refine pu_ 14 35 ba11_15 HT_ ?_
      refine pu_ 15 36 ba11_16 HT_ ?_
      refine pu_ 16 37 ba11_17 HT_ ?_
      refine pu_ 17 38 ba11_18 HT_ ?_
      refine pz_ 18 39 ba11_19 HT_ ?_
      refine pz_ 19 40 ba11_20 HT_ ?_
      refine pz_ 21 42 ba11_21 HT_ ?_
      refine take_ (i := 20) (N := some 41) (v := ?_) (a' := ?_) ba11_22 rfl rfl (take_ofW HT_.out HW_.out (by kernel_rfl)) (fun _ _ _ h => h) (Or.inl ⟨by rfl, ?_⟩) hHeld ?_ ?_
      rotate_left; · intro w' s0; go_simp; with_reducible rfl
      rotate_left; · simp only [Act.put, List.setIfInBounds_toArray, List.set_cons_zero, List.set_cons_succ, i64_w, i32_w]; rfl
      refine one_ (i := 22) (N := some 43) ba11_23 rfl rfl (one_of HT_.out (by kernel_rfl)) (by decide) (fun K hK => ?_)
      refine gz_ Try.func40 #[.agg #[.slice Ao30 x222000_1.length co30], .int .i64 x6_2] ?_
      with_reducible refine (spec_l02Idle.calls k2 _ _ x222000_1 x6_2 false _ ?side1 ?side2 A19.out).mono ?_
      (case side1 => exact rc_ HO_222000)
      (case side2 => exact (Kd.R_reads' HO_222000.out).2.1)
      rintro e w32 ⟨rfl, hb⟩
      refine ⟨_, rfl, ?_⟩
      replace HO_222000 := rb_ HO_222000 hb
      replace BK212 := Aside0.mk (bb_ BK212 hb)
      replace BK213 := Aside0.mk (bb_ BK213 hb)
      replace BK221 := Aside0.mk (bb_ BK221 hb)
      replace HB := Aside0.mk (bt_ HB hb)
      (try clear hb)
      (try clear hb2)
      (try clear hk)
      (try clear hi)
      refine hK.out _ _ ((blk_cell BK221.out 0).trans rfl) (fun hHeld => ?_)
      clear hK K
      refine nz_ 43 ?_
      refine pz_ 23 44 ba11_24 HT_ ?_
      refine done_ (done_of HT_.out (by kernel_rfl)) ?_
      try go_wp2
      go_roundg k2
      case measure => have := HK1.out; have := HK2.out; omega
      case rel => exact ⟨(x5_2), (wrap64 (x6_2 + 1)), (by first | rfl | (simp; done) | (simp [*]; done)), (by first | rfl | (simp; done) | (simp [*]; done)), H', ⟨by have := HK1.out; have := HK2.out; omega⟩, ⟨by (with_reducible repeat (first | apply Kd.R_alloc | apply Kd.R_drewN | apply Kd.R_drew)); exact HO_222000.out⟩, ⟨by (with_reducible repeat (first | refine blk_drewN ?_ _ | refine blk_drew ?_ | refine blk_alloc ?_ _)); exact BK212.out⟩, ⟨by (with_reducible repeat (first | refine blk_drewN ?_ _ | refine blk_drew ?_ | refine blk_alloc ?_ _)); exact BK213.out⟩, ⟨by (with_reducible repeat (first | refine blk_drewN ?_ _ | refine blk_drew ?_ | refine blk_alloc ?_ _)); exact BK221.out⟩, ⟨by repeat (first | (with_reducible first | exact HB.out | apply below_alloc | apply pw_below_drewN | apply below_drew1 | refine below_set ?_ GE212.out | refine below_set ?_ GE213.out | refine below_set ?_ GE221.out) | exact HB.out)⟩⟩
     rw [if_neg c18] at H
     have c18b0 : decide (x5_2 < 0) = false := decide_eq_false c18
     clear c18
     by_cases c33 : 0 ≤ x6_2
     rotate_left
     ·rw [if_neg c33] at H
      exact absurd H (by simp)
     rw [if_pos c33] at H
     have c33b0 : decide (0 ≤ x6_2) = true := decide_eq_true c33
     clear c33
     by_cases c34 : 0 ≤ x5_2
     rotate_left
     ·rw [if_neg c34] at H
      exact absurd H (by simp)
     rw [if_pos c34] at H
     have c34b0 : decide (0 ≤ x5_2) = true := decide_eq_true c34
     clear c34
     by_cases c35 : x5_2 < (x222000_1.length : Int)
     rotate_left
     ·rw [if_neg c35] at H
      exact absurd H (by simp)
     rw [if_pos c35] at H
     have c35b0 : decide (x5_2 < (x222000_1.length : Int)) = true := decide_eq_true c35
     clear c35
     by_cases c36 : ((rd_T43 x222000_1 x6_2).f0.f1) > ((rd_T43 x222000_1 x5_2).f0.f1)
     rotate_left
     ·rw [if_neg c36] at H
      have c36b0 : decide (((rd_T43 x222000_1 x5_2).f0.f1) < ((rd_T43 x222000_1 x6_2).f0.f1)) = false := decide_eq_false c36
      clear c36
      have H' := Aside0.mk H
      clear H
      have hnb51 := NB221_212.out
      have hnc51 := NB212_221.out
      have hnb52 := NB221_213.out
      have hnc52 := NB213_221.out
      have hcz53_0 := cz_ BK221 0 (u222000)
      have hfz53_0 := blk_frozen BK221.out 0
      obtain ⟨Ao54, co54, eo54⟩ := Kd.R_slice HO_222000.out
      subst eo54
      try go_wp2
      replace HO_222000 := Aside0.mk (Kd.R_drew HO_222000.out)
      replace BK212 := Aside0.mk (blk_drew BK212.out)
      replace BK213 := Aside0.mk (blk_drew BK213.out)
      replace BK221 := Aside0.mk (blk_drew BK221.out)
      replace HB := Aside0.mk (below_drew1 HB.out)
      have p223 : 0 ≤ (x6_2 : Int) := of_decide_eq_true (by first | (with_reducible assumption) | assumption)
      have q223 : x6_2 < (x222000_1.length : Int) := of_decide_eq_true (by first | (with_reducible assumption) | assumption)
      obtain ⟨ad223, e223, hx223_0, hx223_1, hx223_2⟩ := at_T43 (Kd.R_reads' HO_222000.out).2.2 x6_2 p223 q223
      cases e223
      replace p223 := eq_true p223
      replace q223 := eq_true q223
      have p224 : 0 ≤ (x5_2 : Int) := of_decide_eq_true (by first | (with_reducible assumption) | assumption)
      have q224 : x5_2 < (x222000_1.length : Int) := of_decide_eq_true (by first | (with_reducible assumption) | assumption)
      obtain ⟨ad224, e224, hx224_0, hx224_1, hx224_2⟩ := at_T43 (Kd.R_reads' HO_222000.out).2.2 x5_2 p224 q224
      obtain rfl : ad223 = ad224 := (by injection e224)
      replace p224 := eq_true p224
      replace q224 := eq_true q224
      refine start_ (n := 24) (S := fun w' => w'.cell? ⟨gb221, 0, none⟩ = some (.slice (some ad223) x222000_1.length co54) ∧ w'.cell? (ad223.add ((x6_2).toNat * 3)) = some (.int .i64 ((rd_T43 x222000_1 x6_2).f0.f0)) ∧ w'.cell? ⟨(ad223.add ((x6_2).toNat * 3)).block, (ad223.add ((x6_2).toNat * 3)).off + 1, none⟩ = some (.int .i64 ((rd_T43 x222000_1 x6_2).f0.f1)) ∧ w'.cell? ⟨(ad223.add ((x6_2).toNat * 3)).block, (ad223.add ((x6_2).toNat * 3)).off + 2, none⟩ = some (.int .i64 ((rd_T43 x222000_1 x6_2).f1)) ∧ w'.cell? (ad223.add ((x5_2).toNat * 3)) = some (.int .i64 ((rd_T43 x222000_1 x5_2).f0.f0)) ∧ w'.cell? ⟨(ad223.add ((x5_2).toNat * 3)).block, (ad223.add ((x5_2).toNat * 3)).off + 1, none⟩ = some (.int .i64 ((rd_T43 x222000_1 x5_2).f0.f1)) ∧ w'.cell? ⟨(ad223.add ((x5_2).toNat * 3)).block, (ad223.add ((x5_2).toNat * 3)).off + 2, none⟩ = some (.int .i64 ((rd_T43 x222000_1 x5_2).f1))) (ds := []) ba11_0 (by kernel_rfl) rfl rfl ⟨(blk_cell BK221.out 0).trans rfl, hx223_0, hx223_1, hx223_2, hx224_0, hx224_1, hx224_2⟩ (fun hHeld => ?_); refine with_tabW spec_Squeeze.tab8 spec_Squeeze.bits8 (fun HT_ HW_ => ?_)
      generalize wr.drew = w55 at HO_222000 BK212 BK213 BK221 HB hx223_0 hx223_1 hx223_2 hx224_0 hx224_1 hx224_2 hHeld ⊢
      refine pz_ 0 21 ba11_1 HT_ ?_
      refine pz_ 1 22 ba11_2 HT_ ?_
      refine pz_ 2 23 ba11_3 HT_ ?_
      refine pz_ 3 24 ba11_4 HT_ ?_
      refine pz_ 5 26 ba11_25 HT_ ?_
      refine pz_ 10 31 ba11_26 HT_ ?_
      refine pz_ 12 33 ba11_27 HT_ ?_
      refine pt_ 4 25 ba11_28 HT_ HW_ hHeld ?_
      refine pz_ 6 27 ba11_29 HT_ ?_
      refine pz_ 7 28 ba11_30 HT_ ?_
      refine pz_ 8 29 ba11_31 HT_ ?_
      refine pt_ 9 30 ba11_32 HT_ HW_ hHeld ?_
      refine pt_ 11 32 ba11_13 HT_ HW_ hHeld ?_
      refine pz_ 13 34 ba11_14 HT_ ?_
      refine pz_ 14 35 ba11_15 HT_ ?_
      refine pz_ 15 36 ba11_16 HT_ ?_
      refine pt_ 16 37 ba11_17 HT_ HW_ hHeld ?_
      refine pz_ 17 38 ba11_18 HT_ ?_
      refine pz_ 18 39 ba11_19 HT_ ?_
      refine pz_ 19 40 ba11_20 HT_ ?_
      refine pu_ 20 41 ba11_33 HT_ ?_
      refine pu_ 21 42 ba11_22 HT_ ?_
      refine pu_ 22 43 ba11_23 HT_ ?_
      refine pz_ 23 44 ba11_24 HT_ ?_
      refine done_ (done_of HT_.out (by kernel_rfl)) ?_
      try go_wp2
      go_roundg k2
      case measure => have := HK1.out; have := HK2.out; omega
      case rel => exact ⟨(x5_2), (wrap64 (x6_2 + 1)), (by first | rfl | (simp; done) | (simp [*]; done)), (by first | rfl | (simp; done) | (simp [*]; done)), H', ⟨by have := HK1.out; have := HK2.out; omega⟩, ⟨by (with_reducible repeat (first | apply Kd.R_alloc | apply Kd.R_drewN | apply Kd.R_drew)); exact HO_222000.out⟩, ⟨by (with_reducible repeat (first | refine blk_drewN ?_ _ | refine blk_drew ?_ | refine blk_alloc ?_ _)); exact BK212.out⟩, ⟨by (with_reducible repeat (first | refine blk_drewN ?_ _ | refine blk_drew ?_ | refine blk_alloc ?_ _)); exact BK213.out⟩, ⟨by (with_reducible repeat (first | refine blk_drewN ?_ _ | refine blk_drew ?_ | refine blk_alloc ?_ _)); exact BK221.out⟩, ⟨by repeat (first | (with_reducible first | exact HB.out | apply below_alloc | apply pw_below_drewN | apply below_drew1 | refine below_set ?_ GE212.out | refine below_set ?_ GE213.out | refine below_set ?_ GE221.out) | exact HB.out)⟩⟩
     rw [if_pos c36] at H
     have c36b0 : decide (((rd_T43 x222000_1 x5_2).f0.f1) < ((rd_T43 x222000_1 x6_2).f0.f1)) = true := decide_eq_true c36
     clear c36
     replace H := Option.bind_eq_some_iff.mp H
     obtain ⟨t225, A370, H⟩ := H
     have A37 := Aside0.mk A370
     clear A370
     by_cases c38 : t225 = true
     ·subst c38
      rw [if_pos rfl] at H
      have H' := Aside0.mk H
      clear H
      have hnb39 := NB221_212.out
      have hnc39 := NB212_221.out
      have hnb40 := NB221_213.out
      have hnc40 := NB213_221.out
      have hcz41_0 := cz_ BK221 0 (u222000)
      have hfz41_0 := blk_frozen BK221.out 0
      obtain ⟨Ao42, co42, eo42⟩ := Kd.R_slice HO_222000.out
      subst eo42
      try go_wp2
      replace HO_222000 := Aside0.mk (Kd.R_drew HO_222000.out)
      replace BK212 := Aside0.mk (blk_drew BK212.out)
      replace BK213 := Aside0.mk (blk_drew BK213.out)
      replace BK221 := Aside0.mk (blk_drew BK221.out)
      replace HB := Aside0.mk (below_drew1 HB.out)
      have p223 : 0 ≤ (x6_2 : Int) := of_decide_eq_true (by first | (with_reducible assumption) | assumption)
      have q223 : x6_2 < (x222000_1.length : Int) := of_decide_eq_true (by first | (with_reducible assumption) | assumption)
      obtain ⟨ad223, e223, hx223_0, hx223_1, hx223_2⟩ := at_T43 (Kd.R_reads' HO_222000.out).2.2 x6_2 p223 q223
      cases e223
      replace p223 := eq_true p223
      replace q223 := eq_true q223
      have p224 : 0 ≤ (x5_2 : Int) := of_decide_eq_true (by first | (with_reducible assumption) | assumption)
      have q224 : x5_2 < (x222000_1.length : Int) := of_decide_eq_true (by first | (with_reducible assumption) | assumption)
      obtain ⟨ad224, e224, hx224_0, hx224_1, hx224_2⟩ := at_T43 (Kd.R_reads' HO_222000.out).2.2 x5_2 p224 q224
      obtain rfl : ad223 = ad224 := (by injection e224)
      replace p224 := eq_true p224
      replace q224 := eq_true q224
      refine start_ (n := 24) (S := fun w' => w'.cell? ⟨gb221, 0, none⟩ = some (.slice (some ad223) x222000_1.length co42) ∧ w'.cell? (ad223.add ((x6_2).toNat * 3)) = some (.int .i64 ((rd_T43 x222000_1 x6_2).f0.f0)) ∧ w'.cell? ⟨(ad223.add ((x6_2).toNat * 3)).block, (ad223.add ((x6_2).toNat * 3)).off + 1, none⟩ = some (.int .i64 ((rd_T43 x222000_1 x6_2).f0.f1)) ∧ w'.cell? ⟨(ad223.add ((x6_2).toNat * 3)).block, (ad223.add ((x6_2).toNat * 3)).off + 2, none⟩ = some (.int .i64 ((rd_T43 x222000_1 x6_2).f1)) ∧ w'.cell? (ad223.add ((x5_2).toNat * 3)) = some (.int .i64 ((rd_T43 x222000_1 x5_2).f0.f0)) ∧ w'.cell? ⟨(ad223.add ((x5_2).toNat * 3)).block, (ad223.add ((x5_2).toNat * 3)).off + 1, none⟩ = some (.int .i64 ((rd_T43 x222000_1 x5_2).f0.f1)) ∧ w'.cell? ⟨(ad223.add ((x5_2).toNat * 3)).block, (ad223.add ((x5_2).toNat * 3)).off + 2, none⟩ = some (.int .i64 ((rd_T43 x222000_1 x5_2).f1))) (ds := []) ba11_0 (by kernel_rfl) rfl rfl ⟨(blk_cell BK221.out 0).trans rfl, hx223_0, hx223_1, hx223_2, hx224_0, hx224_1, hx224_2⟩ (fun hHeld => ?_); refine with_tabW spec_Squeeze.tab8 spec_Squeeze.bits8 (fun HT_ HW_ => ?_)
      generalize wr.drew = w43 at HO_222000 BK212 BK213 BK221 HB hx223_0 hx223_1 hx223_2 hx224_0 hx224_1 hx224_2 hHeld ⊢
      refine pz_ 0 21 ba11_1 HT_ ?_
      refine pz_ 1 22 ba11_2 HT_ ?_
      refine pz_ 2 23 ba11_3 HT_ ?_
      refine pz_ 3 24 ba11_4 HT_ ?_
      refine pz_ 5 26 ba11_25 HT_ ?_
      refine pz_ 10 31 ba11_26 HT_ ?_
      refine pz_ 12 33 ba11_27 HT_ ?_
      refine pt_ 4 25 ba11_28 HT_ HW_ hHeld ?_
      refine pz_ 6 27 ba11_29 HT_ ?_
      refine pz_ 7 28 ba11_30 HT_ ?_
      refine pz_ 8 29 ba11_31 HT_ ?_
      refine pt_ 9 30 ba11_32 HT_ HW_ hHeld ?_
      refine pt_ 11 32 ba11_13 HT_ HW_ hHeld ?_
      refine pz_ 13 34 ba11_14 HT_ ?_
      refine pz_ 14 35 ba11_15 HT_ ?_
      refine pz_ 15 36 ba11_16 HT_ ?_
      refine pt_ 16 37 ba11_17 HT_ HW_ hHeld ?_
      refine pz_ 17 38 ba11_18 HT_ ?_
      refine pz_ 18 39 ba11_19 HT_ ?_
      refine pz_ 19 40 ba11_20 HT_ ?_
      refine pz_ 21 42 ba11_21 HT_ ?_
      refine pt_ 20 41 ba11_22 HT_ HW_ hHeld ?_
      refine one_ (i := 22) (N := some 43) ba11_23 rfl rfl (one_of HT_.out (by kernel_rfl)) (by decide) (fun K hK => ?_)
      refine gz_ Try.func40 #[.agg #[.slice (some ad223) x222000_1.length co42], .int .i64 x6_2] ?_
      with_reducible refine (spec_l02Idle.calls k2 _ _ x222000_1 x6_2 true _ ?side1 ?side2 A37.out).mono ?_
      (case side1 => exact rc_ HO_222000)
      (case side2 => exact (Kd.R_reads' HO_222000.out).2.1)
      rintro e w44 ⟨rfl, hb⟩
      have HS1_ := (hb.cell (World.block_lt_of_cell? _ _ (hHeld.2.1))).trans (hHeld.2.1)
      have HS2_ := (hb.cell (World.block_lt_of_cell? _ _ (hHeld.2.2.1))).trans (hHeld.2.2.1)
      have HS3_ := (hb.cell (World.block_lt_of_cell? _ _ (hHeld.2.2.2.1))).trans (hHeld.2.2.2.1)
      have HS4_ := (hb.cell (World.block_lt_of_cell? _ _ (hHeld.2.2.2.2.1))).trans (hHeld.2.2.2.2.1)
      have HS5_ := (hb.cell (World.block_lt_of_cell? _ _ (hHeld.2.2.2.2.2.1))).trans (hHeld.2.2.2.2.2.1)
      have HS6_ := (hb.cell (World.block_lt_of_cell? _ _ (hHeld.2.2.2.2.2.2))).trans (hHeld.2.2.2.2.2.2)
      refine ⟨_, rfl, ?_⟩
      replace HO_222000 := rb_ HO_222000 hb
      replace BK212 := Aside0.mk (bb_ BK212 hb)
      replace BK213 := Aside0.mk (bb_ BK213 hb)
      replace BK221 := Aside0.mk (bb_ BK221 hb)
      replace HB := Aside0.mk (bt_ HB hb)
      (try clear hb)
      (try clear hb2)
      (try clear hk)
      (try clear hi)
      refine hK.out _ _ ⟨(blk_cell BK221.out 0).trans rfl, HS1_, HS2_, HS3_, HS4_, HS5_, HS6_⟩ (fun hHeld => ?_)
      clear hK K
      refine nz_ 43 ?_
      refine pz_ 23 44 ba11_24 HT_ ?_
      refine done_ (done_of HT_.out (by kernel_rfl)) ?_
      try go_wp2
      go_roundg k2
      case measure => have := HK1.out; have := HK2.out; omega
      case rel => exact ⟨(x6_2), (wrap64 (x6_2 + 1)), (by first | rfl | (simp; done) | (simp [*]; done)), (by first | rfl | (simp; done) | (simp [*]; done)), H', ⟨by have := HK1.out; have := HK2.out; omega⟩, ⟨by (with_reducible repeat (first | apply Kd.R_alloc | apply Kd.R_drewN | apply Kd.R_drew)); exact HO_222000.out⟩, ⟨by (with_reducible repeat (first | refine blk_drewN ?_ _ | refine blk_drew ?_ | refine blk_alloc ?_ _)); exact BK212.out⟩, ⟨by (with_reducible repeat (first | refine blk_drewN ?_ _ | refine blk_drew ?_ | refine blk_alloc ?_ _)); exact BK213.out⟩, ⟨by (with_reducible repeat (first | refine blk_drewN ?_ _ | refine blk_drew ?_ | refine blk_alloc ?_ _)); exact BK221.out⟩, ⟨by repeat (first | (with_reducible first | exact HB.out | apply below_alloc | apply pw_below_drewN | apply below_drew1 | refine below_set ?_ GE212.out | refine below_set ?_ GE213.out | refine below_set ?_ GE221.out) | exact HB.out)⟩⟩
     replace c38 := Bool.eq_false_iff.mpr c38
     subst c38
     rw [if_neg (show ¬ (false = true) by decide)] at H
     have H' := Aside0.mk H
     clear H
     have hnb45 := NB221_212.out
     have hnc45 := NB212_221.out
     have hnb46 := NB221_213.out
     have hnc46 := NB213_221.out
     have hcz47_0 := cz_ BK221 0 (u222000)
     have hfz47_0 := blk_frozen BK221.out 0
     obtain ⟨Ao48, co48, eo48⟩ := Kd.R_slice HO_222000.out
     subst eo48
     try go_wp2
     replace HO_222000 := Aside0.mk (Kd.R_drew HO_222000.out)
     replace BK212 := Aside0.mk (blk_drew BK212.out)
     replace BK213 := Aside0.mk (blk_drew BK213.out)
     replace BK221 := Aside0.mk (blk_drew BK221.out)
     replace HB := Aside0.mk (below_drew1 HB.out)
     have p223 : 0 ≤ (x6_2 : Int) := of_decide_eq_true (by first | (with_reducible assumption) | assumption)
     have q223 : x6_2 < (x222000_1.length : Int) := of_decide_eq_true (by first | (with_reducible assumption) | assumption)
     obtain ⟨ad223, e223, hx223_0, hx223_1, hx223_2⟩ := at_T43 (Kd.R_reads' HO_222000.out).2.2 x6_2 p223 q223
     cases e223
     replace p223 := eq_true p223
     replace q223 := eq_true q223
     have p224 : 0 ≤ (x5_2 : Int) := of_decide_eq_true (by first | (with_reducible assumption) | assumption)
     have q224 : x5_2 < (x222000_1.length : Int) := of_decide_eq_true (by first | (with_reducible assumption) | assumption)
     obtain ⟨ad224, e224, hx224_0, hx224_1, hx224_2⟩ := at_T43 (Kd.R_reads' HO_222000.out).2.2 x5_2 p224 q224
     obtain rfl : ad223 = ad224 := (by injection e224)
     replace p224 := eq_true p224
     replace q224 := eq_true q224
     refine start_ (n := 24) (S := fun w' => w'.cell? ⟨gb221, 0, none⟩ = some (.slice (some ad223) x222000_1.length co48) ∧ w'.cell? (ad223.add ((x6_2).toNat * 3)) = some (.int .i64 ((rd_T43 x222000_1 x6_2).f0.f0)) ∧ w'.cell? ⟨(ad223.add ((x6_2).toNat * 3)).block, (ad223.add ((x6_2).toNat * 3)).off + 1, none⟩ = some (.int .i64 ((rd_T43 x222000_1 x6_2).f0.f1)) ∧ w'.cell? ⟨(ad223.add ((x6_2).toNat * 3)).block, (ad223.add ((x6_2).toNat * 3)).off + 2, none⟩ = some (.int .i64 ((rd_T43 x222000_1 x6_2).f1)) ∧ w'.cell? (ad223.add ((x5_2).toNat * 3)) = some (.int .i64 ((rd_T43 x222000_1 x5_2).f0.f0)) ∧ w'.cell? ⟨(ad223.add ((x5_2).toNat * 3)).block, (ad223.add ((x5_2).toNat * 3)).off + 1, none⟩ = some (.int .i64 ((rd_T43 x222000_1 x5_2).f0.f1)) ∧ w'.cell? ⟨(ad223.add ((x5_2).toNat * 3)).block, (ad223.add ((x5_2).toNat * 3)).off + 2, none⟩ = some (.int .i64 ((rd_T43 x222000_1 x5_2).f1))) (ds := []) ba11_0 (by kernel_rfl) rfl rfl ⟨(blk_cell BK221.out 0).trans rfl, hx223_0, hx223_1, hx223_2, hx224_0, hx224_1, hx224_2⟩ (fun hHeld => ?_); refine with_tabW spec_Squeeze.tab8 spec_Squeeze.bits8 (fun HT_ HW_ => ?_)
     generalize wr.drew = w49 at HO_222000 BK212 BK213 BK221 HB hx223_0 hx223_1 hx223_2 hx224_0 hx224_1 hx224_2 hHeld ⊢
     refine pz_ 0 21 ba11_1 HT_ ?_
     refine pz_ 1 22 ba11_2 HT_ ?_
     refine pz_ 2 23 ba11_3 HT_ ?_
     refine pz_ 3 24 ba11_4 HT_ ?_
     refine pz_ 5 26 ba11_25 HT_ ?_
     refine pz_ 10 31 ba11_26 HT_ ?_
     refine pz_ 12 33 ba11_27 HT_ ?_
     refine pt_ 4 25 ba11_28 HT_ HW_ hHeld ?_
     refine pz_ 6 27 ba11_29 HT_ ?_
     refine pz_ 7 28 ba11_30 HT_ ?_
     refine pz_ 8 29 ba11_31 HT_ ?_
     refine pt_ 9 30 ba11_32 HT_ HW_ hHeld ?_
     refine pt_ 11 32 ba11_13 HT_ HW_ hHeld ?_
     refine pz_ 13 34 ba11_14 HT_ ?_
     refine pz_ 14 35 ba11_15 HT_ ?_
     refine pz_ 15 36 ba11_16 HT_ ?_
     refine pt_ 16 37 ba11_17 HT_ HW_ hHeld ?_
     refine pz_ 17 38 ba11_18 HT_ ?_
     refine pz_ 18 39 ba11_19 HT_ ?_
     refine pz_ 19 40 ba11_20 HT_ ?_
     refine pz_ 21 42 ba11_21 HT_ ?_
     refine pt_ 20 41 ba11_22 HT_ HW_ hHeld ?_
     refine one_ (i := 22) (N := some 43) ba11_23 rfl rfl (one_of HT_.out (by kernel_rfl)) (by decide) (fun K hK => ?_)
     refine gz_ Try.func40 #[.agg #[.slice (some ad223) x222000_1.length co48], .int .i64 x6_2] ?_
     with_reducible refine (spec_l02Idle.calls k2 _ _ x222000_1 x6_2 false _ ?side1 ?side2 A37.out).mono ?_
     (case side1 => exact rc_ HO_222000)
     (case side2 => exact (Kd.R_reads' HO_222000.out).2.1)
     rintro e w50 ⟨rfl, hb⟩
     have HS1_ := (hb.cell (World.block_lt_of_cell? _ _ (hHeld.2.1))).trans (hHeld.2.1)
     have HS2_ := (hb.cell (World.block_lt_of_cell? _ _ (hHeld.2.2.1))).trans (hHeld.2.2.1)
     have HS3_ := (hb.cell (World.block_lt_of_cell? _ _ (hHeld.2.2.2.1))).trans (hHeld.2.2.2.1)
     have HS4_ := (hb.cell (World.block_lt_of_cell? _ _ (hHeld.2.2.2.2.1))).trans (hHeld.2.2.2.2.1)
     have HS5_ := (hb.cell (World.block_lt_of_cell? _ _ (hHeld.2.2.2.2.2.1))).trans (hHeld.2.2.2.2.2.1)
     have HS6_ := (hb.cell (World.block_lt_of_cell? _ _ (hHeld.2.2.2.2.2.2))).trans (hHeld.2.2.2.2.2.2)
     refine ⟨_, rfl, ?_⟩
     replace HO_222000 := rb_ HO_222000 hb
     replace BK212 := Aside0.mk (bb_ BK212 hb)
     replace BK213 := Aside0.mk (bb_ BK213 hb)
     replace BK221 := Aside0.mk (bb_ BK221 hb)
     replace HB := Aside0.mk (bt_ HB hb)
     (try clear hb)
     (try clear hb2)
     (try clear hk)
     (try clear hi)
     refine hK.out _ _ ⟨(blk_cell BK221.out 0).trans rfl, HS1_, HS2_, HS3_, HS4_, HS5_, HS6_⟩ (fun hHeld => ?_)
     clear hK K
     refine nz_ 43 ?_
     refine pz_ 23 44 ba11_24 HT_ ?_
     refine done_ (done_of HT_.out (by kernel_rfl)) ?_
     try go_wp2
     go_roundg k2
     case measure => have := HK1.out; have := HK2.out; omega
     case rel => exact ⟨(x5_2), (wrap64 (x6_2 + 1)), (by first | rfl | (simp; done) | (simp [*]; done)), (by first | rfl | (simp; done) | (simp [*]; done)), H', ⟨by have := HK1.out; have := HK2.out; omega⟩, ⟨by (with_reducible repeat (first | apply Kd.R_alloc | apply Kd.R_drewN | apply Kd.R_drew)); exact HO_222000.out⟩, ⟨by (with_reducible repeat (first | refine blk_drewN ?_ _ | refine blk_drew ?_ | refine blk_alloc ?_ _)); exact BK212.out⟩, ⟨by (with_reducible repeat (first | refine blk_drewN ?_ _ | refine blk_drew ?_ | refine blk_alloc ?_ _)); exact BK213.out⟩, ⟨by (with_reducible repeat (first | refine blk_drewN ?_ _ | refine blk_drew ?_ | refine blk_alloc ?_ _)); exact BK221.out⟩, ⟨by repeat (first | (with_reducible first | exact HB.out | apply below_alloc | apply pw_below_drewN | apply below_drew1 | refine below_set ?_ GE212.out | refine below_set ?_ GE213.out | refine below_set ?_ GE221.out) | exact HB.out)⟩⟩

end Go.Proofs.Ytflfbaofgfandaa.QFnExactSqueeze
