/- Contracts of functions that the law reaches: what each call returns and what it leaves in memory. Made by this session over the print of the kit. -/
import Derived.Test.YtflfbaofgfandaaQFnExactPutRoutex0
import Derived.Test.YtflfbaofgfandaaQFnExactPutRoutex4
import Derived.Test.YtflfbaofgfandaaQFnExactPutRoutex5
import Derived.Test.YtflfbaofgfandaaQFnExactPutRoutex6
namespace Go.Proofs.Ytflfbaofgfandaa.QFnExactPutRoute
open Go.RowKit Go.Proofs.YtflfbaofgfandaaP.PrintWords Go.Proofs.YtflfbaofgfandaaP.PrintLast Go.Proofs.YtflfbaofgfandaaP.PrintMore
attribute [local go_sem] max2_int min2_int max_two min_two max_three min_three max_four min_four   -- for this text's walks alone
set_option linter.unusedVariables false
set_option linter.unusedSimpArgs false
def ba7_0 : Array Bool := #[false, false, false, false, false, false, false, false, false, false, false, false, false]
def ba7_1 : Array Bool := #[true, false, false, false, false, false, false, false, false, false, false, false, false]
def ba7_2 : Array Bool := #[true, true, false, false, false, false, false, false, false, false, false, false, false]
def ba7_3 : Array Bool := #[true, true, true, false, false, false, false, false, false, false, false, false, false]
def ba7_4 : Array Bool := #[true, true, true, true, false, false, false, false, false, false, false, false, false]
def ba7_5 : Array Bool := #[true, true, true, true, true, false, false, false, false, false, false, false, false]
def ba7_6 : Array Bool := #[true, true, true, true, true, true, false, false, false, false, false, false, false]
def ba7_7 : Array Bool := #[true, true, true, true, true, true, true, false, false, false, false, false, false]
def ba7_8 : Array Bool := #[true, true, true, true, true, true, true, true, false, false, false, false, false]
def ba7_9 : Array Bool := #[true, true, true, true, true, true, true, true, true, false, false, false, false]
def ba7_10 : Array Bool := #[true, true, true, true, true, true, true, true, true, true, false, false, false]
def ba7_11 : Array Bool := #[true, true, true, true, true, true, true, true, true, true, true, false, false]
def ba7_12 : Array Bool := #[true, true, true, true, true, true, true, true, true, true, true, true, false]
def ba7_13 : Array Bool := #[true, true, true, true, true, true, true, true, true, true, true, true, true]
def ba7_14 : Array Bool := #[false, false, false, false, false, false, false, false, false, false, false]
def ba7_15 : Array Bool := #[true, false, false, false, false, false, false, false, false, false, false]
def ba7_16 : Array Bool := #[true, false, true, false, false, false, false, false, false, false, false]
def ba7_17 : Array Bool := #[true, false, true, false, true, false, false, false, false, false, false]
def ba7_18 : Array Bool := #[true, true, true, false, true, false, false, false, false, false, false]
def ba7_19 : Array Bool := #[true, true, true, true, true, false, false, false, false, false, false]
def ba7_20 : Array Bool := #[true, true, true, true, true, true, false, false, false, false, false]
def ba7_21 : Array Bool := #[true, true, true, true, true, true, true, false, false, false, false]
def ba7_22 : Array Bool := #[true, true, true, true, true, true, true, true, false, false, false]
def ba7_23 : Array Bool := #[true, true, true, true, true, true, true, true, true, false, false]
def ba7_24 : Array Bool := #[true, true, true, true, true, true, true, true, true, true, false]
def ba7_25 : Array Bool := #[true, true, true, true, true, true, true, true, true, true, true]
def ba7_26 : Array Bool := #[true, true, true, true, false, true, false, false, false, false, false, false, false]
def ba7_27 : Array Bool := #[true, true, true, true, false, true, false, true, false, false, false, false, false]
def ba7_28 : Array Bool := #[true, true, true, true, true, true, false, true, false, false, false, false, false]

/-! ### spec_PutRoute: function 15 -/
mutual
def spec_PutRoute.l0 : Nat → Bool → Int → List (S43) → Int → Int → Int → List (S43) → List (S43) → Option ((List (S43)) × Bool)
 | 0, _, _, _, _, _, _, _, _ => none
 | k + 1, x8, x9, x179000, x180000, x180001, x180002, x189000, x190000 => if x9 < (x189000.length : Int) then (if x8 = true then (if 0 ≤ x9 then (if x190000.length < 5864062014805 then (spec_PutRoute.l0 k x8 (wrap64 (x9 + 1)) x179000 x180000 x180001 x180002 x189000 (x190000 ++ [(⟨(⟨(rd_T43 x189000 x9).f0.f0, (rd_T43 x189000 x9).f0.f1⟩ : S34), (rd_T43 x189000 x9).f1⟩ : S43)])) else (none)) else (none)) else (if 0 ≤ x9 then ((spec_l02Ahead.f x180000 x180001 ((rd_T43 x189000 x9).f0.f0) ((rd_T43 x189000 x9).f0.f1)).bind fun t195 => (if t195 = true then (if x190000.length < 5864062014805 then ((some (x190000 ++ [(⟨(⟨x180000, x180001⟩ : S34), x180002⟩ : S43)] : List (S43))).bind fun y196 => (if y196.length < 5864062014805 then (spec_PutRoute.l0 k true (wrap64 (x9 + 1)) x179000 x180000 x180001 x180002 x189000 (y196 ++ [(⟨(⟨(rd_T43 x189000 x9).f0.f0, (rd_T43 x189000 x9).f0.f1⟩ : S34), (rd_T43 x189000 x9).f1⟩ : S43)])) else (none))) else (none)) else (if x190000.length < 5864062014805 then (spec_PutRoute.l0 k x8 (wrap64 (x9 + 1)) x179000 x180000 x180001 x180002 x189000 (x190000 ++ [(⟨(⟨(rd_T43 x189000 x9).f0.f0, (rd_T43 x189000 x9).f0.f1⟩ : S34), (rd_T43 x189000 x9).f1⟩ : S43)])) else (none)))) else (none))) else (if x8 = true then (spec_PutRoute.j1 k x179000 x190000) else (if x190000.length < 5864062014805 then (spec_PutRoute.j1 k x179000 (x190000 ++ [(⟨(⟨x180000, x180001⟩ : S34), x180002⟩ : S43)])) else (none)))
def spec_PutRoute.j1 : Nat → List (S43) → List (S43) → Option ((List (S43)) × Bool)
 | 0, _, _ => none
 | k + 1, x179000, x190000 => (spec_TableOk.f k x190000).bind fun t210 => (if t210 = true then (some (x190000, true)) else ((spec_l02Copy.f k x179000).bind fun t211 => (some (t211, false))))
end
def spec_PutRoute.f (k : Nat) (l0_0 : List (S43)) (a1_0 : Int) (a1_1 : Int) (a1_2 : Int) : Option ((List (S43)) × Bool) := (spec_TableOk.f k l0_0).bind fun t181 => (if t181 = true then ((spec_l02Less.f k l0_0 a1_0 a1_1).bind fun t185 => (spec_PutRoute.l0 k false 0 l0_0 a1_0 a1_1 a1_2 t185 ([] : List (S43)))) else ((spec_l02Copy.f k l0_0).bind fun t182 => (some (t182, false))))
theorem spec_PutRoute.mono_l : ∀ k, (∀ y0 y1 y2 y3 y4 y5 y6 y7, LeO (spec_PutRoute.l0 k y0 y1 y2 y3 y4 y5 y6 y7) (spec_PutRoute.l0 (k + 1) y0 y1 y2 y3 y4 y5 y6 y7)) ∧ (∀ y0 y1, LeO (spec_PutRoute.j1 k y0 y1) (spec_PutRoute.j1 (k + 1) y0 y1))
 | 0 => ⟨fun _ _ _ _ _ _ _ _ r h => by simp [spec_PutRoute.l0] at h, fun _ _ r h => by simp [spec_PutRoute.j1] at h⟩
 | k + 1 => by
  obtain ⟨ih0, ih1⟩ := spec_PutRoute.mono_l k
  refine ⟨?_, ?_⟩
  ·intro y0 y1 y2 y3 y4 y5 y6 y7
   unfold spec_PutRoute.l0
   repeat' first
   | (with_reducible exact ih0 _ _ _ _ _ _ _ _)
   | (with_reducible exact ih1 _ _)
   | (with_reducible exact spec_TableOk.mono _ _)
   | (with_reducible exact spec_l02Copy.mono _ _)
   | (with_reducible exact spec_l02Less.mono _ _ _ _)
   | (with_reducible exact LeO.refl _)
   | (with_reducible exact LeO.none _)
   | (with_reducible refine LeO.ite ?_ ?_)
   | (with_reducible refine LeO.bind ?_ (fun _ => ?_))
   | exact ih0 _ _ _ _ _ _ _ _
   | exact ih1 _ _
   | exact spec_TableOk.mono _ _
   | exact spec_l02Copy.mono _ _
   | exact spec_l02Less.mono _ _ _ _
   | exact LeO.none _
   | refine LeO.ite ?_ ?_
   | refine LeO.bind ?_ (fun _ => ?_)
  ·intro y0 y1
   unfold spec_PutRoute.j1
   repeat' first
   | (with_reducible exact ih0 _ _ _ _ _ _ _ _)
   | (with_reducible exact ih1 _ _)
   | (with_reducible exact spec_TableOk.mono _ _)
   | (with_reducible exact spec_l02Copy.mono _ _)
   | (with_reducible exact spec_l02Less.mono _ _ _ _)
   | (with_reducible exact LeO.refl _)
   | (with_reducible exact LeO.none _)
   | (with_reducible refine LeO.ite ?_ ?_)
   | (with_reducible refine LeO.bind ?_ (fun _ => ?_))
   | exact ih0 _ _ _ _ _ _ _ _
   | exact ih1 _ _
   | exact spec_TableOk.mono _ _
   | exact spec_l02Copy.mono _ _
   | exact spec_l02Less.mono _ _ _ _
   | exact LeO.none _
   | refine LeO.ite ?_ ?_
   | refine LeO.bind ?_ (fun _ => ?_)
theorem spec_PutRoute.mono : ∀ a0 a1 a2 a3 k, LeO (spec_PutRoute.f k a0 a1 a2 a3) (spec_PutRoute.f (k + 1) a0 a1 a2 a3) := by
 intro a0 a1 a2 a3 k
 obtain ⟨ih0, ih1⟩ := spec_PutRoute.mono_l k
 unfold spec_PutRoute.f
 repeat' first
   | (with_reducible exact ih0 _ _ _ _ _ _ _ _)
   | (with_reducible exact ih1 _ _)
   | (with_reducible exact spec_TableOk.mono _ _)
   | (with_reducible exact spec_l02Copy.mono _ _)
   | (with_reducible exact spec_l02Less.mono _ _ _ _)
   | (with_reducible exact LeO.refl _)
   | (with_reducible exact LeO.none _)
   | (with_reducible refine LeO.ite ?_ ?_)
   | (with_reducible refine LeO.bind ?_ (fun _ => ?_))
   | exact ih0 _ _ _ _ _ _ _ _
   | exact ih1 _ _
   | exact spec_TableOk.mono _ _
   | exact spec_l02Copy.mono _ _
   | exact spec_l02Less.mono _ _ _ _
   | exact LeO.none _
   | refine LeO.ite ?_ ?_
   | refine LeO.bind ?_ (fun _ => ?_)
def spec_PutRoute.T9 : Bool × List (List Nat × List Nat) := (true, [([], []), ([0], [0]), ([1], [1]), ([2], [2]), ([3, 2], [2, 3]), ([2], [2]), ([5, 2], [2, 5]), ([2], [2]), ([6, 7, 2], [2, 6, 7]), ([8, 2], [2, 8]), ([9, 2], [2, 9]), ([4, 10, 2, 2], [2, 4, 10]), ([2, 11], [2, 11])])
def spec_PutRoute.B9 : List Nat := [0, 1, 3, 7, 15, 7, 39, 7, 231, 487, 999, 2047, 4095]
theorem spec_PutRoute.tab9 : rtab .any (opsOf Try.f15 9) = spec_PutRoute.T9 := by kernel_rfl
theorem spec_PutRoute.bits9 : waitsOk spec_PutRoute.T9.2 spec_PutRoute.B9 = true := by kernel_rfl
def spec_PutRoute.T12 : Bool × List (List Nat × List Nat) := (true, [([], []), ([0], [0]), ([], []), ([2], [2]), ([], []), ([3, 4], [3, 4]), ([5], [5]), ([6], [6]), ([1, 7], [1, 7]), ([0, 1, 2, 3, 4, 5, 6, 7, 8], []), ([9, 8, 8, 0, 1, 2, 3, 4, 5, 6, 7, 8], [8, 9])])
def spec_PutRoute.B12 : List Nat := [0, 1, 0, 4, 0, 28, 60, 124, 255, 511, 1023]
theorem spec_PutRoute.tab12 : rtab .any (opsOf Try.f15 12) = spec_PutRoute.T12 := by kernel_rfl
theorem spec_PutRoute.bits12 : waitsOk spec_PutRoute.T12.2 spec_PutRoute.B12 = true := by kernel_rfl
set_option maxHeartbeats 8000000 in
set_option maxRecDepth 100000 in
theorem spec_PutRoute.calls (k : Nat) (A0_0 : Option Addr) (c0_0 : Nat) (l0_0 : List (S43)) (a1_0 : Int) (a1_1 : Int) (a1_2 : Int) (r1 : List (S43)) (r2 : Bool) (w : World) (hr0_0 : Kd.C k43 w A0_0 l0_0.length l0_0) (hc0_0 : l0_0.length ≤ c0_0) (h : spec_PutRoute.f k l0_0 a1_0 a1_1 a1_2 = some (r1, r2)) :
  Calls Try.prog 15 #[.agg #[.slice A0_0 l0_0.length c0_0], .agg #[.int .i64 a1_0, .int .i64 a1_1, .int .i64 a1_2]] w fun e w' => ∃ v0_ : Value, e = .returned (.tuple #[.agg #[v0_], .bool r2]) ∧ Kd.R k43 43 w' w.heap.size (fun _ => True) v0_ r1 ∧ Below w.heap.size w w' := by
 have hu30 := Try.underlying30
 have hu43 := Try.underlying43
 have hu34 := Try.underlying34
 have HR0_0 := Aside0.mk hr0_0
 have HC0_0 := Aside0.mk hc0_0
 clear hr0_0 hc0_0
 have HB := Aside0.mk (Below.refl w.heap.size w)
 have H : ((spec_TableOk.f k l0_0).bind fun t181 => (if t181 = true then ((spec_l02Less.f k l0_0 a1_0 a1_1).bind fun t185 => (spec_PutRoute.l0 k false 0 l0_0 a1_0 a1_1 a1_2 t185 ([] : List (S43)))) else ((spec_l02Copy.f k l0_0).bind fun t182 => (some (t182, false))))) = some (r1, r2) := h
 clear h
 replace H := Option.bind_eq_some_iff.mp H
 obtain ⟨t181, A30, H⟩ := H
 have A3 := Aside0.mk A30
 clear A30
 by_cases c4 : t181 = true
 ·subst c4
  rw [if_pos rfl] at H
  replace H := Option.bind_eq_some_iff.mp H
  obtain ⟨t185, A50, H⟩ := H
  have A5 := Aside0.mk A50
  clear A50
  have H' := Aside0.mk H
  clear H
  go_enter Try.func15, Try.ntmps15
  go_wp2_with (first | ((with_reducible refine gate_dst (N := 2) rfl ?_); refine box_event ?hg (N := 2) ?hd (cs := #[.slice A0_0 l0_0.length c0_0]) (t := 30) ?hr ?_; (case hd => rfl); (case hg => rfl); (case hr => first | (go_simp; done) | (go_simp; rfl)); intro gb178 hg w6 hbox hb; have BK178 := Aside0.mk hbox; have GW178 := ge_ HB hg; have GE178 := ge_ HB hg; replace HB := Aside0.mk (bt_ HB hb); clear hb hbox hg) | ((with_reducible refine gate_dst (N := 3) rfl ?_); refine box_event ?hg (N := 3) ?hd (cs := #[.int .i64 a1_0, .int .i64 a1_1, .int .i64 a1_2]) (t := 43) ?hr ?_; (case hd => rfl); (case hg => rfl); (case hr => first | (go_simp; done) | (go_simp; rfl)); intro gb179 hg w7 hbox hb; have BK179 := Aside0.mk hbox; have GW179 := ge_ HB hg; have GE179 := ge_ HB hg; have NB178_179 := nl_ BK178 hg; have NB179_178 := ng_ BK178 hg; replace HB := Aside0.mk (bt_ HB hb); replace BK178 := Aside0.mk (bb_ BK178 hb); clear hb hbox hg) | ((with_reducible refine gate_dst (N := 4) rfl ?_); refine box_event ?hg (N := 4) ?hd (cs := #[.slice none 0 0]) (t := 30) ?hr ?_; (case hd => rfl); (case hg => rfl); (case hr => first | (go_simp; done) | (go_simp; rfl)); intro gb180 hg w8 hbox hb; have BK180 := Aside0.mk hbox; have GW180 := ge_ HB hg; have GE180 := ge_ HB hg; have NB178_180 := nl_ BK178 hg; have NB180_178 := ng_ BK178 hg; have NB179_180 := nl_ BK179 hg; have NB180_179 := ng_ BK179 hg; replace HB := Aside0.mk (bt_ HB hb); replace BK178 := Aside0.mk (bb_ BK178 hb); replace BK179 := Aside0.mk (bb_ BK179 hb); clear hb hbox hg; have hnb9 := NB178_179.out; have hnc9 := NB179_178.out; have hnb10 := NB178_180.out; have hnc10 := NB180_178.out; have hcz11_0 := cz_ BK178 0 (.slice A0_0 l0_0.length c0_0); have hfz11_0 := blk_frozen BK178.out 0) | ((with_reducible refine gate_callee (f := 27) rfl ?_); refine gl_ (some 11) Try.func27 #[.agg #[.slice A0_0 l0_0.length c0_0]] ?_; (with_reducible refine (spec_TableOk.calls k _ _ l0_0 true _ ?side1 ?side2 A3.out).mono ?_); (case side1 => exact cb_ HR0_0 HB); (case side2 => exact HC0_0.out); rintro e w12 ⟨rfl, hb⟩; refine ⟨_, rfl, ?_⟩; replace BK178 := Aside0.mk (bb_ BK178 hb); replace BK179 := Aside0.mk (bb_ BK179 hb); replace BK180 := Aside0.mk (bb_ BK180 hb); replace HB := Aside0.mk (bt_ HB hb); (try clear hb); (try clear hb2); (try clear hk); (try clear hi); have hcz13_0 := cz_ BK178 0 (.slice A0_0 l0_0.length c0_0); have hfz13_0 := blk_frozen BK178.out 0; have hnb14 := NB179_180.out; have hnc14 := NB180_179.out; have hcz15_0 := cz_ BK179 0 (.int .i64 a1_0); have hcz15_1 := cz_ BK179 1 (.int .i64 a1_1); have hcz15_2 := cz_ BK179 2 (.int .i64 a1_2); have hfz15_0 := blk_frozen BK179.out 0; have hfz15_1 := blk_frozen BK179.out 1; have hfz15_2 := blk_frozen BK179.out 2) | ((with_reducible refine gate_callee (f := 26) rfl ?_); refine gl_ (some 18) Try.func26 #[.agg #[.slice A0_0 l0_0.length c0_0], .agg #[.int .i64 a1_0, .int .i64 a1_1]] ?_; (with_reducible refine (spec_l02Less.calls k _ _ l0_0 a1_0 a1_1 t185 _ ?side1 ?side2 A5.out).mono ?_); (case side1 => exact cb_ HR0_0 HB); (case side2 => exact HC0_0.out); rintro e w16 ⟨v186, rfl, ho0, hb⟩; refine ⟨_, rfl, ?_⟩; have HO187 := Aside0.mk (Kd.R_lower (Kd.R_newB ho0 (g := gb179) (o := .cells #[.int .i64 a1_0, .int .i64 a1_1, .int .i64 a1_2] 43 (0, 0)) (by (with_reducible repeat (first | refine blk_drewN ?_ _ | refine blk_drew ?_ | refine blk_alloc ?_ _)); exact BK179.out)) (bz_ HB)); replace BK178 := Aside0.mk (bb_ BK178 hb); replace BK179 := Aside0.mk (bb_ BK179 hb); replace BK180 := Aside0.mk (bb_ BK180 hb); replace HB := Aside0.mk (bt_ HB hb); (try clear hb); (try clear hb2); (try clear hk); (try clear hi); (try clear ho0)) | ((with_reducible refine gate_dst (N := 6) rfl ?_); refine box_event ?hg (N := 6) ?hd (cs := #[.slice none 0 0]) (t := 30) ?hr ?_; (case hd => rfl); (case hg => rfl); (case hr => first | (go_simp; done) | (go_simp; rfl)); intro gb188 hg w17 hbox hb; have BK188 := Aside0.mk hbox; have GW188 := ge_ HB hg; have GE188 := ge_ HB hg; have NB178_188 := nl_ BK178 hg; have NB188_178 := ng_ BK178 hg; have NB179_188 := nl_ BK179 hg; have NB188_179 := ng_ BK179 hg; have NB180_188 := nl_ BK180 hg; have NB188_180 := ng_ BK180 hg; replace HO187 := rb_ HO187 hb; replace HB := Aside0.mk (bt_ HB hb); replace BK178 := Aside0.mk (bb_ BK178 hb); replace BK179 := Aside0.mk (bb_ BK179 hb); replace BK180 := Aside0.mk (bb_ BK180 hb); clear hb hbox hg; obtain ⟨Ao18, co18, eo18⟩ := Kd.R_slice HO187.out; subst eo18; have hnb19 := NB188_178.out; have hnc19 := NB178_188.out; have hnb20 := NB188_179.out; have hnc20 := NB179_188.out; have hnb21 := NB188_180.out; have hnc21 := NB180_188.out; have hcz22_0 := cz_ BK188 0 (.slice none 0 0); have hfz22_0 := blk_frozen BK188.out 0) | ((with_reducible refine gate_dst (N := 7) rfl ?_); refine box_event ?hg (N := 7) ?hd (cs := #[.slice none 0 0]) (t := 30) ?hr ?_; (case hd => rfl); (case hg => rfl); (case hr => first | (go_simp; done) | (go_simp; rfl)); intro gb189 hg w23 hbox hb; have BK189 := Aside0.mk hbox; have GW189 := ge_ HB hg; have GE189 := ge_ HB hg; have NB178_189 := Aside0.mk ((by rw [hg]; exact Nat.ne_of_lt (bg_ BK178 NB178_188) : gb178 ≠ gb189)); have NB189_178 := Aside0.mk ((by rw [hg]; exact Nat.ne_of_gt (bg_ BK178 NB178_188) : gb189 ≠ gb178)); have NB179_189 := Aside0.mk ((by rw [hg]; exact Nat.ne_of_lt (bg_ BK179 NB179_188) : gb179 ≠ gb189)); have NB189_179 := Aside0.mk ((by rw [hg]; exact Nat.ne_of_gt (bg_ BK179 NB179_188) : gb189 ≠ gb179)); have NB180_189 := Aside0.mk ((by rw [hg]; exact Nat.ne_of_lt (bg_ BK180 NB180_188) : gb180 ≠ gb189)); have NB189_180 := Aside0.mk ((by rw [hg]; exact Nat.ne_of_gt (bg_ BK180 NB180_188) : gb189 ≠ gb180)); have NB188_189 := Aside0.mk ((by rw [hg]; exact Nat.ne_of_lt (blk_lt (g := gb188) (o := .cells #[.slice Ao18 t185.length co18] 30 (0, 0)) (by (with_reducible repeat (first | refine blk_drewN ?_ _ | refine blk_drew ?_ | refine blk_alloc ?_ _)); refine blk_put (cs := #[.slice none 0 0]) ?_ 0 _ rfl; (with_reducible repeat (first | refine blk_drewN ?_ _ | refine blk_drew ?_ | refine blk_alloc ?_ _)); exact BK188.out)) : gb188 ≠ gb189)); have NB189_188 := Aside0.mk ((by rw [hg]; exact Nat.ne_of_gt (blk_lt (g := gb188) (o := .cells #[.slice Ao18 t185.length co18] 30 (0, 0)) (by (with_reducible repeat (first | refine blk_drewN ?_ _ | refine blk_drew ?_ | refine blk_alloc ?_ _)); refine blk_put (cs := #[.slice none 0 0]) ?_ 0 _ rfl; (with_reducible repeat (first | refine blk_drewN ?_ _ | refine blk_drew ?_ | refine blk_alloc ?_ _)); exact BK188.out)) : gb189 ≠ gb188)); replace HO187 := rs_ HO187 BK188 hb; replace HB := Aside0.mk (bt_ HB hb); replace BK178 := bf_ BK178 NB178_188 hb; replace BK179 := bf_ BK179 NB179_188 hb; replace BK180 := bf_ BK180 NB180_188 hb; replace BK188 := Aside0.mk (blk_below (g := gb188) (o := .cells #[.slice Ao18 t185.length co18] 30 (0, 0)) (by (with_reducible repeat (first | refine blk_drewN ?_ _ | refine blk_drew ?_ | refine blk_alloc ?_ _)); refine blk_put (cs := #[.slice none 0 0]) ?_ 0 _ rfl; (with_reducible repeat (first | refine blk_drewN ?_ _ | refine blk_drew ?_ | refine blk_alloc ?_ _)); exact BK188.out) hb); clear hb hbox hg; have hnb24 := NB189_178.out; have hnc24 := NB178_189.out; have hnb25 := NB189_179.out; have hnc25 := NB179_189.out; have hnb26 := NB189_180.out; have hnc26 := NB180_189.out; have hnb27 := NB189_188.out; have hnc27 := NB188_189.out; have hcz28_0 := cz_ BK189 0 (.slice none 0 0); have hfz28_0 := blk_frozen BK189.out 0))
  (try simp only [Act.put, List.setIfInBounds_toArray, List.set_cons_zero, List.set_cons_succ])
  go_loopg [8, 9] k (fun kq v8 v9 w' => ∃ (x8_1 : Bool) (x9_1 : Int) (x190000_1 : List (S43)) (u190000 : Value), v8 = .bool x8_1 ∧ v9 = .int .i64 x9_1 ∧ Aside0 (spec_PutRoute.l0 kq x8_1 x9_1 l0_0 a1_0 a1_1 a1_2 t185 x190000_1 = some (r1, r2)) ∧ Aside0 (kq ≤ k) ∧ Aside0 (Kd.R k43 43 w' w.heap.size (fun k_ => some k_ ≠ (u190000 : Value).ownBlock ∧ k_ ≠ gb179) (.slice Ao18 t185.length co18) t185) ∧ Aside0 (Kd.R k43 43 w' w.heap.size (fun k_ => some k_ ≠ ((.slice Ao18 t185.length co18) : Value).ownBlock ∧ k_ ≠ gb179) u190000 x190000_1) ∧ Aside0 (w'.heap[gb178]? = some (.cells #[(.slice A0_0 l0_0.length c0_0)] 30 (0, 0))) ∧ Aside0 (w'.heap[gb179]? = some (.cells #[.int .i64 a1_0, .int .i64 a1_1, .int .i64 a1_2] 43 (0, 0))) ∧ Aside0 (w'.heap[gb180]? = some (.cells #[(.slice none 0 0)] 30 (0, 0))) ∧ Aside0 (w'.heap[gb188]? = some (.cells #[(.slice Ao18 t185.length co18)] 30 (0, 0))) ∧ Aside0 (w'.heap[gb189]? = some (.cells #[u190000] 30 (0, 0))) ∧ Aside0 (Below w.heap.size w w'))
  case atStart => exact ⟨(false), (0), (([] : List (S43))), (.slice none 0 0), (by first | rfl | (simp; done) | (simp [*]; done)), (by first | rfl | (simp; done) | (simp [*]; done)), H', ⟨Nat.le_refl _⟩, ⟨by (with_reducible repeat (first | apply Kd.R_alloc | apply Kd.R_drewN | apply Kd.R_drew)); exact Kd.R_mono (Kd.R_far (p := ⟨gb189, 0, none⟩) (Kd.R_types HO187.out BK189.out (by decide)) (fun _ hk => hk.2) (.slice none 0 0)) (fun _ hk => ⟨(by simp [Value.ownBlock]), hk.1.2⟩)⟩, ⟨by first | exact Kd.R_nil _ _ _ _ _ | exact Kd.N_nil _ _ _ _ _ | exact Kd.V_nil _ _ _ _ _ | exact Kd.Q_nil _ _ _ _ _ | exact Kd.S_nil _ _ _ _ _⟩, ⟨by (with_reducible repeat (first | refine blk_drewN ?_ _ | refine blk_drew ?_ | refine blk_alloc ?_ _)); refine blk_far ?_ NB178_189.out _; (with_reducible repeat (first | refine blk_drewN ?_ _ | refine blk_drew ?_ | refine blk_alloc ?_ _)); exact BK178.out⟩, ⟨by (with_reducible repeat (first | refine blk_drewN ?_ _ | refine blk_drew ?_ | refine blk_alloc ?_ _)); refine blk_far ?_ NB179_189.out _; (with_reducible repeat (first | refine blk_drewN ?_ _ | refine blk_drew ?_ | refine blk_alloc ?_ _)); exact BK179.out⟩, ⟨by (with_reducible repeat (first | refine blk_drewN ?_ _ | refine blk_drew ?_ | refine blk_alloc ?_ _)); refine blk_far ?_ NB180_189.out _; (with_reducible repeat (first | refine blk_drewN ?_ _ | refine blk_drew ?_ | refine blk_alloc ?_ _)); exact BK180.out⟩, ⟨by (with_reducible repeat (first | refine blk_drewN ?_ _ | refine blk_drew ?_ | refine blk_alloc ?_ _)); refine blk_far ?_ NB188_189.out _; (with_reducible repeat (first | refine blk_drewN ?_ _ | refine blk_drew ?_ | refine blk_alloc ?_ _)); exact BK188.out⟩, ⟨by (with_reducible repeat (first | refine blk_drewN ?_ _ | refine blk_drew ?_ | refine blk_alloc ?_ _)); refine blk_put (cs := #[.slice none 0 0]) ?_ 0 _ rfl; (with_reducible repeat (first | refine blk_drewN ?_ _ | refine blk_drew ?_ | refine blk_alloc ?_ _)); exact BK189.out⟩, ⟨by repeat (first | (with_reducible first | exact HB.out | apply below_alloc | apply pw_below_drewN | apply below_drew1 | refine below_set ?_ GE178.out | refine below_set ?_ GE179.out | refine below_set ?_ GE180.out | refine below_set ?_ GE188.out | refine below_set ?_ GE189.out) | exact HB.out)⟩⟩
  case round =>
   clear H'
   try clear c1
   try clear c2
   try clear p2
   try clear c4
   try clear c9
   try clear c10
   try clear c14
   try clear c15
   try clear c19
   try clear c20
   try clear c21
   try clear c24
   try clear c25
   try clear c26
   try clear c27
   try clear hcz11_0
   try clear hcz13_0
   try clear hcz15_0
   try clear hcz15_1
   try clear hcz15_2
   try clear hcz22_0
   try clear hcz28_0
   try clear hfz11_0
   try clear hfz13_0
   try clear hfz15_0
   try clear hfz15_1
   try clear hfz15_2
   try clear hfz22_0
   try clear hfz28_0
   obtain ⟨x8_1, x9_1, x190000_1, u190000, rfl, rfl, HA, HK1, HO_189000, HO_190000, BK178, BK179, BK180, BK188, BK189, HB⟩ := hrel
   cases gk with
   | zero => exact absurd HA.out (by simp [spec_PutRoute.l0])
   | succ k1 =>
    have H := HA.out
    clear HA
    simp only [spec_PutRoute.l0] at H
    by_cases c29 : x9_1 < (t185.length : Int)
    ·rw [if_pos c29] at H
     have c29b0 : decide (x9_1 < (t185.length : Int)) = true := decide_eq_true c29
     clear c29
     by_cases c30 : x8_1 = true
     ·subst c30
      rw [if_pos rfl] at H
      by_cases c31 : 0 ≤ x9_1
      ·rw [if_pos c31] at H
       have c31b0 : decide (0 ≤ x9_1) = true := decide_eq_true c31
       clear c31
       by_cases c32 : x190000_1.length < 5864062014805
       ·rw [if_pos c32] at H
        have LMc32 := Aside0.mk c32
        clear c32
        obtain ⟨y191, hy191⟩ : ∃ y_ : List (S43), y_ = (x190000_1 ++ [(⟨(⟨(rd_T43 t185 x9_1).f0.f0, (rd_T43 t185 x9_1).f0.f1⟩ : S34), (rd_T43 t185 x9_1).f1⟩ : S43)]) := ⟨_, rfl⟩
        replace H : (spec_PutRoute.l0 k1 true (wrap64 (x9_1 + 1)) l0_0 a1_0 a1_1 a1_2 t185 y191) = some (r1, r2) := by first | (rw [hy191]; with_reducible exact H) | (have H2_ := (Option.bind_some _ _).symm.trans H; rw [hy191]; with_reducible exact H2_) | (have H2_ := (Option.bind_some _ _).symm.trans H; with_reducible exact H2_) | with_reducible exact H | (rw [hy191]; exact H) | exact H
        have Ny191 := Aside0.mk hy191
        clear hy191
        have H' := Aside0.mk H
        clear H
        have hnb33 := NB188_178.out
        have hnc33 := NB178_188.out
        have hnb34 := NB188_179.out
        have hnc34 := NB179_188.out
        have hnb35 := NB188_180.out
        have hnc35 := NB180_188.out
        have hnb36 := NB188_189.out
        have hnc36 := NB189_188.out
        have hcz37_0 := cz_ BK188 0 (.slice Ao18 t185.length co18)
        have hfz37_0 := blk_frozen BK188.out 0
        try go_wp2
        replace HO_189000 := Aside0.mk (Kd.R_drew HO_189000.out)
        replace HO_190000 := Aside0.mk (Kd.R_drew HO_190000.out)
        replace BK178 := Aside0.mk (blk_drew BK178.out)
        replace BK179 := Aside0.mk (blk_drew BK179.out)
        replace BK180 := Aside0.mk (blk_drew BK180.out)
        replace BK188 := Aside0.mk (blk_drew BK188.out)
        replace BK189 := Aside0.mk (blk_drew BK189.out)
        replace HB := Aside0.mk (below_drew1 HB.out)
        refine start_ (n := 13) (S := fun w' => True) (ds := []) ba7_0 (by kernel_rfl) rfl rfl trivial (fun hHeld => ?_); refine with_tabW spec_PutRoute.tab9 spec_PutRoute.bits9 (fun HT_ HW_ => ?_)
        generalize wr.drew = w38 at HO_189000 HO_190000 BK178 BK179 BK180 BK188 BK189 HB hHeld ⊢
        refine pz_ 0 27 ba7_1 HT_ ?_
        refine pz_ 1 28 ba7_2 HT_ ?_
        refine pz_ 2 29 ba7_3 HT_ ?_
        refine pu_ 3 30 ba7_4 HT_ ?_
        refine pu_ 4 31 ba7_5 HT_ ?_
        refine pu_ 5 32 ba7_6 HT_ ?_
        refine pu_ 6 33 ba7_7 HT_ ?_
        refine pu_ 7 34 ba7_8 HT_ ?_
        refine pu_ 8 35 ba7_9 HT_ ?_
        refine pu_ 9 36 ba7_10 HT_ ?_
        refine pu_ 10 37 ba7_11 HT_ ?_
        refine pu_ 11 38 ba7_12 HT_ ?_
        refine pz_ 12 39 ba7_13 HT_ ?_
        refine done_ (done_of HT_.out (by kernel_rfl)) ?_
        try go_wp2
        replace HO_189000 := Aside0.mk (Kd.R_drew HO_189000.out)
        replace HO_190000 := Aside0.mk (Kd.R_drew HO_190000.out)
        replace BK178 := Aside0.mk (blk_drew BK178.out)
        replace BK179 := Aside0.mk (blk_drew BK179.out)
        replace BK180 := Aside0.mk (blk_drew BK180.out)
        replace BK188 := Aside0.mk (blk_drew BK188.out)
        replace BK189 := Aside0.mk (blk_drew BK189.out)
        replace HB := Aside0.mk (below_drew1 HB.out)
        have p190 : 0 ≤ (x9_1 : Int) := of_decide_eq_true (by first | (with_reducible assumption) | assumption)
        have q190 : x9_1 < (t185.length : Int) := of_decide_eq_true (by first | (with_reducible assumption) | assumption)
        obtain ⟨ad190, e190, hx190_0, hx190_1, hx190_2⟩ := at_T43 (Kd.R_reads' HO_189000.out).2.2 x9_1 p190 q190
        cases e190
        replace p190 := eq_true p190
        replace q190 := eq_true q190
        refine start_ (n := 11) (S := fun w' => w'.cell? ⟨gb189, 0, none⟩ = some (u190000) ∧ w'.cell? ⟨gb188, 0, none⟩ = some (.slice (some ad190) t185.length co18) ∧ w'.cell? (ad190.add ((x9_1).toNat * 3)) = some (.int .i64 ((rd_T43 t185 x9_1).f0.f0)) ∧ w'.cell? ⟨(ad190.add ((x9_1).toNat * 3)).block, (ad190.add ((x9_1).toNat * 3)).off + 1, none⟩ = some (.int .i64 ((rd_T43 t185 x9_1).f0.f1)) ∧ w'.cell? ⟨(ad190.add ((x9_1).toNat * 3)).block, (ad190.add ((x9_1).toNat * 3)).off + 2, none⟩ = some (.int .i64 ((rd_T43 t185 x9_1).f1))) (ds := [8, 10]) ba7_14 (by kernel_rfl) rfl rfl ⟨(blk_cell BK189.out 0).trans rfl, (blk_cell BK188.out 0).trans rfl, hx190_0, hx190_1, hx190_2⟩ (fun hHeld => ?_); refine with_tabW spec_PutRoute.tab12 spec_PutRoute.bits12 (fun HT_ HW_ => ?_)
        generalize w38.drew = w39 at HO_189000 HO_190000 BK178 BK179 BK180 BK188 BK189 HB hx190_0 hx190_1 hx190_2 hHeld ⊢
        refine pz_ 0 46 ba7_15 HT_ ?_
        refine pz_ 2 48 ba7_16 HT_ ?_
        refine pz_ 4 50 ba7_17 HT_ ?_
        refine pt_ 1 47 ba7_18 HT_ HW_ hHeld ?_
        refine pt_ 3 49 ba7_19 HT_ HW_ hHeld ?_
        refine pz_ 5 51 ba7_20 HT_ ?_
        refine pt_ 6 52 ba7_21 HT_ HW_ hHeld ?_
        refine one_ (i := 7) (N := some 53) ba7_22 rfl rfl (one_of HT_.out (by kernel_rfl)) (by decide) (fun K hK => ?_)
        refine value_ (w1 := ?_) (v := ?_) (by rfl) rfl ?_ ?_
        rotate_left 2
        ·go_simp
         constructor
         ·rfl
         ·rfl
        refine hK.out _ _ ⟨(blk_cell (blk_alloc BK189.out _) 0).trans rfl, (blk_cell (blk_alloc BK188.out _) 0).trans rfl, (World.cell?_alloc_lt _ _ _ (World.block_lt_of_cell? _ _ (hHeld.2.2.1))).trans (hHeld.2.2.1), (World.cell?_alloc_lt _ _ _ (World.block_lt_of_cell? _ _ (hHeld.2.2.2.1))).trans (hHeld.2.2.2.1), (World.cell?_alloc_lt _ _ _ (World.block_lt_of_cell? _ _ (hHeld.2.2.2.2))).trans (hHeld.2.2.2.2)⟩ (fun hHeld => ?_)
        clear hK K
        refine nz_ 53 ?_
        refine last_ (i := 8) (N := some 54) ba7_23 rfl rfl (one_of HT_.out (by kernel_rfl)) (by decide) (fun K hK => ?_)
        refine Kd.R_append_step k43 (w0 := w) w.heap.size (by rfl) (.tmp 47) (.tmp 53) 28 43 (.agg #[(.int .i64 0), (.int .i64 0), (.int .i64 0)]) 24 rfl Try.underlying28 info43 rfl (by decide) (by omega) u190000 x190000_1 (⟨(⟨(rd_T43 t185 x9_1).f0.f0, (rd_T43 t185 x9_1).f0.f1⟩ : S34), (rd_T43 t185 x9_1).f1⟩ : S43) [.int .i64 ((rd_T43 t185 x9_1).f0.f0), .int .i64 ((rd_T43 t185 x9_1).f0.f1), .int .i64 ((rd_T43 t185 x9_1).f1)] (fun k_ => some k_ ≠ (.slice (some ad190) t185.length co18 : Value).ownBlock ∧ k_ ≠ gb179) (fun _ => False) rfl rfl ?aP (fun _ hk => hk.elim) ?aF ?aO ?aB ?aS ?aL ?_
        (case aP => exact k43_mkM _ _ _ (⟨(⟨(rd_T43 t185 x9_1).f0.f0, (rd_T43 t185 x9_1).f0.f1⟩ : S34), (rd_T43 t185 x9_1).f1⟩ : S43))
        (case aB => exact (by repeat (first | (with_reducible first | exact HB.out | apply below_alloc | apply pw_below_drewN | apply below_drew1 | refine below_set ?_ GE178.out | refine below_set ?_ GE179.out | refine below_set ?_ GE180.out | refine below_set ?_ GE188.out | refine below_set ?_ GE189.out) | exact HB.out)))
        (case aF => exact (fun k_ hk => ⟨Kd.fresh' (Kd.R_lt (hd_ HO_189000)) k_ hk, Kd.freshB (g := gb179) (o := .cells #[.int .i64 a1_0, .int .i64 a1_1, .int .i64 a1_2] 43 (0, 0)) (by (with_reducible repeat (first | refine blk_drewN ?_ _ | refine blk_drew ?_ | refine blk_alloc ?_ _)); exact BK179.out) k_ hk⟩))
        (case aO => exact (hd_ HO_190000))
        (case aS => exact (bz_ HB))
        (case aL => have := LMc32.out; omega)
        intro v192 w40 ho hb hg hat
        rw [← Ny191.out] at ho
        have HO193 := Aside0.mk ho
        replace HO_189000 := Aside0.mk (Kd.R_after (ok := (fun k_ => k_ ≠ gb179)) (by (with_reducible repeat (first | apply Kd.R_alloc | apply Kd.R_drewN | apply Kd.R_drew)); exact Kd.R_mono HO_189000.out (fun _ hk => by first | exact ⟨hk.2, hk.1⟩ | grind)) hg hat)
        replace BK178 := Aside0.mk (blk_grown (g := gb178) (o := .cells #[.slice A0_0 l0_0.length c0_0] 30 (0, 0)) (by (with_reducible repeat (first | refine blk_drewN ?_ _ | refine blk_drew ?_ | refine blk_alloc ?_ _)); exact BK178.out) hg (Kd.R_ne HO_190000.out BK178.out (by decide)))
        replace BK179 := Aside0.mk (blk_grown (g := gb179) (o := .cells #[.int .i64 a1_0, .int .i64 a1_1, .int .i64 a1_2] 43 (0, 0)) (by (with_reducible repeat (first | refine blk_drewN ?_ _ | refine blk_drew ?_ | refine blk_alloc ?_ _)); exact BK179.out) hg (Kd.R_away HO_190000.out (fun _ hk => hk.2)))
        replace BK180 := Aside0.mk (blk_grown (g := gb180) (o := .cells #[.slice none 0 0] 30 (0, 0)) (by (with_reducible repeat (first | refine blk_drewN ?_ _ | refine blk_drew ?_ | refine blk_alloc ?_ _)); exact BK180.out) hg (Kd.R_ne HO_190000.out BK180.out (by decide)))
        replace BK188 := Aside0.mk (blk_grown (g := gb188) (o := .cells #[.slice (some ad190) t185.length co18] 30 (0, 0)) (by (with_reducible repeat (first | refine blk_drewN ?_ _ | refine blk_drew ?_ | refine blk_alloc ?_ _)); exact BK188.out) hg (Kd.R_ne HO_190000.out BK188.out (by decide)))
        replace BK189 := Aside0.mk (blk_grown (g := gb189) (o := .cells #[u190000] 30 (0, 0)) (by (with_reducible repeat (first | refine blk_drewN ?_ _ | refine blk_drew ?_ | refine blk_alloc ?_ _)); exact BK189.out) hg (Kd.R_ne HO_190000.out BK189.out (by decide)))
        replace HB := Aside0.mk (hb)
        clear HO_190000
        clear ho hb hg hat
        obtain ⟨Ao41, co41, eo41⟩ := Kd.R_slice HO193.out
        (first | subst eo41 | (injection eo41 with f1_ f2_ f3_; have f4_ := f1_.symm; have f5_ := f3_.symm; clear f1_ f2_ f3_; subst f4_; subst f5_))
        refine hK.out _ _ ?_
        clear hK K
        refine nz_ 54 ?_
        refine pz_ 9 55 ba7_24 HT_ ?_
        refine last_ (i := 10) (N := none) ba7_25 rfl rfl (one_of HT_.out (by kernel_rfl)) (by decide) (fun K hK => ?_)
        have hs42 : w40.cell? ⟨gb189, 0, none⟩ = some (u190000) := (blk_cell BK189.out 0).trans rfl
        have hfs42 := blk_frozen BK189.out 0
        have hns42_0 := NB178_189.out
        have hns42_1 := NB179_189.out
        have hns42_2 := NB180_189.out
        have hns42_3 := NB188_189.out
        have hms42_0 := NB189_178.out
        have hms42_1 := NB189_179.out
        have hms42_2 := NB189_180.out
        have hms42_3 := NB189_188.out
        refine skip_ (w1 := ?_) (by rfl) rfl ?_ ?_
        rotate_left; · go_simp; rfl
        refine hK.out _ _ ?_
        clear hK K
        refine done_ (done_of HT_.out (by kernel_rfl)) ?_
        try go_wp2
        go_roundg k1
        case measure => have := HK1.out; omega
        case rel => exact ⟨(true), (wrap64 (x9_1 + 1)), (y191), (.slice Ao41 y191.length co41), (by first | rfl | (simp; done) | (simp [*]; done)), (by first | rfl | (simp; done) | (simp [*]; done)), H', ⟨by have := HK1.out; omega⟩, ⟨by (with_reducible repeat (first | apply Kd.R_alloc | apply Kd.R_drewN | apply Kd.R_drew)); exact Kd.R_mono (Kd.R_far (p := ⟨gb189, 0, none⟩) (Kd.R_types HO_189000.out BK189.out (by decide)) (fun _ hk => hk.2) (.slice Ao41 y191.length co41)) (fun _ hk => by first | exact ⟨hk.1.2, hk.1.1⟩ | grind)⟩, ⟨by (with_reducible repeat (first | apply Kd.R_alloc | apply Kd.R_drewN | apply Kd.R_drew)); exact Kd.R_mono (Kd.R_far (p := ⟨gb189, 0, none⟩) (Kd.R_types HO193.out BK189.out (by decide)) (fun _ hk => hk.2) (.slice Ao41 y191.length co41)) (fun _ hk => by first | exact ⟨hk.1.1, hk.1.2⟩ | grind)⟩, ⟨by (with_reducible repeat (first | refine blk_drewN ?_ _ | refine blk_drew ?_ | refine blk_alloc ?_ _)); refine blk_far ?_ NB178_189.out _; (with_reducible repeat (first | refine blk_drewN ?_ _ | refine blk_drew ?_ | refine blk_alloc ?_ _)); exact BK178.out⟩, ⟨by (with_reducible repeat (first | refine blk_drewN ?_ _ | refine blk_drew ?_ | refine blk_alloc ?_ _)); refine blk_far ?_ NB179_189.out _; (with_reducible repeat (first | refine blk_drewN ?_ _ | refine blk_drew ?_ | refine blk_alloc ?_ _)); exact BK179.out⟩, ⟨by (with_reducible repeat (first | refine blk_drewN ?_ _ | refine blk_drew ?_ | refine blk_alloc ?_ _)); refine blk_far ?_ NB180_189.out _; (with_reducible repeat (first | refine blk_drewN ?_ _ | refine blk_drew ?_ | refine blk_alloc ?_ _)); exact BK180.out⟩, ⟨by (with_reducible repeat (first | refine blk_drewN ?_ _ | refine blk_drew ?_ | refine blk_alloc ?_ _)); refine blk_far ?_ NB188_189.out _; (with_reducible repeat (first | refine blk_drewN ?_ _ | refine blk_drew ?_ | refine blk_alloc ?_ _)); exact BK188.out⟩, ⟨by (with_reducible repeat (first | refine blk_drewN ?_ _ | refine blk_drew ?_ | refine blk_alloc ?_ _)); refine blk_put (cs := #[u190000]) ?_ 0 _ rfl; (with_reducible repeat (first | refine blk_drewN ?_ _ | refine blk_drew ?_ | refine blk_alloc ?_ _)); exact BK189.out⟩, ⟨by repeat (first | (with_reducible first | exact HB.out | apply below_alloc | apply pw_below_drewN | apply below_drew1 | refine below_set ?_ GE178.out | refine below_set ?_ GE179.out | refine below_set ?_ GE180.out | refine below_set ?_ GE188.out | refine below_set ?_ GE189.out) | exact HB.out)⟩⟩
       ·rw [if_neg c32] at H
        exact absurd H (by simp)
      ·rw [if_neg c31] at H
       exact absurd H (by simp)
     ·replace c30 := Bool.eq_false_iff.mpr c30
      subst c30
      rw [if_neg (show ¬ (false = true) by decide)] at H
      by_cases c43 : 0 ≤ x9_1
      ·rw [if_pos c43] at H
       have c43b0 : decide (0 ≤ x9_1) = true := decide_eq_true c43
       clear c43
       replace H := Option.bind_eq_some_iff.mp H
       obtain ⟨t195, A440, H⟩ := H
       have A44 := Aside0.mk A440
       clear A440
       by_cases c45 : t195 = true
       ·subst c45
        rw [if_pos rfl] at H
        by_cases c46 : x190000_1.length < 5864062014805
        ·rw [if_pos c46] at H
         have LMc46 := Aside0.mk c46
         clear c46
         obtain ⟨y196, hy196⟩ : ∃ y_ : List (S43), y_ = (x190000_1 ++ [(⟨(⟨a1_0, a1_1⟩ : S34), a1_2⟩ : S43)]) := ⟨_, rfl⟩
         replace H : (if y196.length < 5864062014805 then (spec_PutRoute.l0 k1 true (wrap64 (x9_1 + 1)) l0_0 a1_0 a1_1 a1_2 t185 (y196 ++ [(⟨(⟨(rd_T43 t185 x9_1).f0.f0, (rd_T43 t185 x9_1).f0.f1⟩ : S34), (rd_T43 t185 x9_1).f1⟩ : S43)])) else (none)) = some (r1, r2) := by first | (rw [hy196]; with_reducible exact H) | (have H2_ := (Option.bind_some _ _).symm.trans H; rw [hy196]; with_reducible exact H2_) | (have H2_ := (Option.bind_some _ _).symm.trans H; with_reducible exact H2_) | with_reducible exact H | (rw [hy196]; exact H) | exact H
         have Ny196 := Aside0.mk hy196
         clear hy196
         by_cases c47 : y196.length < 5864062014805
         ·rw [if_pos c47] at H
          have LMc47 := Aside0.mk c47
          clear c47
          obtain ⟨y200, hy200⟩ : ∃ y_ : List (S43), y_ = (y196 ++ [(⟨(⟨(rd_T43 t185 x9_1).f0.f0, (rd_T43 t185 x9_1).f0.f1⟩ : S34), (rd_T43 t185 x9_1).f1⟩ : S43)]) := ⟨_, rfl⟩
          replace H : (spec_PutRoute.l0 k1 true (wrap64 (x9_1 + 1)) l0_0 a1_0 a1_1 a1_2 t185 y200) = some (r1, r2) := by first | (rw [hy200]; with_reducible exact H) | (have H2_ := (Option.bind_some _ _).symm.trans H; rw [hy200]; with_reducible exact H2_) | (have H2_ := (Option.bind_some _ _).symm.trans H; with_reducible exact H2_) | with_reducible exact H | (rw [hy200]; exact H) | exact H
          have Ny200 := Aside0.mk hy200
          clear hy200
          have H' := Aside0.mk H
          clear H
          have hnb48 := NB188_178.out
          have hnc48 := NB178_188.out
          have hnb49 := NB188_179.out
          have hnc49 := NB179_188.out
          have hnb50 := NB188_180.out
          have hnc50 := NB180_188.out
          have hnb51 := NB188_189.out
          have hnc51 := NB189_188.out
          have hcz52_0 := cz_ BK188 0 (.slice Ao18 t185.length co18)
          have hfz52_0 := blk_frozen BK188.out 0
          try go_wp2
          replace HO_189000 := Aside0.mk (Kd.R_drew HO_189000.out)
          replace HO_190000 := Aside0.mk (Kd.R_drew HO_190000.out)
          replace BK178 := Aside0.mk (blk_drew BK178.out)
          replace BK179 := Aside0.mk (blk_drew BK179.out)
          replace BK180 := Aside0.mk (blk_drew BK180.out)
          replace BK188 := Aside0.mk (blk_drew BK188.out)
          replace BK189 := Aside0.mk (blk_drew BK189.out)
          replace HB := Aside0.mk (below_drew1 HB.out)
          have p194 : 0 ≤ (x9_1 : Int) := of_decide_eq_true (by first | (with_reducible assumption) | assumption)
          have q194 : x9_1 < (t185.length : Int) := of_decide_eq_true (by first | (with_reducible assumption) | assumption)
          obtain ⟨ad194, e194, hx194_0, hx194_1, hx194_2⟩ := at_T43 (Kd.R_reads' HO_189000.out).2.2 x9_1 p194 q194
          cases e194
          replace p194 := eq_true p194
          replace q194 := eq_true q194
          refine start_ (n := 13) (S := fun w' => w'.cell? ⟨gb179, 0, none⟩ = some (.int .i64 a1_0) ∧ w'.cell? ⟨gb179, 1, none⟩ = some (.int .i64 a1_1) ∧ w'.cell? ⟨gb179, 2, none⟩ = some (.int .i64 a1_2) ∧ w'.cell? ⟨gb188, 0, none⟩ = some (.slice (some ad194) t185.length co18) ∧ w'.cell? (ad194.add ((x9_1).toNat * 3)) = some (.int .i64 ((rd_T43 t185 x9_1).f0.f0)) ∧ w'.cell? ⟨(ad194.add ((x9_1).toNat * 3)).block, (ad194.add ((x9_1).toNat * 3)).off + 1, none⟩ = some (.int .i64 ((rd_T43 t185 x9_1).f0.f1)) ∧ w'.cell? ⟨(ad194.add ((x9_1).toNat * 3)).block, (ad194.add ((x9_1).toNat * 3)).off + 2, none⟩ = some (.int .i64 ((rd_T43 t185 x9_1).f1))) (ds := []) ba7_0 (by kernel_rfl) rfl rfl ⟨(blk_cell BK179.out 0).trans rfl, (blk_cell BK179.out 1).trans rfl, (blk_cell BK179.out 2).trans rfl, (blk_cell BK188.out 0).trans rfl, hx194_0, hx194_1, hx194_2⟩ (fun hHeld => ?_); refine with_tabW spec_PutRoute.tab9 spec_PutRoute.bits9 (fun HT_ HW_ => ?_)
          generalize wr.drew = w53 at HO_189000 HO_190000 BK178 BK179 BK180 BK188 BK189 HB hx194_0 hx194_1 hx194_2 hHeld ⊢
          refine pz_ 0 27 ba7_1 HT_ ?_
          refine pz_ 1 28 ba7_2 HT_ ?_
          refine pz_ 2 29 ba7_3 HT_ ?_
          refine pz_ 3 30 ba7_4 HT_ ?_
          refine pz_ 5 32 ba7_26 HT_ ?_
          refine pz_ 7 34 ba7_27 HT_ ?_
          refine pt_ 4 31 ba7_28 HT_ HW_ hHeld ?_
          refine pt_ 6 33 ba7_8 HT_ HW_ hHeld ?_
          refine pz_ 8 35 ba7_9 HT_ ?_
          refine pz_ 9 36 ba7_10 HT_ ?_
          refine pt_ 10 37 ba7_11 HT_ HW_ hHeld ?_
          refine one_ (i := 11) (N := some 38) ba7_12 rfl rfl (one_of HT_.out (by kernel_rfl)) (by decide) (fun K hK => ?_)
          refine gz_ Try.func37 #[.agg #[.int .i64 a1_0, .int .i64 a1_1], .agg #[.int .i64 ((rd_T43 t185 x9_1).f0.f0), .int .i64 ((rd_T43 t185 x9_1).f0.f1)]] ?_
          with_reducible refine (spec_l02Ahead.calls a1_0 a1_1 ((rd_T43 t185 x9_1).f0.f0) ((rd_T43 t185 x9_1).f0.f1) true _ A44.out).mono ?_
          rintro e w54 ⟨rfl, hb⟩
          have HS4_ := (hb.cell (World.block_lt_of_cell? _ _ (hHeld.2.2.2.2.1))).trans (hHeld.2.2.2.2.1)
          have HS5_ := (hb.cell (World.block_lt_of_cell? _ _ (hHeld.2.2.2.2.2.1))).trans (hHeld.2.2.2.2.2.1)
          have HS6_ := (hb.cell (World.block_lt_of_cell? _ _ (hHeld.2.2.2.2.2.2))).trans (hHeld.2.2.2.2.2.2)
          refine ⟨_, rfl, ?_⟩
          replace HO_189000 := rb_ HO_189000 hb
          replace HO_190000 := rb_ HO_190000 hb
          replace BK178 := Aside0.mk (bb_ BK178 hb)
          replace BK179 := Aside0.mk (bb_ BK179 hb)
          replace BK180 := Aside0.mk (bb_ BK180 hb)
          replace BK188 := Aside0.mk (bb_ BK188 hb)
          replace BK189 := Aside0.mk (bb_ BK189 hb)
          replace HB := Aside0.mk (bt_ HB hb)
          (try clear hb)
          (try clear hb2)
          (try clear hk)
          (try clear hi)
          refine hK.out _ _ ⟨(blk_cell BK179.out 0).trans rfl, (blk_cell BK179.out 1).trans rfl, (blk_cell BK179.out 2).trans rfl, (blk_cell BK188.out 0).trans rfl, HS4_, HS5_, HS6_⟩ (fun hHeld => ?_)
          clear hK K
          refine nz_ 38 ?_
          refine pz_ 12 39 ba7_13 HT_ ?_
          refine done_ (done_of HT_.out (by kernel_rfl)) ?_
          have hnb55 := NB189_178.out
          have hnc55 := NB178_189.out
          have hnb56 := NB189_179.out
          have hnc56 := NB179_189.out
          have hnb57 := NB189_180.out
          have hnc57 := NB180_189.out
          have hcz58_0 := cz_ BK189 0 (u190000)
          have hfz58_0 := blk_frozen BK189.out 0
          have hnb59 := NB179_178.out
          have hnc59 := NB178_179.out
          have hnb60 := NB179_180.out
          have hnc60 := NB180_179.out
          have hcz61_0 := cz_ BK179 0 (.int .i64 a1_0)
          have hcz61_1 := cz_ BK179 1 (.int .i64 a1_1)
          have hcz61_2 := cz_ BK179 2 (.int .i64 a1_2)
          have hfz61_0 := blk_frozen BK179.out 0
          have hfz61_1 := blk_frozen BK179.out 1
          have hfz61_2 := blk_frozen BK179.out 2
          try go_wp2_with (first | ((with_reducible refine gate_builtin (b := .append) (xs := #[.tmp 41, .tmp 43]) rfl ?_); at_builtin; refine Kd.R_append k43 (w0 := w) w.heap.size rfl (.tmp 41) (.tmp 43) 28 43 (.agg #[(.int .i64 0), (.int .i64 0), (.int .i64 0)]) 24 rfl Try.underlying28 info43 rfl (by decide) (by omega) u190000 x190000_1 (⟨(⟨a1_0, a1_1⟩ : S34), a1_2⟩ : S43) [.int .i64 a1_0, .int .i64 a1_1, .int .i64 a1_2] (fun k_ => some k_ ≠ (.slice (some ad194) t185.length co18 : Value).ownBlock ∧ k_ ≠ gb179) (fun _ => False) rfl rfl ?aP (fun _ hk => hk.elim) ?aF ?aO ?aB ?aS ?aL ?_; (case aP => exact k43_mkM _ _ _ (⟨(⟨a1_0, a1_1⟩ : S34), a1_2⟩ : S43)); (case aB => exact (by repeat (first | (with_reducible first | exact HB.out | apply below_alloc | apply pw_below_drewN | apply below_drew1 | refine below_set ?_ GE178.out | refine below_set ?_ GE179.out | refine below_set ?_ GE180.out | refine below_set ?_ GE188.out | refine below_set ?_ GE189.out) | exact HB.out))); (case aF => exact (fun k_ hk => ⟨Kd.fresh' (Kd.R_lt (hd_ HO_189000)) k_ hk, Kd.freshB (g := gb179) (o := .cells #[.int .i64 a1_0, .int .i64 a1_1, .int .i64 a1_2] 43 (0, 0)) (by (with_reducible repeat (first | refine blk_drewN ?_ _ | refine blk_drew ?_ | refine blk_alloc ?_ _)); exact BK179.out) k_ hk⟩)); (case aO => exact (hd_ HO_190000)); (case aS => exact (bz_ HB)); (case aL => have := LMc46.out; omega); intro v197 w62 ho hb hg hat; rw [← Ny196.out] at ho; have HO198 := Aside0.mk ho; replace HO_189000 := Aside0.mk (Kd.R_after (ok := (fun k_ => k_ ≠ gb179)) (by (with_reducible repeat (first | apply Kd.R_alloc | apply Kd.R_drewN | apply Kd.R_drew)); exact Kd.R_mono HO_189000.out (fun _ hk => by first | exact ⟨hk.2, hk.1⟩ | grind)) hg hat); replace BK178 := Aside0.mk (blk_grown (g := gb178) (o := .cells #[.slice A0_0 l0_0.length c0_0] 30 (0, 0)) (by (with_reducible repeat (first | refine blk_drewN ?_ _ | refine blk_drew ?_ | refine blk_alloc ?_ _)); exact BK178.out) hg (Kd.R_ne HO_190000.out BK178.out (by decide))); replace BK179 := Aside0.mk (blk_grown (g := gb179) (o := .cells #[.int .i64 a1_0, .int .i64 a1_1, .int .i64 a1_2] 43 (0, 0)) (by (with_reducible repeat (first | refine blk_drewN ?_ _ | refine blk_drew ?_ | refine blk_alloc ?_ _)); exact BK179.out) hg (Kd.R_away HO_190000.out (fun _ hk => hk.2))); replace BK180 := Aside0.mk (blk_grown (g := gb180) (o := .cells #[.slice none 0 0] 30 (0, 0)) (by (with_reducible repeat (first | refine blk_drewN ?_ _ | refine blk_drew ?_ | refine blk_alloc ?_ _)); exact BK180.out) hg (Kd.R_ne HO_190000.out BK180.out (by decide))); replace BK188 := Aside0.mk (blk_grown (g := gb188) (o := .cells #[.slice (some ad194) t185.length co18] 30 (0, 0)) (by (with_reducible repeat (first | refine blk_drewN ?_ _ | refine blk_drew ?_ | refine blk_alloc ?_ _)); exact BK188.out) hg (Kd.R_ne HO_190000.out BK188.out (by decide))); replace BK189 := Aside0.mk (blk_grown (g := gb189) (o := .cells #[u190000] 30 (0, 0)) (by (with_reducible repeat (first | refine blk_drewN ?_ _ | refine blk_drew ?_ | refine blk_alloc ?_ _)); exact BK189.out) hg (Kd.R_ne HO_190000.out BK189.out (by decide))); replace HB := Aside0.mk (hb); clear HO_190000; clear ho hb hg hat; obtain ⟨Ao63, co63, eo63⟩ := Kd.R_slice HO198.out; subst eo63; have hcz64_0 := cz_ BK189 0 (u190000); have hfz64_0 := blk_frozen BK189.out 0))
          have n0_ : Aside0 (Kd.R k43 43 (w62.setCell ⟨gb189, 0, none⟩ (.slice Ao63 y196.length co63)) w.heap.size (fun k_ => some k_ ≠ (.slice Ao63 y196.length co63 : Value).ownBlock ∧ k_ ≠ gb179) (.slice (some ad194) t185.length co18) t185) := ⟨by (with_reducible repeat (first | apply Kd.R_alloc | apply Kd.R_drewN | apply Kd.R_drew)); exact Kd.R_mono (Kd.R_far (p := ⟨gb189, 0, none⟩) (Kd.R_types HO_189000.out BK189.out (by decide)) (fun _ hk => hk.2) (.slice Ao63 y196.length co63)) (fun _ hk => by first | exact ⟨hk.1.2, hk.1.1⟩ | grind)⟩
          have n1_ : Aside0 (Kd.R k43 43 (w62.setCell ⟨gb189, 0, none⟩ (.slice Ao63 y196.length co63)) w.heap.size (fun k_ => some k_ ≠ (.slice (some ad194) t185.length co18 : Value).ownBlock ∧ k_ ≠ gb179) (.slice Ao63 y196.length co63) y196) := ⟨by (with_reducible repeat (first | apply Kd.R_alloc | apply Kd.R_drewN | apply Kd.R_drew)); exact Kd.R_mono (Kd.R_far (p := ⟨gb189, 0, none⟩) (Kd.R_types HO198.out BK189.out (by decide)) (fun _ hk => hk.2) (.slice Ao63 y196.length co63)) (fun _ hk => by first | exact ⟨hk.1.1, hk.1.2⟩ | grind)⟩
          have n2_ : Aside0 ((w62.setCell ⟨gb189, 0, none⟩ (.slice Ao63 y196.length co63)).heap[gb178]? = some (.cells #[.slice A0_0 l0_0.length c0_0] 30 (0, 0))) := ⟨by (with_reducible repeat (first | refine blk_drewN ?_ _ | refine blk_drew ?_ | refine blk_alloc ?_ _)); refine blk_far ?_ NB178_189.out _; (with_reducible repeat (first | refine blk_drewN ?_ _ | refine blk_drew ?_ | refine blk_alloc ?_ _)); exact BK178.out⟩
          have n3_ : Aside0 ((w62.setCell ⟨gb189, 0, none⟩ (.slice Ao63 y196.length co63)).heap[gb179]? = some (.cells #[.int .i64 a1_0, .int .i64 a1_1, .int .i64 a1_2] 43 (0, 0))) := ⟨by (with_reducible repeat (first | refine blk_drewN ?_ _ | refine blk_drew ?_ | refine blk_alloc ?_ _)); refine blk_far ?_ NB179_189.out _; (with_reducible repeat (first | refine blk_drewN ?_ _ | refine blk_drew ?_ | refine blk_alloc ?_ _)); exact BK179.out⟩
          have n4_ : Aside0 ((w62.setCell ⟨gb189, 0, none⟩ (.slice Ao63 y196.length co63)).heap[gb180]? = some (.cells #[.slice none 0 0] 30 (0, 0))) := ⟨by (with_reducible repeat (first | refine blk_drewN ?_ _ | refine blk_drew ?_ | refine blk_alloc ?_ _)); refine blk_far ?_ NB180_189.out _; (with_reducible repeat (first | refine blk_drewN ?_ _ | refine blk_drew ?_ | refine blk_alloc ?_ _)); exact BK180.out⟩
          have n5_ : Aside0 ((w62.setCell ⟨gb189, 0, none⟩ (.slice Ao63 y196.length co63)).heap[gb188]? = some (.cells #[.slice (some ad194) t185.length co18] 30 (0, 0))) := ⟨by (with_reducible repeat (first | refine blk_drewN ?_ _ | refine blk_drew ?_ | refine blk_alloc ?_ _)); refine blk_far ?_ NB188_189.out _; (with_reducible repeat (first | refine blk_drewN ?_ _ | refine blk_drew ?_ | refine blk_alloc ?_ _)); exact BK188.out⟩
          have n6_ : Aside0 ((w62.setCell ⟨gb189, 0, none⟩ (.slice Ao63 y196.length co63)).heap[gb189]? = some (.cells #[.slice Ao63 y196.length co63] 30 (0, 0))) := ⟨by (with_reducible repeat (first | refine blk_drewN ?_ _ | refine blk_drew ?_ | refine blk_alloc ?_ _)); refine blk_put (cs := #[u190000]) ?_ 0 _ rfl; (with_reducible repeat (first | refine blk_drewN ?_ _ | refine blk_drew ?_ | refine blk_alloc ?_ _)); exact BK189.out⟩
          have n7_ : Aside0 (Below w.heap.size w (w62.setCell ⟨gb189, 0, none⟩ (.slice Ao63 y196.length co63))) := ⟨by repeat (first | (with_reducible first | exact HB.out | apply below_alloc | apply pw_below_drewN | apply below_drew1 | refine below_set ?_ GE178.out | refine below_set ?_ GE179.out | refine below_set ?_ GE180.out | refine below_set ?_ GE188.out | refine below_set ?_ GE189.out) | exact HB.out)⟩
          (try clear HO_189000)
          (try clear HO198)
          (try clear BK178)
          (try clear BK179)
          (try clear BK180)
          (try clear BK188)
          (try clear BK189)
          (try clear HB)
          generalize (w62.setCell ⟨gb189, 0, none⟩ (.slice Ao63 y196.length co63)) = w65 at n0_ n1_ n2_ n3_ n4_ n5_ n6_ n7_ ⊢
          have HO_189000 := n0_
          have HO198 := n1_
          have BK178 := n2_
          have BK179 := n3_
          have BK180 := n4_
          have BK188 := n5_
          have BK189 := n6_
          have HB := n7_
          clear n0_ n1_ n2_ n3_ n4_ n5_ n6_ n7_
          replace HO_189000 := Aside0.mk (Kd.R_drew HO_189000.out)
          replace HO198 := Aside0.mk (Kd.R_drew HO198.out)
          replace BK178 := Aside0.mk (blk_drew BK178.out)
          replace BK179 := Aside0.mk (blk_drew BK179.out)
          replace BK180 := Aside0.mk (blk_drew BK180.out)
          replace BK188 := Aside0.mk (blk_drew BK188.out)
          replace BK189 := Aside0.mk (blk_drew BK189.out)
          replace HB := Aside0.mk (below_drew1 HB.out)
          have p199 : 0 ≤ (x9_1 : Int) := of_decide_eq_true (by first | (with_reducible assumption) | assumption)
          have q199 : x9_1 < (t185.length : Int) := of_decide_eq_true (by first | (with_reducible assumption) | assumption)
          obtain ⟨ad199, e199, hx199_0, hx199_1, hx199_2⟩ := at_T43 (Kd.R_reads' HO_189000.out).2.2 x9_1 p199 q199
          obtain rfl : ad194 = ad199 := (by injection e199)
          replace p199 := eq_true p199
          replace q199 := eq_true q199
          refine start_ (n := 11) (S := fun w' => w'.cell? ⟨gb189, 0, none⟩ = some (.slice Ao63 y196.length co63) ∧ w'.cell? ⟨gb188, 0, none⟩ = some (.slice (some ad194) t185.length co18) ∧ w'.cell? (ad194.add ((x9_1).toNat * 3)) = some (.int .i64 ((rd_T43 t185 x9_1).f0.f0)) ∧ w'.cell? ⟨(ad194.add ((x9_1).toNat * 3)).block, (ad194.add ((x9_1).toNat * 3)).off + 1, none⟩ = some (.int .i64 ((rd_T43 t185 x9_1).f0.f1)) ∧ w'.cell? ⟨(ad194.add ((x9_1).toNat * 3)).block, (ad194.add ((x9_1).toNat * 3)).off + 2, none⟩ = some (.int .i64 ((rd_T43 t185 x9_1).f1))) (ds := [8, 10]) ba7_14 (by kernel_rfl) rfl rfl ⟨(blk_cell BK189.out 0).trans rfl, (blk_cell BK188.out 0).trans rfl, hx199_0, hx199_1, hx199_2⟩ (fun hHeld => ?_); refine with_tabW spec_PutRoute.tab12 spec_PutRoute.bits12 (fun HT_ HW_ => ?_)
          generalize w65.drew = w66 at HO_189000 HO198 BK178 BK179 BK180 BK188 BK189 HB hx199_0 hx199_1 hx199_2 hHeld ⊢
          refine pz_ 0 46 ba7_15 HT_ ?_
          refine pz_ 2 48 ba7_16 HT_ ?_
          refine pz_ 4 50 ba7_17 HT_ ?_
          refine pt_ 1 47 ba7_18 HT_ HW_ hHeld ?_
          refine pt_ 3 49 ba7_19 HT_ HW_ hHeld ?_
          refine pz_ 5 51 ba7_20 HT_ ?_
          refine pt_ 6 52 ba7_21 HT_ HW_ hHeld ?_
          refine one_ (i := 7) (N := some 53) ba7_22 rfl rfl (one_of HT_.out (by kernel_rfl)) (by decide) (fun K hK => ?_)
          refine value_ (w1 := ?_) (v := ?_) (by rfl) rfl ?_ ?_
          rotate_left 2
          ·go_simp
           constructor
           ·rfl
           ·rfl
          refine hK.out _ _ ⟨(blk_cell (blk_alloc BK189.out _) 0).trans rfl, (blk_cell (blk_alloc BK188.out _) 0).trans rfl, (World.cell?_alloc_lt _ _ _ (World.block_lt_of_cell? _ _ (hHeld.2.2.1))).trans (hHeld.2.2.1), (World.cell?_alloc_lt _ _ _ (World.block_lt_of_cell? _ _ (hHeld.2.2.2.1))).trans (hHeld.2.2.2.1), (World.cell?_alloc_lt _ _ _ (World.block_lt_of_cell? _ _ (hHeld.2.2.2.2))).trans (hHeld.2.2.2.2)⟩ (fun hHeld => ?_)
          clear hK K
          refine nz_ 53 ?_
          refine last_ (i := 8) (N := some 54) ba7_23 rfl rfl (one_of HT_.out (by kernel_rfl)) (by decide) (fun K hK => ?_)
          refine Kd.R_append_step k43 (w0 := w) w.heap.size (by rfl) (.tmp 47) (.tmp 53) 28 43 (.agg #[(.int .i64 0), (.int .i64 0), (.int .i64 0)]) 24 rfl Try.underlying28 info43 rfl (by decide) (by omega) (.slice Ao63 y196.length co63) y196 (⟨(⟨(rd_T43 t185 x9_1).f0.f0, (rd_T43 t185 x9_1).f0.f1⟩ : S34), (rd_T43 t185 x9_1).f1⟩ : S43) [.int .i64 ((rd_T43 t185 x9_1).f0.f0), .int .i64 ((rd_T43 t185 x9_1).f0.f1), .int .i64 ((rd_T43 t185 x9_1).f1)] (fun k_ => some k_ ≠ (.slice (some ad194) t185.length co18 : Value).ownBlock ∧ k_ ≠ gb179) (fun _ => False) rfl rfl ?aP (fun _ hk => hk.elim) ?aF ?aO ?aB ?aS ?aL ?_
          (case aP => exact k43_mkM _ _ _ (⟨(⟨(rd_T43 t185 x9_1).f0.f0, (rd_T43 t185 x9_1).f0.f1⟩ : S34), (rd_T43 t185 x9_1).f1⟩ : S43))
          (case aB => exact (by repeat (first | (with_reducible first | exact HB.out | apply below_alloc | apply pw_below_drewN | apply below_drew1 | refine below_set ?_ GE178.out | refine below_set ?_ GE179.out | refine below_set ?_ GE180.out | refine below_set ?_ GE188.out | refine below_set ?_ GE189.out) | exact HB.out)))
          (case aF => exact (fun k_ hk => ⟨Kd.fresh' (Kd.R_lt (hd_ HO_189000)) k_ hk, Kd.freshB (g := gb179) (o := .cells #[.int .i64 a1_0, .int .i64 a1_1, .int .i64 a1_2] 43 (0, 0)) (by (with_reducible repeat (first | refine blk_drewN ?_ _ | refine blk_drew ?_ | refine blk_alloc ?_ _)); exact BK179.out) k_ hk⟩))
          (case aO => exact (hd_ HO198))
          (case aS => exact (bz_ HB))
          (case aL => have := LMc47.out; omega)
          intro v201 w67 ho hb hg hat
          rw [← Ny200.out] at ho
          have HO202 := Aside0.mk ho
          replace HO_189000 := Aside0.mk (Kd.R_after (ok := (fun k_ => k_ ≠ gb179)) (by (with_reducible repeat (first | apply Kd.R_alloc | apply Kd.R_drewN | apply Kd.R_drew)); exact Kd.R_mono HO_189000.out (fun _ hk => by first | exact ⟨hk.2, hk.1⟩ | grind)) hg hat)
          replace BK178 := Aside0.mk (blk_grown (g := gb178) (o := .cells #[.slice A0_0 l0_0.length c0_0] 30 (0, 0)) (by (with_reducible repeat (first | refine blk_drewN ?_ _ | refine blk_drew ?_ | refine blk_alloc ?_ _)); exact BK178.out) hg (Kd.R_ne HO198.out BK178.out (by decide)))
          replace BK179 := Aside0.mk (blk_grown (g := gb179) (o := .cells #[.int .i64 a1_0, .int .i64 a1_1, .int .i64 a1_2] 43 (0, 0)) (by (with_reducible repeat (first | refine blk_drewN ?_ _ | refine blk_drew ?_ | refine blk_alloc ?_ _)); exact BK179.out) hg (Kd.R_away HO198.out (fun _ hk => hk.2)))
          replace BK180 := Aside0.mk (blk_grown (g := gb180) (o := .cells #[.slice none 0 0] 30 (0, 0)) (by (with_reducible repeat (first | refine blk_drewN ?_ _ | refine blk_drew ?_ | refine blk_alloc ?_ _)); exact BK180.out) hg (Kd.R_ne HO198.out BK180.out (by decide)))
          replace BK188 := Aside0.mk (blk_grown (g := gb188) (o := .cells #[.slice (some ad194) t185.length co18] 30 (0, 0)) (by (with_reducible repeat (first | refine blk_drewN ?_ _ | refine blk_drew ?_ | refine blk_alloc ?_ _)); exact BK188.out) hg (Kd.R_ne HO198.out BK188.out (by decide)))
          replace BK189 := Aside0.mk (blk_grown (g := gb189) (o := .cells #[.slice Ao63 y196.length co63] 30 (0, 0)) (by (with_reducible repeat (first | refine blk_drewN ?_ _ | refine blk_drew ?_ | refine blk_alloc ?_ _)); exact BK189.out) hg (Kd.R_ne HO198.out BK189.out (by decide)))
          replace HB := Aside0.mk (hb)
          clear HO198
          clear ho hb hg hat
          obtain ⟨Ao68, co68, eo68⟩ := Kd.R_slice HO202.out
          (first | subst eo68 | (injection eo68 with f1_ f2_ f3_; have f4_ := f1_.symm; have f5_ := f3_.symm; clear f1_ f2_ f3_; subst f4_; subst f5_))
          refine hK.out _ _ ?_
          clear hK K
          refine nz_ 54 ?_
          refine pz_ 9 55 ba7_24 HT_ ?_
          refine last_ (i := 10) (N := none) ba7_25 rfl rfl (one_of HT_.out (by kernel_rfl)) (by decide) (fun K hK => ?_)
          have hs69 : w67.cell? ⟨gb189, 0, none⟩ = some (.slice Ao63 y196.length co63) := (blk_cell BK189.out 0).trans rfl
          have hfs69 := blk_frozen BK189.out 0
          have hns69_0 := NB178_189.out
          have hns69_1 := NB179_189.out
          have hns69_2 := NB180_189.out
          have hns69_3 := NB188_189.out
          have hms69_0 := NB189_178.out
          have hms69_1 := NB189_179.out
          have hms69_2 := NB189_180.out
          have hms69_3 := NB189_188.out
          refine skip_ (w1 := ?_) (by rfl) rfl ?_ ?_
          rotate_left; · go_simp; rfl
          refine hK.out _ _ ?_
          clear hK K
          refine done_ (done_of HT_.out (by kernel_rfl)) ?_
          try go_wp2
          go_roundg k1
          case measure => have := HK1.out; omega
          case rel => exact ⟨(true), (wrap64 (x9_1 + 1)), (y200), (.slice Ao68 y200.length co68), (by first | rfl | (simp; done) | (simp [*]; done)), (by first | rfl | (simp; done) | (simp [*]; done)), H', ⟨by have := HK1.out; omega⟩, ⟨by (with_reducible repeat (first | apply Kd.R_alloc | apply Kd.R_drewN | apply Kd.R_drew)); exact Kd.R_mono (Kd.R_far (p := ⟨gb189, 0, none⟩) (Kd.R_types HO_189000.out BK189.out (by decide)) (fun _ hk => hk.2) (.slice Ao68 y200.length co68)) (fun _ hk => by first | exact ⟨hk.1.2, hk.1.1⟩ | grind)⟩, ⟨by (with_reducible repeat (first | apply Kd.R_alloc | apply Kd.R_drewN | apply Kd.R_drew)); exact Kd.R_mono (Kd.R_far (p := ⟨gb189, 0, none⟩) (Kd.R_types HO202.out BK189.out (by decide)) (fun _ hk => hk.2) (.slice Ao68 y200.length co68)) (fun _ hk => by first | exact ⟨hk.1.1, hk.1.2⟩ | grind)⟩, ⟨by (with_reducible repeat (first | refine blk_drewN ?_ _ | refine blk_drew ?_ | refine blk_alloc ?_ _)); refine blk_far ?_ NB178_189.out _; (with_reducible repeat (first | refine blk_drewN ?_ _ | refine blk_drew ?_ | refine blk_alloc ?_ _)); exact BK178.out⟩, ⟨by (with_reducible repeat (first | refine blk_drewN ?_ _ | refine blk_drew ?_ | refine blk_alloc ?_ _)); refine blk_far ?_ NB179_189.out _; (with_reducible repeat (first | refine blk_drewN ?_ _ | refine blk_drew ?_ | refine blk_alloc ?_ _)); exact BK179.out⟩, ⟨by (with_reducible repeat (first | refine blk_drewN ?_ _ | refine blk_drew ?_ | refine blk_alloc ?_ _)); refine blk_far ?_ NB180_189.out _; (with_reducible repeat (first | refine blk_drewN ?_ _ | refine blk_drew ?_ | refine blk_alloc ?_ _)); exact BK180.out⟩, ⟨by (with_reducible repeat (first | refine blk_drewN ?_ _ | refine blk_drew ?_ | refine blk_alloc ?_ _)); refine blk_far ?_ NB188_189.out _; (with_reducible repeat (first | refine blk_drewN ?_ _ | refine blk_drew ?_ | refine blk_alloc ?_ _)); exact BK188.out⟩, ⟨by (with_reducible repeat (first | refine blk_drewN ?_ _ | refine blk_drew ?_ | refine blk_alloc ?_ _)); refine blk_put (cs := #[.slice Ao63 y196.length co63]) ?_ 0 _ rfl; (with_reducible repeat (first | refine blk_drewN ?_ _ | refine blk_drew ?_ | refine blk_alloc ?_ _)); exact BK189.out⟩, ⟨by repeat (first | (with_reducible first | exact HB.out | apply below_alloc | apply pw_below_drewN | apply below_drew1 | refine below_set ?_ GE178.out | refine below_set ?_ GE179.out | refine below_set ?_ GE180.out | refine below_set ?_ GE188.out | refine below_set ?_ GE189.out) | exact HB.out)⟩⟩
         ·rw [if_neg c47] at H
          exact absurd H (by simp)
        ·rw [if_neg c46] at H
         exact absurd H (by simp)
       ·replace c45 := Bool.eq_false_iff.mpr c45
        subst c45
        rw [if_neg (show ¬ (false = true) by decide)] at H
        by_cases c70 : x190000_1.length < 5864062014805
        ·rw [if_pos c70] at H
         have LMc70 := Aside0.mk c70
         clear c70
         obtain ⟨y204, hy204⟩ : ∃ y_ : List (S43), y_ = (x190000_1 ++ [(⟨(⟨(rd_T43 t185 x9_1).f0.f0, (rd_T43 t185 x9_1).f0.f1⟩ : S34), (rd_T43 t185 x9_1).f1⟩ : S43)]) := ⟨_, rfl⟩
         replace H : (spec_PutRoute.l0 k1 false (wrap64 (x9_1 + 1)) l0_0 a1_0 a1_1 a1_2 t185 y204) = some (r1, r2) := by first | (rw [hy204]; with_reducible exact H) | (have H2_ := (Option.bind_some _ _).symm.trans H; rw [hy204]; with_reducible exact H2_) | (have H2_ := (Option.bind_some _ _).symm.trans H; with_reducible exact H2_) | with_reducible exact H | (rw [hy204]; exact H) | exact H
         have Ny204 := Aside0.mk hy204
         clear hy204
         have H' := Aside0.mk H
         clear H
         have hnb71 := NB188_178.out
         have hnc71 := NB178_188.out
         have hnb72 := NB188_179.out
         have hnc72 := NB179_188.out
         have hnb73 := NB188_180.out
         have hnc73 := NB180_188.out
         have hnb74 := NB188_189.out
         have hnc74 := NB189_188.out
         have hcz75_0 := cz_ BK188 0 (.slice Ao18 t185.length co18)
         have hfz75_0 := blk_frozen BK188.out 0
         try go_wp2
         replace HO_189000 := Aside0.mk (Kd.R_drew HO_189000.out)
         replace HO_190000 := Aside0.mk (Kd.R_drew HO_190000.out)
         replace BK178 := Aside0.mk (blk_drew BK178.out)
         replace BK179 := Aside0.mk (blk_drew BK179.out)
         replace BK180 := Aside0.mk (blk_drew BK180.out)
         replace BK188 := Aside0.mk (blk_drew BK188.out)
         replace BK189 := Aside0.mk (blk_drew BK189.out)
         replace HB := Aside0.mk (below_drew1 HB.out)
         have p194 : 0 ≤ (x9_1 : Int) := of_decide_eq_true (by first | (with_reducible assumption) | assumption)
         have q194 : x9_1 < (t185.length : Int) := of_decide_eq_true (by first | (with_reducible assumption) | assumption)
         obtain ⟨ad194, e194, hx194_0, hx194_1, hx194_2⟩ := at_T43 (Kd.R_reads' HO_189000.out).2.2 x9_1 p194 q194
         cases e194
         replace p194 := eq_true p194
         replace q194 := eq_true q194
         refine start_ (n := 13) (S := fun w' => w'.cell? ⟨gb179, 0, none⟩ = some (.int .i64 a1_0) ∧ w'.cell? ⟨gb179, 1, none⟩ = some (.int .i64 a1_1) ∧ w'.cell? ⟨gb179, 2, none⟩ = some (.int .i64 a1_2) ∧ w'.cell? ⟨gb188, 0, none⟩ = some (.slice (some ad194) t185.length co18) ∧ w'.cell? (ad194.add ((x9_1).toNat * 3)) = some (.int .i64 ((rd_T43 t185 x9_1).f0.f0)) ∧ w'.cell? ⟨(ad194.add ((x9_1).toNat * 3)).block, (ad194.add ((x9_1).toNat * 3)).off + 1, none⟩ = some (.int .i64 ((rd_T43 t185 x9_1).f0.f1)) ∧ w'.cell? ⟨(ad194.add ((x9_1).toNat * 3)).block, (ad194.add ((x9_1).toNat * 3)).off + 2, none⟩ = some (.int .i64 ((rd_T43 t185 x9_1).f1))) (ds := []) ba7_0 (by kernel_rfl) rfl rfl ⟨(blk_cell BK179.out 0).trans rfl, (blk_cell BK179.out 1).trans rfl, (blk_cell BK179.out 2).trans rfl, (blk_cell BK188.out 0).trans rfl, hx194_0, hx194_1, hx194_2⟩ (fun hHeld => ?_); refine with_tabW spec_PutRoute.tab9 spec_PutRoute.bits9 (fun HT_ HW_ => ?_)
         generalize wr.drew = w76 at HO_189000 HO_190000 BK178 BK179 BK180 BK188 BK189 HB hx194_0 hx194_1 hx194_2 hHeld ⊢
         refine pz_ 0 27 ba7_1 HT_ ?_
         refine pz_ 1 28 ba7_2 HT_ ?_
         refine pz_ 2 29 ba7_3 HT_ ?_
         refine pz_ 3 30 ba7_4 HT_ ?_
         refine pz_ 5 32 ba7_26 HT_ ?_
         refine pz_ 7 34 ba7_27 HT_ ?_
         refine pt_ 4 31 ba7_28 HT_ HW_ hHeld ?_
         refine pt_ 6 33 ba7_8 HT_ HW_ hHeld ?_
         refine pz_ 8 35 ba7_9 HT_ ?_
         refine pz_ 9 36 ba7_10 HT_ ?_
         refine pt_ 10 37 ba7_11 HT_ HW_ hHeld ?_
         refine one_ (i := 11) (N := some 38) ba7_12 rfl rfl (one_of HT_.out (by kernel_rfl)) (by decide) (fun K hK => ?_)
         refine gz_ Try.func37 #[.agg #[.int .i64 a1_0, .int .i64 a1_1], .agg #[.int .i64 ((rd_T43 t185 x9_1).f0.f0), .int .i64 ((rd_T43 t185 x9_1).f0.f1)]] ?_
         with_reducible refine (spec_l02Ahead.calls a1_0 a1_1 ((rd_T43 t185 x9_1).f0.f0) ((rd_T43 t185 x9_1).f0.f1) false _ A44.out).mono ?_
         rintro e w77 ⟨rfl, hb⟩
         have HS4_ := (hb.cell (World.block_lt_of_cell? _ _ (hHeld.2.2.2.2.1))).trans (hHeld.2.2.2.2.1)
         have HS5_ := (hb.cell (World.block_lt_of_cell? _ _ (hHeld.2.2.2.2.2.1))).trans (hHeld.2.2.2.2.2.1)
         have HS6_ := (hb.cell (World.block_lt_of_cell? _ _ (hHeld.2.2.2.2.2.2))).trans (hHeld.2.2.2.2.2.2)
         refine ⟨_, rfl, ?_⟩
         replace HO_189000 := rb_ HO_189000 hb
         replace HO_190000 := rb_ HO_190000 hb
         replace BK178 := Aside0.mk (bb_ BK178 hb)
         replace BK179 := Aside0.mk (bb_ BK179 hb)
         replace BK180 := Aside0.mk (bb_ BK180 hb)
         replace BK188 := Aside0.mk (bb_ BK188 hb)
         replace BK189 := Aside0.mk (bb_ BK189 hb)
         replace HB := Aside0.mk (bt_ HB hb)
         (try clear hb)
         (try clear hb2)
         (try clear hk)
         (try clear hi)
         refine hK.out _ _ ⟨(blk_cell BK179.out 0).trans rfl, (blk_cell BK179.out 1).trans rfl, (blk_cell BK179.out 2).trans rfl, (blk_cell BK188.out 0).trans rfl, HS4_, HS5_, HS6_⟩ (fun hHeld => ?_)
         clear hK K
         refine nz_ 38 ?_
         refine pz_ 12 39 ba7_13 HT_ ?_
         refine done_ (done_of HT_.out (by kernel_rfl)) ?_
         try go_wp2
         replace HO_189000 := Aside0.mk (Kd.R_drew HO_189000.out)
         replace HO_190000 := Aside0.mk (Kd.R_drew HO_190000.out)
         replace BK178 := Aside0.mk (blk_drew BK178.out)
         replace BK179 := Aside0.mk (blk_drew BK179.out)
         replace BK180 := Aside0.mk (blk_drew BK180.out)
         replace BK188 := Aside0.mk (blk_drew BK188.out)
         replace BK189 := Aside0.mk (blk_drew BK189.out)
         replace HB := Aside0.mk (below_drew1 HB.out)
         have p203 : 0 ≤ (x9_1 : Int) := of_decide_eq_true (by first | (with_reducible assumption) | assumption)
         have q203 : x9_1 < (t185.length : Int) := of_decide_eq_true (by first | (with_reducible assumption) | assumption)
         obtain ⟨ad203, e203, hx203_0, hx203_1, hx203_2⟩ := at_T43 (Kd.R_reads' HO_189000.out).2.2 x9_1 p203 q203
         obtain rfl : ad194 = ad203 := (by injection e203)
         replace p203 := eq_true p203
         replace q203 := eq_true q203
         refine start_ (n := 11) (S := fun w' => w'.cell? ⟨gb189, 0, none⟩ = some (u190000) ∧ w'.cell? ⟨gb188, 0, none⟩ = some (.slice (some ad194) t185.length co18) ∧ w'.cell? (ad194.add ((x9_1).toNat * 3)) = some (.int .i64 ((rd_T43 t185 x9_1).f0.f0)) ∧ w'.cell? ⟨(ad194.add ((x9_1).toNat * 3)).block, (ad194.add ((x9_1).toNat * 3)).off + 1, none⟩ = some (.int .i64 ((rd_T43 t185 x9_1).f0.f1)) ∧ w'.cell? ⟨(ad194.add ((x9_1).toNat * 3)).block, (ad194.add ((x9_1).toNat * 3)).off + 2, none⟩ = some (.int .i64 ((rd_T43 t185 x9_1).f1))) (ds := [8, 10]) ba7_14 (by kernel_rfl) rfl rfl ⟨(blk_cell BK189.out 0).trans rfl, (blk_cell BK188.out 0).trans rfl, hx203_0, hx203_1, hx203_2⟩ (fun hHeld => ?_); refine with_tabW spec_PutRoute.tab12 spec_PutRoute.bits12 (fun HT_ HW_ => ?_)
         generalize w77.drew = w78 at HO_189000 HO_190000 BK178 BK179 BK180 BK188 BK189 HB hx203_0 hx203_1 hx203_2 hHeld ⊢
         refine pz_ 0 46 ba7_15 HT_ ?_
         refine pz_ 2 48 ba7_16 HT_ ?_
         refine pz_ 4 50 ba7_17 HT_ ?_
         refine pt_ 1 47 ba7_18 HT_ HW_ hHeld ?_
         refine pt_ 3 49 ba7_19 HT_ HW_ hHeld ?_
         refine pz_ 5 51 ba7_20 HT_ ?_
         refine pt_ 6 52 ba7_21 HT_ HW_ hHeld ?_
         refine one_ (i := 7) (N := some 53) ba7_22 rfl rfl (one_of HT_.out (by kernel_rfl)) (by decide) (fun K hK => ?_)
         refine value_ (w1 := ?_) (v := ?_) (by rfl) rfl ?_ ?_
         rotate_left 2
         ·go_simp
          constructor
          ·rfl
          ·rfl
         refine hK.out _ _ ⟨(blk_cell (blk_alloc BK189.out _) 0).trans rfl, (blk_cell (blk_alloc BK188.out _) 0).trans rfl, (World.cell?_alloc_lt _ _ _ (World.block_lt_of_cell? _ _ (hHeld.2.2.1))).trans (hHeld.2.2.1), (World.cell?_alloc_lt _ _ _ (World.block_lt_of_cell? _ _ (hHeld.2.2.2.1))).trans (hHeld.2.2.2.1), (World.cell?_alloc_lt _ _ _ (World.block_lt_of_cell? _ _ (hHeld.2.2.2.2))).trans (hHeld.2.2.2.2)⟩ (fun hHeld => ?_)
         clear hK K
         refine nz_ 53 ?_
         refine last_ (i := 8) (N := some 54) ba7_23 rfl rfl (one_of HT_.out (by kernel_rfl)) (by decide) (fun K hK => ?_)
         refine Kd.R_append_step k43 (w0 := w) w.heap.size (by rfl) (.tmp 47) (.tmp 53) 28 43 (.agg #[(.int .i64 0), (.int .i64 0), (.int .i64 0)]) 24 rfl Try.underlying28 info43 rfl (by decide) (by omega) u190000 x190000_1 (⟨(⟨(rd_T43 t185 x9_1).f0.f0, (rd_T43 t185 x9_1).f0.f1⟩ : S34), (rd_T43 t185 x9_1).f1⟩ : S43) [.int .i64 ((rd_T43 t185 x9_1).f0.f0), .int .i64 ((rd_T43 t185 x9_1).f0.f1), .int .i64 ((rd_T43 t185 x9_1).f1)] (fun k_ => some k_ ≠ (.slice (some ad194) t185.length co18 : Value).ownBlock ∧ k_ ≠ gb179) (fun _ => False) rfl rfl ?aP (fun _ hk => hk.elim) ?aF ?aO ?aB ?aS ?aL ?_
         (case aP => exact k43_mkM _ _ _ (⟨(⟨(rd_T43 t185 x9_1).f0.f0, (rd_T43 t185 x9_1).f0.f1⟩ : S34), (rd_T43 t185 x9_1).f1⟩ : S43))
         (case aB => exact (by repeat (first | (with_reducible first | exact HB.out | apply below_alloc | apply pw_below_drewN | apply below_drew1 | refine below_set ?_ GE178.out | refine below_set ?_ GE179.out | refine below_set ?_ GE180.out | refine below_set ?_ GE188.out | refine below_set ?_ GE189.out) | exact HB.out)))
         (case aF => exact (fun k_ hk => ⟨Kd.fresh' (Kd.R_lt (hd_ HO_189000)) k_ hk, Kd.freshB (g := gb179) (o := .cells #[.int .i64 a1_0, .int .i64 a1_1, .int .i64 a1_2] 43 (0, 0)) (by (with_reducible repeat (first | refine blk_drewN ?_ _ | refine blk_drew ?_ | refine blk_alloc ?_ _)); exact BK179.out) k_ hk⟩))
         (case aO => exact (hd_ HO_190000))
         (case aS => exact (bz_ HB))
         (case aL => have := LMc70.out; omega)
         intro v205 w79 ho hb hg hat
         rw [← Ny204.out] at ho
         have HO206 := Aside0.mk ho
         replace HO_189000 := Aside0.mk (Kd.R_after (ok := (fun k_ => k_ ≠ gb179)) (by (with_reducible repeat (first | apply Kd.R_alloc | apply Kd.R_drewN | apply Kd.R_drew)); exact Kd.R_mono HO_189000.out (fun _ hk => by first | exact ⟨hk.2, hk.1⟩ | grind)) hg hat)
         replace BK178 := Aside0.mk (blk_grown (g := gb178) (o := .cells #[.slice A0_0 l0_0.length c0_0] 30 (0, 0)) (by (with_reducible repeat (first | refine blk_drewN ?_ _ | refine blk_drew ?_ | refine blk_alloc ?_ _)); exact BK178.out) hg (Kd.R_ne HO_190000.out BK178.out (by decide)))
         replace BK179 := Aside0.mk (blk_grown (g := gb179) (o := .cells #[.int .i64 a1_0, .int .i64 a1_1, .int .i64 a1_2] 43 (0, 0)) (by (with_reducible repeat (first | refine blk_drewN ?_ _ | refine blk_drew ?_ | refine blk_alloc ?_ _)); exact BK179.out) hg (Kd.R_away HO_190000.out (fun _ hk => hk.2)))
         replace BK180 := Aside0.mk (blk_grown (g := gb180) (o := .cells #[.slice none 0 0] 30 (0, 0)) (by (with_reducible repeat (first | refine blk_drewN ?_ _ | refine blk_drew ?_ | refine blk_alloc ?_ _)); exact BK180.out) hg (Kd.R_ne HO_190000.out BK180.out (by decide)))
         replace BK188 := Aside0.mk (blk_grown (g := gb188) (o := .cells #[.slice (some ad194) t185.length co18] 30 (0, 0)) (by (with_reducible repeat (first | refine blk_drewN ?_ _ | refine blk_drew ?_ | refine blk_alloc ?_ _)); exact BK188.out) hg (Kd.R_ne HO_190000.out BK188.out (by decide)))
         replace BK189 := Aside0.mk (blk_grown (g := gb189) (o := .cells #[u190000] 30 (0, 0)) (by (with_reducible repeat (first | refine blk_drewN ?_ _ | refine blk_drew ?_ | refine blk_alloc ?_ _)); exact BK189.out) hg (Kd.R_ne HO_190000.out BK189.out (by decide)))
         replace HB := Aside0.mk (hb)
         clear HO_190000
         clear ho hb hg hat
         obtain ⟨Ao80, co80, eo80⟩ := Kd.R_slice HO206.out
         (first | subst eo80 | (injection eo80 with f1_ f2_ f3_; have f4_ := f1_.symm; have f5_ := f3_.symm; clear f1_ f2_ f3_; subst f4_; subst f5_))
         refine hK.out _ _ ?_
         clear hK K
         refine nz_ 54 ?_
         refine pz_ 9 55 ba7_24 HT_ ?_
         refine last_ (i := 10) (N := none) ba7_25 rfl rfl (one_of HT_.out (by kernel_rfl)) (by decide) (fun K hK => ?_)
         have hs81 : w79.cell? ⟨gb189, 0, none⟩ = some (u190000) := (blk_cell BK189.out 0).trans rfl
         have hfs81 := blk_frozen BK189.out 0
         have hns81_0 := NB178_189.out
         have hns81_1 := NB179_189.out
         have hns81_2 := NB180_189.out
         have hns81_3 := NB188_189.out
         have hms81_0 := NB189_178.out
         have hms81_1 := NB189_179.out
         have hms81_2 := NB189_180.out
         have hms81_3 := NB189_188.out
         refine skip_ (w1 := ?_) (by rfl) rfl ?_ ?_
         rotate_left; · go_simp; rfl
         refine hK.out _ _ ?_
         clear hK K
         refine done_ (done_of HT_.out (by kernel_rfl)) ?_
         try go_wp2
         go_roundg k1
         case measure => have := HK1.out; omega
         case rel => exact ⟨(false), (wrap64 (x9_1 + 1)), (y204), (.slice Ao80 y204.length co80), (by first | rfl | (simp; done) | (simp [*]; done)), (by first | rfl | (simp; done) | (simp [*]; done)), H', ⟨by have := HK1.out; omega⟩, ⟨by (with_reducible repeat (first | apply Kd.R_alloc | apply Kd.R_drewN | apply Kd.R_drew)); exact Kd.R_mono (Kd.R_far (p := ⟨gb189, 0, none⟩) (Kd.R_types HO_189000.out BK189.out (by decide)) (fun _ hk => hk.2) (.slice Ao80 y204.length co80)) (fun _ hk => by first | exact ⟨hk.1.2, hk.1.1⟩ | grind)⟩, ⟨by (with_reducible repeat (first | apply Kd.R_alloc | apply Kd.R_drewN | apply Kd.R_drew)); exact Kd.R_mono (Kd.R_far (p := ⟨gb189, 0, none⟩) (Kd.R_types HO206.out BK189.out (by decide)) (fun _ hk => hk.2) (.slice Ao80 y204.length co80)) (fun _ hk => by first | exact ⟨hk.1.1, hk.1.2⟩ | grind)⟩, ⟨by (with_reducible repeat (first | refine blk_drewN ?_ _ | refine blk_drew ?_ | refine blk_alloc ?_ _)); refine blk_far ?_ NB178_189.out _; (with_reducible repeat (first | refine blk_drewN ?_ _ | refine blk_drew ?_ | refine blk_alloc ?_ _)); exact BK178.out⟩, ⟨by (with_reducible repeat (first | refine blk_drewN ?_ _ | refine blk_drew ?_ | refine blk_alloc ?_ _)); refine blk_far ?_ NB179_189.out _; (with_reducible repeat (first | refine blk_drewN ?_ _ | refine blk_drew ?_ | refine blk_alloc ?_ _)); exact BK179.out⟩, ⟨by (with_reducible repeat (first | refine blk_drewN ?_ _ | refine blk_drew ?_ | refine blk_alloc ?_ _)); refine blk_far ?_ NB180_189.out _; (with_reducible repeat (first | refine blk_drewN ?_ _ | refine blk_drew ?_ | refine blk_alloc ?_ _)); exact BK180.out⟩, ⟨by (with_reducible repeat (first | refine blk_drewN ?_ _ | refine blk_drew ?_ | refine blk_alloc ?_ _)); refine blk_far ?_ NB188_189.out _; (with_reducible repeat (first | refine blk_drewN ?_ _ | refine blk_drew ?_ | refine blk_alloc ?_ _)); exact BK188.out⟩, ⟨by (with_reducible repeat (first | refine blk_drewN ?_ _ | refine blk_drew ?_ | refine blk_alloc ?_ _)); refine blk_put (cs := #[u190000]) ?_ 0 _ rfl; (with_reducible repeat (first | refine blk_drewN ?_ _ | refine blk_drew ?_ | refine blk_alloc ?_ _)); exact BK189.out⟩, ⟨by repeat (first | (with_reducible first | exact HB.out | apply below_alloc | apply pw_below_drewN | apply below_drew1 | refine below_set ?_ GE178.out | refine below_set ?_ GE179.out | refine below_set ?_ GE180.out | refine below_set ?_ GE188.out | refine below_set ?_ GE189.out) | exact HB.out)⟩⟩
        ·rw [if_neg c70] at H
         exact absurd H (by simp)
      ·rw [if_neg c43] at H
       exact absurd H (by simp)
    ·rw [if_neg c29] at H
     have c29b0 : decide (x9_1 < (t185.length : Int)) = false := decide_eq_false c29
     clear c29
     have HC82 := Aside0.mk H
     clear H
     have hnb83 := NB188_178.out
     have hnc83 := NB178_188.out
     have hnb84 := NB188_179.out
     have hnc84 := NB179_188.out
     have hnb85 := NB188_180.out
     have hnc85 := NB180_188.out
     have hnb86 := NB188_189.out
     have hnc86 := NB189_188.out
     have hcz87_0 := cz_ BK188 0 (.slice Ao18 t185.length co18)
     have hfz87_0 := blk_frozen BK188.out 0
     go_upto_if 57 with (fail)
     go_cut [] (fun wc => ∃ (kq : Nat) (x190000_81 : List (S43)) (u190000 : Value), Aside0 (spec_PutRoute.j1 kq l0_0 x190000_81 = some (r1, r2)) ∧ Aside0 (kq ≤ k1) ∧ Aside0 (Kd.R k43 43 wc w.heap.size (fun k_ => some k_ ≠ (u190000 : Value).ownBlock ∧ k_ ≠ gb179) (.slice Ao18 t185.length co18) t185) ∧ Aside0 (Kd.R k43 43 wc w.heap.size (fun k_ => some k_ ≠ ((.slice Ao18 t185.length co18) : Value).ownBlock ∧ k_ ≠ gb179) u190000 x190000_81) ∧ Aside0 (wc.heap[gb178]? = some (.cells #[(.slice A0_0 l0_0.length c0_0)] 30 (0, 0))) ∧ Aside0 (wc.heap[gb179]? = some (.cells #[.int .i64 a1_0, .int .i64 a1_1, .int .i64 a1_2] 43 (0, 0))) ∧ Aside0 (wc.heap[gb180]? = some (.cells #[(.slice none 0 0)] 30 (0, 0))) ∧ Aside0 (wc.heap[gb188]? = some (.cells #[(.slice Ao18 t185.length co18)] 30 (0, 0))) ∧ Aside0 (wc.heap[gb189]? = some (.cells #[u190000] 30 (0, 0))) ∧ Aside0 (Below w.heap.size w wc))
     case first =>
      have H := HC82.out
      clear HC82
      by_cases c88 : x8_1 = true
      ·subst c88
       rw [if_pos rfl] at H
       have H' := Aside0.mk H
       clear H
       go_wp2
       go_meet
       case rel => exact ⟨_, (x190000_1), (u190000), H', ⟨by have := HK1.out; first | omega | exact Nat.le_refl _⟩, ⟨by (with_reducible repeat (first | apply Kd.R_alloc | apply Kd.R_drewN | apply Kd.R_drew)); exact HO_189000.out⟩, ⟨by (with_reducible repeat (first | apply Kd.R_alloc | apply Kd.R_drewN | apply Kd.R_drew)); exact HO_190000.out⟩, ⟨by (with_reducible repeat (first | refine blk_drewN ?_ _ | refine blk_drew ?_ | refine blk_alloc ?_ _)); exact BK178.out⟩, ⟨by (with_reducible repeat (first | refine blk_drewN ?_ _ | refine blk_drew ?_ | refine blk_alloc ?_ _)); exact BK179.out⟩, ⟨by (with_reducible repeat (first | refine blk_drewN ?_ _ | refine blk_drew ?_ | refine blk_alloc ?_ _)); exact BK180.out⟩, ⟨by (with_reducible repeat (first | refine blk_drewN ?_ _ | refine blk_drew ?_ | refine blk_alloc ?_ _)); exact BK188.out⟩, ⟨by (with_reducible repeat (first | refine blk_drewN ?_ _ | refine blk_drew ?_ | refine blk_alloc ?_ _)); exact BK189.out⟩, ⟨by repeat (first | (with_reducible first | exact HB.out | apply below_alloc | apply pw_below_drewN | apply below_drew1 | refine below_set ?_ GE178.out | refine below_set ?_ GE179.out | refine below_set ?_ GE180.out | refine below_set ?_ GE188.out | refine below_set ?_ GE189.out) | exact HB.out)⟩⟩
      ·replace c88 := Bool.eq_false_iff.mpr c88
       subst c88
       rw [if_neg (show ¬ (false = true) by decide)] at H
       by_cases c89 : x190000_1.length < 5864062014805
       ·rw [if_pos c89] at H
        have LMc89 := Aside0.mk c89
        clear c89
        obtain ⟨y207, hy207⟩ : ∃ y_ : List (S43), y_ = (x190000_1 ++ [(⟨(⟨a1_0, a1_1⟩ : S34), a1_2⟩ : S43)]) := ⟨_, rfl⟩
        replace H : (spec_PutRoute.j1 k1 l0_0 y207) = some (r1, r2) := by first | (rw [hy207]; with_reducible exact H) | (have H2_ := (Option.bind_some _ _).symm.trans H; rw [hy207]; with_reducible exact H2_) | (have H2_ := (Option.bind_some _ _).symm.trans H; with_reducible exact H2_) | with_reducible exact H | (rw [hy207]; exact H) | exact H
        have Ny207 := Aside0.mk hy207
        clear hy207
        have H' := Aside0.mk H
        clear H
        have hnb90 := NB189_178.out
        have hnc90 := NB178_189.out
        have hnb91 := NB189_179.out
        have hnc91 := NB179_189.out
        have hnb92 := NB189_180.out
        have hnc92 := NB180_189.out
        have hnb93 := NB189_188.out
        have hnc93 := NB188_189.out
        have hcz94_0 := cz_ BK189 0 (u190000)
        have hfz94_0 := blk_frozen BK189.out 0
        have hnb95 := NB179_178.out
        have hnc95 := NB178_179.out
        have hnb96 := NB179_180.out
        have hnc96 := NB180_179.out
        have hnb97 := NB179_188.out
        have hnc97 := NB188_179.out
        have hcz98_0 := cz_ BK179 0 (.int .i64 a1_0)
        have hcz98_1 := cz_ BK179 1 (.int .i64 a1_1)
        have hcz98_2 := cz_ BK179 2 (.int .i64 a1_2)
        have hfz98_0 := blk_frozen BK179.out 0
        have hfz98_1 := blk_frozen BK179.out 1
        have hfz98_2 := blk_frozen BK179.out 2
        go_wp2_with (first | ((with_reducible refine gate_builtin (b := .append) (xs := #[.tmp 59, .tmp 61]) rfl ?_); at_builtin; refine Kd.R_append k43 (w0 := w) w.heap.size rfl (.tmp 59) (.tmp 61) 28 43 (.agg #[(.int .i64 0), (.int .i64 0), (.int .i64 0)]) 24 rfl Try.underlying28 info43 rfl (by decide) (by omega) u190000 x190000_1 (⟨(⟨a1_0, a1_1⟩ : S34), a1_2⟩ : S43) [.int .i64 a1_0, .int .i64 a1_1, .int .i64 a1_2] (fun k_ => some k_ ≠ (.slice Ao18 t185.length co18 : Value).ownBlock ∧ k_ ≠ gb179) (fun _ => False) rfl rfl ?aP (fun _ hk => hk.elim) ?aF ?aO ?aB ?aS ?aL ?_; (case aP => exact k43_mkM _ _ _ (⟨(⟨a1_0, a1_1⟩ : S34), a1_2⟩ : S43)); (case aB => exact (by repeat (first | (with_reducible first | exact HB.out | apply below_alloc | apply pw_below_drewN | apply below_drew1 | refine below_set ?_ GE178.out | refine below_set ?_ GE179.out | refine below_set ?_ GE180.out | refine below_set ?_ GE188.out | refine below_set ?_ GE189.out) | exact HB.out))); (case aF => exact (fun k_ hk => ⟨Kd.fresh' (Kd.R_lt (hd_ HO_189000)) k_ hk, Kd.freshB (g := gb179) (o := .cells #[.int .i64 a1_0, .int .i64 a1_1, .int .i64 a1_2] 43 (0, 0)) (by (with_reducible repeat (first | refine blk_drewN ?_ _ | refine blk_drew ?_ | refine blk_alloc ?_ _)); exact BK179.out) k_ hk⟩)); (case aO => exact (hd_ HO_190000)); (case aS => exact (bz_ HB)); (case aL => have := LMc89.out; omega); intro v208 w99 ho hb hg hat; rw [← Ny207.out] at ho; have HO209 := Aside0.mk ho; replace HO_189000 := Aside0.mk (Kd.R_after (ok := (fun k_ => k_ ≠ gb179)) (by (with_reducible repeat (first | apply Kd.R_alloc | apply Kd.R_drewN | apply Kd.R_drew)); exact Kd.R_mono HO_189000.out (fun _ hk => by first | exact ⟨hk.2, hk.1⟩ | grind)) hg hat); replace BK178 := Aside0.mk (blk_grown (g := gb178) (o := .cells #[.slice A0_0 l0_0.length c0_0] 30 (0, 0)) (by (with_reducible repeat (first | refine blk_drewN ?_ _ | refine blk_drew ?_ | refine blk_alloc ?_ _)); exact BK178.out) hg (Kd.R_ne HO_190000.out BK178.out (by decide))); replace BK179 := Aside0.mk (blk_grown (g := gb179) (o := .cells #[.int .i64 a1_0, .int .i64 a1_1, .int .i64 a1_2] 43 (0, 0)) (by (with_reducible repeat (first | refine blk_drewN ?_ _ | refine blk_drew ?_ | refine blk_alloc ?_ _)); exact BK179.out) hg (Kd.R_away HO_190000.out (fun _ hk => hk.2))); replace BK180 := Aside0.mk (blk_grown (g := gb180) (o := .cells #[.slice none 0 0] 30 (0, 0)) (by (with_reducible repeat (first | refine blk_drewN ?_ _ | refine blk_drew ?_ | refine blk_alloc ?_ _)); exact BK180.out) hg (Kd.R_ne HO_190000.out BK180.out (by decide))); replace BK188 := Aside0.mk (blk_grown (g := gb188) (o := .cells #[.slice Ao18 t185.length co18] 30 (0, 0)) (by (with_reducible repeat (first | refine blk_drewN ?_ _ | refine blk_drew ?_ | refine blk_alloc ?_ _)); exact BK188.out) hg (Kd.R_ne HO_190000.out BK188.out (by decide))); replace BK189 := Aside0.mk (blk_grown (g := gb189) (o := .cells #[u190000] 30 (0, 0)) (by (with_reducible repeat (first | refine blk_drewN ?_ _ | refine blk_drew ?_ | refine blk_alloc ?_ _)); exact BK189.out) hg (Kd.R_ne HO_190000.out BK189.out (by decide))); replace HB := Aside0.mk (hb); clear HO_190000; clear ho hb hg hat; obtain ⟨Ao100, co100, eo100⟩ := Kd.R_slice HO209.out; subst eo100; have hcz101_0 := cz_ BK189 0 (u190000); have hfz101_0 := blk_frozen BK189.out 0))
        go_meet
        case rel => exact ⟨_, (y207), (.slice Ao100 y207.length co100), H', ⟨by have := HK1.out; first | omega | exact Nat.le_refl _⟩, ⟨by (with_reducible repeat (first | apply Kd.R_alloc | apply Kd.R_drewN | apply Kd.R_drew)); exact Kd.R_mono (Kd.R_far (p := ⟨gb189, 0, none⟩) (Kd.R_types HO_189000.out BK189.out (by decide)) (fun _ hk => hk.2) (.slice Ao100 y207.length co100)) (fun _ hk => by first | exact ⟨hk.1.2, hk.1.1⟩ | grind)⟩, ⟨by (with_reducible repeat (first | apply Kd.R_alloc | apply Kd.R_drewN | apply Kd.R_drew)); exact Kd.R_mono (Kd.R_far (p := ⟨gb189, 0, none⟩) (Kd.R_types HO209.out BK189.out (by decide)) (fun _ hk => hk.2) (.slice Ao100 y207.length co100)) (fun _ hk => by first | exact ⟨hk.1.1, hk.1.2⟩ | grind)⟩, ⟨by (with_reducible repeat (first | refine blk_drewN ?_ _ | refine blk_drew ?_ | refine blk_alloc ?_ _)); refine blk_far ?_ NB178_189.out _; (with_reducible repeat (first | refine blk_drewN ?_ _ | refine blk_drew ?_ | refine blk_alloc ?_ _)); exact BK178.out⟩, ⟨by (with_reducible repeat (first | refine blk_drewN ?_ _ | refine blk_drew ?_ | refine blk_alloc ?_ _)); refine blk_far ?_ NB179_189.out _; (with_reducible repeat (first | refine blk_drewN ?_ _ | refine blk_drew ?_ | refine blk_alloc ?_ _)); exact BK179.out⟩, ⟨by (with_reducible repeat (first | refine blk_drewN ?_ _ | refine blk_drew ?_ | refine blk_alloc ?_ _)); refine blk_far ?_ NB180_189.out _; (with_reducible repeat (first | refine blk_drewN ?_ _ | refine blk_drew ?_ | refine blk_alloc ?_ _)); exact BK180.out⟩, ⟨by (with_reducible repeat (first | refine blk_drewN ?_ _ | refine blk_drew ?_ | refine blk_alloc ?_ _)); refine blk_far ?_ NB188_189.out _; (with_reducible repeat (first | refine blk_drewN ?_ _ | refine blk_drew ?_ | refine blk_alloc ?_ _)); exact BK188.out⟩, ⟨by (with_reducible repeat (first | refine blk_drewN ?_ _ | refine blk_drew ?_ | refine blk_alloc ?_ _)); refine blk_put (cs := #[u190000]) ?_ 0 _ rfl; (with_reducible repeat (first | refine blk_drewN ?_ _ | refine blk_drew ?_ | refine blk_alloc ?_ _)); exact BK189.out⟩, ⟨by repeat (first | (with_reducible first | exact HB.out | apply below_alloc | apply pw_below_drewN | apply below_drew1 | refine below_set ?_ GE178.out | refine below_set ?_ GE179.out | refine below_set ?_ GE180.out | refine below_set ?_ GE188.out | refine below_set ?_ GE189.out) | exact HB.out)⟩⟩
       ·rw [if_neg c89] at H
        exact absurd H (by simp)
     case rest =>
      clear HC82
      try clear p1
      try clear q1
      try clear hx1
      try clear c2
      try clear p2
      try clear q2
      try clear hx2
      try clear c3
      try clear c4
      try clear p6
      try clear c7
      try clear c8
      try clear c9
      try clear p19
      try clear q19
      try clear hx19
      try clear p20
      try clear q20
      try clear hx20
      try clear c29
      try clear c29b0
      try clear c37
      try clear c43
      try clear c45
      try clear c46
      try clear c47
      try clear p64
      try clear c70
      try clear c71
      try clear c72
      try clear c73
      try clear c74
      try clear c83
      try clear c84
      try clear c85
      try clear c86
      try clear c88
      try clear c89
      try clear c90
      try clear c91
      try clear c92
      try clear c93
      try clear c95
      try clear c96
      try clear c97
      try clear hcz101_0
      try clear hcz75_0
      try clear hcz87_0
      try clear hcz94_0
      try clear hcz98_0
      try clear hcz98_1
      try clear hcz98_2
      try clear hfz101_0
      try clear hfz75_0
      try clear hfz87_0
      try clear hfz94_0
      try clear hfz98_0
      try clear hfz98_1
      try clear hfz98_2
      try clear hx194_0
      try clear hx194_1
      try clear hx194_2
      try clear hx203_0
      try clear hx203_1
      try clear hx203_2
      try clear p194
      try clear p203
      try clear q194
      try clear q203
      obtain ⟨kq, x190000_81, u190000, HA, HJ81, HO_189000, HO_190000, BK178, BK179, BK180, BK188, BK189, HB⟩ := hcut
      cases kq with
      | zero => exact absurd HA.out (by simp [spec_PutRoute.j1])
      | succ kj81 =>
       have H := HA.out
       clear HA
       simp only [spec_PutRoute.j1] at H
       replace H := Option.bind_eq_some_iff.mp H
       obtain ⟨t210, A1020, H⟩ := H
       have A102 := Aside0.mk A1020
       clear A1020
       by_cases c103 : t210 = true
       ·subst c103
        rw [if_pos rfl] at H
        simp only [Option.some.injEq, Prod.mk.injEq] at H
        obtain ⟨rfl, rfl⟩ := H
        have hnb104 := NB189_178.out
        have hnc104 := NB178_189.out
        have hnb105 := NB189_179.out
        have hnc105 := NB179_189.out
        have hnb106 := NB189_180.out
        have hnc106 := NB180_189.out
        have hnb107 := NB189_188.out
        have hnc107 := NB188_189.out
        have hcz108_0 := cz_ BK189 0 (u190000)
        have hfz108_0 := blk_frozen BK189.out 0
        obtain ⟨Ao109, co109, eo109⟩ := Kd.R_slice HO_190000.out
        subst eo109
        go_wp2_with (first | ((with_reducible refine gate_callee (f := 27) rfl ?_); refine gl_ (some 65) Try.func27 #[.agg #[.slice Ao109 x190000_81.length co109]] ?_; (with_reducible refine (spec_TableOk.calls kj81 _ _ x190000_81 true _ ?side1 ?side2 A102.out).mono ?_); (case side1 => exact rc_ HO_190000); (case side2 => exact (Kd.R_reads' HO_190000.out).2.1); rintro e w110 ⟨rfl, hb⟩; refine ⟨_, rfl, ?_⟩; replace HO_189000 := rb_ HO_189000 hb; replace HO_190000 := rb_ HO_190000 hb; replace BK178 := Aside0.mk (bb_ BK178 hb); replace BK179 := Aside0.mk (bb_ BK179 hb); replace BK180 := Aside0.mk (bb_ BK180 hb); replace BK188 := Aside0.mk (bb_ BK188 hb); replace BK189 := Aside0.mk (bb_ BK189 hb); replace HB := Aside0.mk (bt_ HB hb); (try clear hb); (try clear hb2); (try clear hk); (try clear hi); have hcz111_0 := cz_ BK189 0 (.slice Ao109 x190000_81.length co109); have hfz111_0 := blk_frozen BK189.out 0; have hnb112 := NB180_178.out; have hnc112 := NB178_180.out; have hnb113 := NB180_179.out; have hnc113 := NB179_180.out; have hnb114 := NB180_188.out; have hnc114 := NB188_180.out; have hcz115_0 := cz_ BK180 0 (.slice none 0 0); have hfz115_0 := blk_frozen BK180.out 0))
        refine bodyPost_ret (results_ct rfl _ _ gb180 30 #[.slice Ao109 x190000_81.length co109] (0, 0) _ rfl (by (with_reducible repeat (first | refine blk_drewN ?_ _ | refine blk_drew ?_ | refine blk_alloc ?_ _)); refine blk_put (cs := #[.slice none 0 0]) ?_ 0 _ rfl; (with_reducible repeat (first | refine blk_drewN ?_ _ | refine blk_drew ?_ | refine blk_alloc ?_ _)); exact BK180.out) Try.underlying30 rfl (by kernel_rfl)) rfl ?_
        exact ⟨_, by first | rfl | (simp [errW_none, errW_some] <;> rfl) | (simp [*, errW_none, errW_some] <;> rfl), by (with_reducible repeat (first | apply Kd.R_alloc | apply Kd.R_drewN | apply Kd.R_drew)); exact Kd.R_mono (Kd.R_far (p := ⟨gb180, 0, none⟩) (Kd.R_types HO_190000.out BK180.out (by decide)) (fun _ hk => hk.2) (.slice Ao109 x190000_81.length co109)) (fun _ hk => trivial), by repeat (first | (with_reducible first | exact HB.out | apply below_alloc | apply pw_below_drewN | apply below_drew1 | refine below_set ?_ GE178.out | refine below_set ?_ GE179.out | refine below_set ?_ GE180.out | refine below_set ?_ GE188.out | refine below_set ?_ GE189.out) | exact HB.out)⟩
       ·replace c103 := Bool.eq_false_iff.mpr c103
        subst c103
        rw [if_neg (show ¬ (false = true) by decide)] at H
        replace H := Option.bind_eq_some_iff.mp H
        obtain ⟨t211, A1160, H⟩ := H
        have A116 := Aside0.mk A1160
        clear A1160
        simp only [Option.some.injEq, Prod.mk.injEq] at H
        obtain ⟨rfl, rfl⟩ := H
        have hnb117 := NB189_178.out
        have hnc117 := NB178_189.out
        have hnb118 := NB189_179.out
        have hnc118 := NB179_189.out
        have hnb119 := NB189_180.out
        have hnc119 := NB180_189.out
        have hnb120 := NB189_188.out
        have hnc120 := NB188_189.out
        have hcz121_0 := cz_ BK189 0 (u190000)
        have hfz121_0 := blk_frozen BK189.out 0
        obtain ⟨Ao122, co122, eo122⟩ := Kd.R_slice HO_190000.out
        subst eo122
        go_wp2_with (first | ((with_reducible refine gate_callee (f := 27) rfl ?_); refine gl_ (some 65) Try.func27 #[.agg #[.slice Ao122 x190000_81.length co122]] ?_; (with_reducible refine (spec_TableOk.calls kj81 _ _ x190000_81 false _ ?side1 ?side2 A102.out).mono ?_); (case side1 => exact rc_ HO_190000); (case side2 => exact (Kd.R_reads' HO_190000.out).2.1); rintro e w123 ⟨rfl, hb⟩; refine ⟨_, rfl, ?_⟩; replace HO_189000 := rb_ HO_189000 hb; replace HO_190000 := rb_ HO_190000 hb; replace BK178 := Aside0.mk (bb_ BK178 hb); replace BK179 := Aside0.mk (bb_ BK179 hb); replace BK180 := Aside0.mk (bb_ BK180 hb); replace BK188 := Aside0.mk (bb_ BK188 hb); replace BK189 := Aside0.mk (bb_ BK189 hb); replace HB := Aside0.mk (bt_ HB hb); (try clear hb); (try clear hb2); (try clear hk); (try clear hi); have hnb124 := NB178_179.out; have hnc124 := NB179_178.out; have hnb125 := NB178_180.out; have hnc125 := NB180_178.out; have hnb126 := NB178_188.out; have hnc126 := NB188_178.out; have hcz127_0 := cz_ BK178 0 (.slice A0_0 l0_0.length c0_0); have hfz127_0 := blk_frozen BK178.out 0) | ((with_reducible refine gate_callee (f := 28) rfl ?_); refine gl_ (some 68) Try.func28 #[.agg #[.slice A0_0 l0_0.length c0_0]] ?_; (with_reducible refine (spec_l02Copy.calls kj81 _ _ l0_0 t211 _ ?side1 ?side2 A116.out).mono ?_); (case side1 => exact cb_ HR0_0 HB); (case side2 => exact HC0_0.out); rintro e w128 ⟨v212, rfl, ho0, hb⟩; refine ⟨_, rfl, ?_⟩; have HO213 := Aside0.mk (Kd.R_lower (Kd.R_newB (Kd.R_new' (Kd.R_new' ho0 (Kd.R_lt (hd_ HO_189000))) (Kd.R_lt (hd_ HO_190000))) (g := gb179) (o := .cells #[.int .i64 a1_0, .int .i64 a1_1, .int .i64 a1_2] 43 (0, 0)) (by (with_reducible repeat (first | refine blk_drewN ?_ _ | refine blk_drew ?_ | refine blk_alloc ?_ _)); exact BK179.out)) (bz_ HB)); replace HO_189000 := Aside0.mk (Kd.R_elder' (hd_ HO_189000) (Kd.R_base ho0) hb); replace HO_190000 := Aside0.mk (Kd.R_elder' (hd_ HO_190000) (Kd.R_base ho0) hb); replace BK178 := Aside0.mk (bb_ BK178 hb); replace BK179 := Aside0.mk (bb_ BK179 hb); replace BK180 := Aside0.mk (bb_ BK180 hb); replace BK188 := Aside0.mk (bb_ BK188 hb); replace BK189 := Aside0.mk (bb_ BK189 hb); replace HB := Aside0.mk (bt_ HB hb); (try clear hb); (try clear hb2); (try clear hk); (try clear hi); (try clear ho0); obtain ⟨Ao129, co129, eo129⟩ := Kd.R_slice HO213.out; subst eo129; have hnb130 := NB180_179.out; have hnc130 := NB179_180.out; have hnb131 := NB180_188.out; have hnc131 := NB188_180.out; have hcz132_0 := cz_ BK180 0 (.slice none 0 0); have hfz132_0 := blk_frozen BK180.out 0))
        refine bodyPost_ret (results_ct rfl _ _ gb180 30 #[.slice Ao129 t211.length co129] (0, 0) _ rfl (by (with_reducible repeat (first | refine blk_drewN ?_ _ | refine blk_drew ?_ | refine blk_alloc ?_ _)); refine blk_put (cs := #[.slice none 0 0]) ?_ 0 _ rfl; (with_reducible repeat (first | refine blk_drewN ?_ _ | refine blk_drew ?_ | refine blk_alloc ?_ _)); exact BK180.out) Try.underlying30 rfl (by kernel_rfl)) rfl ?_
        exact ⟨_, by first | rfl | (simp [errW_none, errW_some] <;> rfl) | (simp [*, errW_none, errW_some] <;> rfl), by (with_reducible repeat (first | apply Kd.R_alloc | apply Kd.R_drewN | apply Kd.R_drew)); exact Kd.R_mono (Kd.R_far (p := ⟨gb180, 0, none⟩) (Kd.R_types HO213.out BK180.out (by decide)) (fun _ hk => hk.2) (.slice Ao129 t211.length co129)) (fun _ hk => trivial), by repeat (first | (with_reducible first | exact HB.out | apply below_alloc | apply pw_below_drewN | apply below_drew1 | refine below_set ?_ GE178.out | refine below_set ?_ GE179.out | refine below_set ?_ GE180.out | refine below_set ?_ GE188.out | refine below_set ?_ GE189.out) | exact HB.out)⟩
 ·replace c4 := Bool.eq_false_iff.mpr c4
  subst c4
  rw [if_neg (show ¬ (false = true) by decide)] at H
  replace H := Option.bind_eq_some_iff.mp H
  obtain ⟨t182, A1330, H⟩ := H
  have A133 := Aside0.mk A1330
  clear A1330
  simp only [Option.some.injEq, Prod.mk.injEq] at H
  obtain ⟨rfl, rfl⟩ := H
  go_enter Try.func15, Try.ntmps15
  go_wp2_with (first | ((with_reducible refine gate_dst (N := 2) rfl ?_); refine box_event ?hg (N := 2) ?hd (cs := #[.slice A0_0 l0_0.length c0_0]) (t := 30) ?hr ?_; (case hd => rfl); (case hg => rfl); (case hr => first | (go_simp; done) | (go_simp; rfl)); intro gb178 hg w134 hbox hb; have BK178 := Aside0.mk hbox; have GW178 := ge_ HB hg; have GE178 := ge_ HB hg; replace HB := Aside0.mk (bt_ HB hb); clear hb hbox hg) | ((with_reducible refine gate_dst (N := 3) rfl ?_); refine box_event ?hg (N := 3) ?hd (cs := #[.int .i64 a1_0, .int .i64 a1_1, .int .i64 a1_2]) (t := 43) ?hr ?_; (case hd => rfl); (case hg => rfl); (case hr => first | (go_simp; done) | (go_simp; rfl)); intro gb179 hg w135 hbox hb; have BK179 := Aside0.mk hbox; have GW179 := ge_ HB hg; have GE179 := ge_ HB hg; have NB178_179 := nl_ BK178 hg; have NB179_178 := ng_ BK178 hg; replace HB := Aside0.mk (bt_ HB hb); replace BK178 := Aside0.mk (bb_ BK178 hb); clear hb hbox hg) | ((with_reducible refine gate_dst (N := 4) rfl ?_); refine box_event ?hg (N := 4) ?hd (cs := #[.slice none 0 0]) (t := 30) ?hr ?_; (case hd => rfl); (case hg => rfl); (case hr => first | (go_simp; done) | (go_simp; rfl)); intro gb180 hg w136 hbox hb; have BK180 := Aside0.mk hbox; have GW180 := ge_ HB hg; have GE180 := ge_ HB hg; have NB178_180 := nl_ BK178 hg; have NB180_178 := ng_ BK178 hg; have NB179_180 := nl_ BK179 hg; have NB180_179 := ng_ BK179 hg; replace HB := Aside0.mk (bt_ HB hb); replace BK178 := Aside0.mk (bb_ BK178 hb); replace BK179 := Aside0.mk (bb_ BK179 hb); clear hb hbox hg; have hnb137 := NB178_179.out; have hnc137 := NB179_178.out; have hnb138 := NB178_180.out; have hnc138 := NB180_178.out; have hcz139_0 := cz_ BK178 0 (.slice A0_0 l0_0.length c0_0); have hfz139_0 := blk_frozen BK178.out 0) | ((with_reducible refine gate_callee (f := 27) rfl ?_); refine gl_ (some 11) Try.func27 #[.agg #[.slice A0_0 l0_0.length c0_0]] ?_; (with_reducible refine (spec_TableOk.calls k _ _ l0_0 false _ ?side1 ?side2 A3.out).mono ?_); (case side1 => exact cb_ HR0_0 HB); (case side2 => exact HC0_0.out); rintro e w140 ⟨rfl, hb⟩; refine ⟨_, rfl, ?_⟩; replace BK178 := Aside0.mk (bb_ BK178 hb); replace BK179 := Aside0.mk (bb_ BK179 hb); replace BK180 := Aside0.mk (bb_ BK180 hb); replace HB := Aside0.mk (bt_ HB hb); (try clear hb); (try clear hb2); (try clear hk); (try clear hi); have hcz141_0 := cz_ BK178 0 (.slice A0_0 l0_0.length c0_0); have hfz141_0 := blk_frozen BK178.out 0) | ((with_reducible refine gate_callee (f := 28) rfl ?_); refine gl_ (some 14) Try.func28 #[.agg #[.slice A0_0 l0_0.length c0_0]] ?_; (with_reducible refine (spec_l02Copy.calls k _ _ l0_0 t182 _ ?side1 ?side2 A133.out).mono ?_); (case side1 => exact cb_ HR0_0 HB); (case side2 => exact HC0_0.out); rintro e w142 ⟨v183, rfl, ho0, hb⟩; refine ⟨_, rfl, ?_⟩; have HO184 := Aside0.mk (Kd.R_lower (Kd.R_newB ho0 (g := gb179) (o := .cells #[.int .i64 a1_0, .int .i64 a1_1, .int .i64 a1_2] 43 (0, 0)) (by (with_reducible repeat (first | refine blk_drewN ?_ _ | refine blk_drew ?_ | refine blk_alloc ?_ _)); exact BK179.out)) (bz_ HB)); replace BK178 := Aside0.mk (bb_ BK178 hb); replace BK179 := Aside0.mk (bb_ BK179 hb); replace BK180 := Aside0.mk (bb_ BK180 hb); replace HB := Aside0.mk (bt_ HB hb); (try clear hb); (try clear hb2); (try clear hk); (try clear hi); (try clear ho0); obtain ⟨Ao143, co143, eo143⟩ := Kd.R_slice HO184.out; subst eo143; have hnb144 := NB180_179.out; have hnc144 := NB179_180.out; have hcz145_0 := cz_ BK180 0 (.slice none 0 0); have hfz145_0 := blk_frozen BK180.out 0))
  refine bodyPost_ret (results_ct rfl _ _ gb180 30 #[.slice Ao143 t182.length co143] (0, 0) _ rfl (by (with_reducible repeat (first | refine blk_drewN ?_ _ | refine blk_drew ?_ | refine blk_alloc ?_ _)); refine blk_put (cs := #[.slice none 0 0]) ?_ 0 _ rfl; (with_reducible repeat (first | refine blk_drewN ?_ _ | refine blk_drew ?_ | refine blk_alloc ?_ _)); exact BK180.out) Try.underlying30 rfl (by kernel_rfl)) rfl ?_
  exact ⟨_, by first | rfl | (simp [errW_none, errW_some] <;> rfl) | (simp [*, errW_none, errW_some] <;> rfl), by (with_reducible repeat (first | apply Kd.R_alloc | apply Kd.R_drewN | apply Kd.R_drew)); exact Kd.R_mono (Kd.R_far (p := ⟨gb180, 0, none⟩) (Kd.R_types HO184.out BK180.out (by decide)) (fun _ hk => hk.2) (.slice Ao143 t182.length co143)) (fun _ hk => trivial), by repeat (first | (with_reducible first | exact HB.out | apply below_alloc | apply pw_below_drewN | apply below_drew1 | refine below_set ?_ GE178.out | refine below_set ?_ GE179.out | refine below_set ?_ GE180.out) | exact HB.out)⟩

end Go.Proofs.Ytflfbaofgfandaa.QFnExactPutRoute
