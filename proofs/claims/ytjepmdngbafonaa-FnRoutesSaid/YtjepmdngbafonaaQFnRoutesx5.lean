/- Contracts of functions that the law reaches: what each call returns and what it leaves in memory. Made by this session over the print of the kit. -/
import Derived.Test.YtjepmdngbafonaaQFnRoutesx0
import Derived.Test.YtjepmdngbafonaaQFnRoutesx2
import Derived.Test.YtjepmdngbafonaaQFnRoutesx3
import Derived.Test.YtjepmdngbafonaaQFnRoutesx4
namespace Go.Proofs.Ytjepmdngbafonaa.QFnRoutes
open Go.RowKit Go.Proofs.YtjepmdngbafonaaR.PrintWords Go.Proofs.YtjepmdngbafonaaR.PrintLast Go.Proofs.YtjepmdngbafonaaR.PrintMore
attribute [local go_sem] max2_int min2_int max_two min_two max_three min_three max_four min_four   -- for this text's walks alone
set_option linter.unusedVariables false
set_option linter.unusedSimpArgs false
def ba5_0 : Array Bool := bs_ 13 0
def ba5_1 : Array Bool := bs_ 13 1
def ba5_2 : Array Bool := bs_ 13 3
def ba5_3 : Array Bool := bs_ 13 7
def ba5_4 : Array Bool := bs_ 13 15
def ba5_5 : Array Bool := bs_ 13 31
def ba5_6 : Array Bool := bs_ 13 63
def ba5_7 : Array Bool := bs_ 13 127
def ba5_8 : Array Bool := bs_ 13 255
def ba5_9 : Array Bool := bs_ 13 511
def ba5_10 : Array Bool := bs_ 13 1023
def ba5_11 : Array Bool := bs_ 13 2047
def ba5_12 : Array Bool := bs_ 13 4095
def ba5_13 : Array Bool := bs_ 13 8191
def ba5_14 : Array Bool := bs_ 11 0
def ba5_15 : Array Bool := bs_ 11 1
def ba5_16 : Array Bool := bs_ 11 5
def ba5_17 : Array Bool := bs_ 11 21
def ba5_18 : Array Bool := bs_ 11 23
def ba5_19 : Array Bool := bs_ 11 31
def ba5_20 : Array Bool := bs_ 11 63
def ba5_21 : Array Bool := bs_ 11 127
def ba5_22 : Array Bool := bs_ 11 255
def ba5_23 : Array Bool := bs_ 11 511
def ba5_24 : Array Bool := bs_ 11 1023
def ba5_25 : Array Bool := bs_ 11 2047
def ba5_26 : Array Bool := bs_ 13 47
def ba5_27 : Array Bool := bs_ 13 175
def ba5_28 : Array Bool := bs_ 13 191

/-! ### spec_PutRoute: function 10 -/
mutual
def spec_PutRoute.l0 : Nat → Bool → Int → List (S30) → Int → Int → Int → List (S30) → List (S30) → Option ((List (S30)) × Bool)
 | 0, _, _, _, _, _, _, _, _ => none
 | k + 1, x8, x9, x149000, x150000, x150001, x150002, x159000, x160000 => if x9 < (x159000.length : Int) then (if x8 = true then (if 0 ≤ x9 then (if x160000.length < 5864062014805 then (spec_PutRoute.l0 k x8 (wrap64 (x9 + 1)) x149000 x150000 x150001 x150002 x159000 (x160000 ++ [(⟨(⟨(rd_T30 x159000 x9).f0.f0, (rd_T30 x159000 x9).f0.f1⟩ : S28), (rd_T30 x159000 x9).f1⟩ : S30)])) else (none)) else (none)) else (if 0 ≤ x9 then ((spec_l02Ahead.f x150000 x150001 ((rd_T30 x159000 x9).f0.f0) ((rd_T30 x159000 x9).f0.f1)).bind fun t165 => (if t165 = true then (if x160000.length < 5864062014805 then ((some (x160000 ++ [(⟨(⟨x150000, x150001⟩ : S28), x150002⟩ : S30)] : List (S30))).bind fun y166 => (if y166.length < 5864062014805 then (spec_PutRoute.l0 k true (wrap64 (x9 + 1)) x149000 x150000 x150001 x150002 x159000 (y166 ++ [(⟨(⟨(rd_T30 x159000 x9).f0.f0, (rd_T30 x159000 x9).f0.f1⟩ : S28), (rd_T30 x159000 x9).f1⟩ : S30)])) else (none))) else (none)) else (if x160000.length < 5864062014805 then (spec_PutRoute.l0 k x8 (wrap64 (x9 + 1)) x149000 x150000 x150001 x150002 x159000 (x160000 ++ [(⟨(⟨(rd_T30 x159000 x9).f0.f0, (rd_T30 x159000 x9).f0.f1⟩ : S28), (rd_T30 x159000 x9).f1⟩ : S30)])) else (none)))) else (none))) else (if x8 = true then (spec_PutRoute.j1 k x149000 x160000) else (if x160000.length < 5864062014805 then (spec_PutRoute.j1 k x149000 (x160000 ++ [(⟨(⟨x150000, x150001⟩ : S28), x150002⟩ : S30)])) else (none)))
def spec_PutRoute.j1 : Nat → List (S30) → List (S30) → Option ((List (S30)) × Bool)
 | 0, _, _ => none
 | k + 1, x149000, x160000 => (spec_TableOk.f k x160000).bind fun t180 => (if t180 = true then (some (x160000, true)) else ((spec_l02Copy.f k x149000).bind fun t181 => (some (t181, false))))
end
def spec_PutRoute.f (k : Nat) (l0_0 : List (S30)) (a1_0 : Int) (a1_1 : Int) (a1_2 : Int) : Option ((List (S30)) × Bool) := (spec_TableOk.f k l0_0).bind fun t151 => (if t151 = true then ((spec_l02Less.f k l0_0 a1_0 a1_1).bind fun t155 => (spec_PutRoute.l0 k false 0 l0_0 a1_0 a1_1 a1_2 t155 ([] : List (S30)))) else ((spec_l02Copy.f k l0_0).bind fun t152 => (some (t152, false))))
theorem spec_PutRoute.mono_l : ∀ k, (∀ y0 y1 y2 y3 y4 y5 y6 y7, LeO (spec_PutRoute.l0 k y0 y1 y2 y3 y4 y5 y6 y7) (spec_PutRoute.l0 (k + 1) y0 y1 y2 y3 y4 y5 y6 y7)) ∧ (∀ y0 y1, LeO (spec_PutRoute.j1 k y0 y1) (spec_PutRoute.j1 (k + 1) y0 y1))
 | 0 => ⟨fun _ _ _ _ _ _ _ _ r h => by simp [spec_PutRoute.l0] at h, fun _ _ r h => by simp [spec_PutRoute.j1] at h⟩
 | k + 1 => by
  obtain ⟨ih0, ih1⟩ := spec_PutRoute.mono_l k
  refine ⟨?_, ?_⟩
  ·intro y0 y1 y2 y3 y4 y5 y6 y7
   unfold spec_PutRoute.l0
   repeat' first | (with_reducible first | exact ih0 _ _ _ _ _ _ _ _ | exact ih1 _ _ | exact spec_TableOk.mono _ _ | exact spec_l02Copy.mono _ _ | exact spec_l02Less.mono _ _ _ _ | exact LeO.refl _ | exact LeO.none _ | refine LeO.ite ?_ ?_ | refine LeO.bind ?_ (fun _ => ?_)) | exact ih0 _ _ _ _ _ _ _ _ | exact ih1 _ _ | exact spec_TableOk.mono _ _ | exact spec_l02Copy.mono _ _ | exact spec_l02Less.mono _ _ _ _ | exact LeO.none _ | refine LeO.ite ?_ ?_ | refine LeO.bind ?_ (fun _ => ?_)
  ·intro y0 y1
   unfold spec_PutRoute.j1
   repeat' first | (with_reducible first | exact ih0 _ _ _ _ _ _ _ _ | exact ih1 _ _ | exact spec_TableOk.mono _ _ | exact spec_l02Copy.mono _ _ | exact spec_l02Less.mono _ _ _ _ | exact LeO.refl _ | exact LeO.none _ | refine LeO.ite ?_ ?_ | refine LeO.bind ?_ (fun _ => ?_)) | exact ih0 _ _ _ _ _ _ _ _ | exact ih1 _ _ | exact spec_TableOk.mono _ _ | exact spec_l02Copy.mono _ _ | exact spec_l02Less.mono _ _ _ _ | exact LeO.none _ | refine LeO.ite ?_ ?_ | refine LeO.bind ?_ (fun _ => ?_)
theorem spec_PutRoute.mono : ∀ a0 a1 a2 a3 k, LeO (spec_PutRoute.f k a0 a1 a2 a3) (spec_PutRoute.f (k + 1) a0 a1 a2 a3) := by
 intro a0 a1 a2 a3 k
 obtain ⟨ih0, ih1⟩ := spec_PutRoute.mono_l k
 unfold spec_PutRoute.f
 repeat' first | (with_reducible first | exact ih0 _ _ _ _ _ _ _ _ | exact ih1 _ _ | exact spec_TableOk.mono _ _ | exact spec_l02Copy.mono _ _ | exact spec_l02Less.mono _ _ _ _ | exact LeO.refl _ | exact LeO.none _ | refine LeO.ite ?_ ?_ | refine LeO.bind ?_ (fun _ => ?_)) | exact ih0 _ _ _ _ _ _ _ _ | exact ih1 _ _ | exact spec_TableOk.mono _ _ | exact spec_l02Copy.mono _ _ | exact spec_l02Less.mono _ _ _ _ | exact LeO.none _ | refine LeO.ite ?_ ?_ | refine LeO.bind ?_ (fun _ => ?_)
def spec_PutRoute.T9 : Bool × List (List Nat × List Nat) := (true, [([], []), ([0], [0]), ([1], [1]), ([2], [2]), ([3, 2], [2, 3]), ([2], [2]), ([5, 2], [2, 5]), ([2], [2]), ([6, 7, 2], [2, 6, 7]), ([8, 2], [2, 8]), ([9, 2], [2, 9]), ([4, 10, 2, 2], [2, 4, 10]), ([2, 11], [2, 11])])
def spec_PutRoute.B9 : List Nat := [0, 1, 3, 7, 15, 7, 39, 7, 231, 487, 999, 2047, 4095]
theorem spec_PutRoute.tab9 : rtab .any (opsOf Try.f10 9) = spec_PutRoute.T9 := by kernel_rfl
theorem spec_PutRoute.bits9 : waitsOk spec_PutRoute.T9.2 spec_PutRoute.B9 = true := by kernel_rfl
def spec_PutRoute.T12 : Bool × List (List Nat × List Nat) := (true, [([], []), ([0], [0]), ([], []), ([2], [2]), ([], []), ([3, 4], [3, 4]), ([5], [5]), ([6], [6]), ([1, 7], [1, 7]), ([0, 1, 2, 3, 4, 5, 6, 7, 8], []), ([9, 8, 8, 0, 1, 2, 3, 4, 5, 6, 7, 8], [8, 9])])
def spec_PutRoute.B12 : List Nat := [0, 1, 0, 4, 0, 28, 60, 124, 255, 511, 1023]
theorem spec_PutRoute.tab12 : rtab .any (opsOf Try.f10 12) = spec_PutRoute.T12 := by kernel_rfl
theorem spec_PutRoute.bits12 : waitsOk spec_PutRoute.T12.2 spec_PutRoute.B12 = true := by kernel_rfl
set_option maxHeartbeats 8000000 in
set_option maxRecDepth 100000 in
theorem spec_PutRoute.calls (k : Nat) (A0_0 : Option Addr) (c0_0 : Nat) (l0_0 : List (S30)) (a1_0 : Int) (a1_1 : Int) (a1_2 : Int) (r1 : List (S30)) (r2 : Bool) (w : World) (hr0_0 : Kd.C k30 w A0_0 l0_0.length l0_0) (hc0_0 : l0_0.length ≤ c0_0) (h : spec_PutRoute.f k l0_0 a1_0 a1_1 a1_2 = some (r1, r2)) :
  Calls Try.prog 10 #[.agg #[.slice A0_0 l0_0.length c0_0], .agg #[.int .i64 a1_0, .int .i64 a1_1, .int .i64 a1_2]] w fun e w' => ∃ v0_ : Value, e = .returned (.tuple #[.agg #[v0_], .bool r2]) ∧ Kd.R k30 30 w' w.heap.size (fun _ => True) v0_ r1 ∧ Below w.heap.size w w' := by
 have hu26 := Try.underlying26
 have hu30 := Try.underlying30
 have hu28 := Try.underlying28
 have HR0_0 := Aside0.mk hr0_0
 have HC0_0 := Aside0.mk hc0_0
 clear hr0_0 hc0_0
 have HB := Aside0.mk (Below.refl w.heap.size w)
 have H : ((spec_TableOk.f k l0_0).bind fun t151 => (if t151 = true then ((spec_l02Less.f k l0_0 a1_0 a1_1).bind fun t155 => (spec_PutRoute.l0 k false 0 l0_0 a1_0 a1_1 a1_2 t155 ([] : List (S30)))) else ((spec_l02Copy.f k l0_0).bind fun t152 => (some (t152, false))))) = some (r1, r2) := h
 clear h
 replace H := Option.bind_eq_some_iff.mp H
 obtain ⟨t151, A30, H⟩ := H
 have A3 := Aside0.mk A30
 clear A30
 by_cases c4 : t151 = true
 rotate_left
 ·replace c4 := Bool.eq_false_iff.mpr c4
  subst c4
  rw [if_neg (show ¬ (false = true) by decide)] at H
  replace H := Option.bind_eq_some_iff.mp H
  obtain ⟨t152, A1330, H⟩ := H
  have A133 := Aside0.mk A1330
  clear A1330
  simp only [Option.some.injEq, Prod.mk.injEq] at H
  obtain ⟨rfl, rfl⟩ := H
  go_enter Try.func10, Try.ntmps10
  go_wp2_with (first | ((with_reducible refine gate_dst (N := 2) rfl ?_); refine box_event ?hg (N := 2) ?hd (cs := #[.slice A0_0 l0_0.length c0_0]) (t := 26) ?hr ?_; (case hd => rfl); (case hg => rfl); (case hr => first | (go_simp; done) | (go_simp; rfl)); intro gb148 hg w134 hbox hb; have BK148 := Aside0.mk hbox; have GW148 := ge_ HB hg; have GE148 := ge_ HB hg; replace HB := at_ HB hb; clear hb hbox hg) | ((with_reducible refine gate_dst (N := 3) rfl ?_); refine box_event ?hg (N := 3) ?hd (cs := #[.int .i64 a1_0, .int .i64 a1_1, .int .i64 a1_2]) (t := 30) ?hr ?_; (case hd => rfl); (case hg => rfl); (case hr => first | (go_simp; done) | (go_simp; rfl)); intro gb149 hg w135 hbox hb; have BK149 := Aside0.mk hbox; have GW149 := ge_ HB hg; have GE149 := ge_ HB hg; have NB148_149 := nl_ BK148 hg; have NB149_148 := ng_ BK148 hg; replace HB := at_ HB hb; replace BK148 := ab_ BK148 hb; clear hb hbox hg) | ((with_reducible refine gate_dst (N := 4) rfl ?_); refine box_event ?hg (N := 4) ?hd (cs := #[.slice none 0 0]) (t := 26) ?hr ?_; (case hd => rfl); (case hg => rfl); (case hr => first | (go_simp; done) | (go_simp; rfl)); intro gb150 hg w136 hbox hb; have BK150 := Aside0.mk hbox; have GW150 := ge_ HB hg; have GE150 := ge_ HB hg; have NB148_150 := nl_ BK148 hg; have NB150_148 := ng_ BK148 hg; have NB149_150 := nl_ BK149 hg; have NB150_149 := ng_ BK149 hg; replace HB := at_ HB hb; replace BK148 := ab_ BK148 hb; replace BK149 := ab_ BK149 hb; clear hb hbox hg; have hnb137 := NB148_149.out; have hnc137 := NB149_148.out; have hnb138 := NB148_150.out; have hnc138 := NB150_148.out; have hcz139_0 := cz_ BK148 0 (.slice A0_0 l0_0.length c0_0); have hfz139_0 := fz_ BK148 0) | ((with_reducible refine gate_callee (f := 19) rfl ?_); refine gl_ (some 11) Try.func19 #[.agg #[.slice A0_0 l0_0.length c0_0]] ?_; (with_reducible refine (spec_TableOk.calls k _ _ l0_0 false _ ?side1 ?side2 A3.out).mono ?_); (case side1 => exact cb_ HR0_0 HB); (case side2 => exact HC0_0.out); rintro e w140 ⟨rfl, hb⟩; refine ⟨_, rfl, ?_⟩; replace BK148 := ab_ BK148 hb; replace BK149 := ab_ BK149 hb; replace BK150 := ab_ BK150 hb; replace HB := at_ HB hb; (try clear hb); (try clear hb2); (try clear hk); (try clear hi); have hcz141_0 := cz_ BK148 0 (.slice A0_0 l0_0.length c0_0); have hfz141_0 := fz_ BK148 0) | ((with_reducible refine gate_callee (f := 45) rfl ?_); refine gl_ (some 14) Try.func45 #[.agg #[.slice A0_0 l0_0.length c0_0]] ?_; (with_reducible refine (spec_l02Copy.calls k _ _ l0_0 t152 _ ?side1 ?side2 A133.out).mono ?_); (case side1 => exact cb_ HR0_0 HB); (case side2 => exact HC0_0.out); rintro e w142 ⟨v153, rfl, ho0, hb⟩; refine ⟨_, rfl, ?_⟩; have HO154 := Aside0.mk (Kd.R_lower (Kd.R_newB ho0 (g := gb149) (o := .cells #[.int .i64 a1_0, .int .i64 a1_1, .int .i64 a1_2] 30 (0, 0)) (bx_ BK149)) (bz_ HB)); replace BK148 := ab_ BK148 hb; replace BK149 := ab_ BK149 hb; replace BK150 := ab_ BK150 hb; replace HB := at_ HB hb; (try clear hb); (try clear hb2); (try clear hk); (try clear hi); (try clear ho0); obtain ⟨Ao143, co143, eo143⟩ := Kd.R_slice HO154.out; subst eo143; have hnb144 := NB150_149.out; have hnc144 := NB149_150.out; have hcz145_0 := cz_ BK150 0 (.slice none 0 0); have hfz145_0 := fz_ BK150 0))
  refine bodyPost_ret (results_ct rfl _ _ gb150 26 #[.slice Ao143 t152.length co143] (0, 0) _ rfl (by refine bd_ ?_; refine blk_put (cs := #[.slice none 0 0]) ?_ 0 _ rfl; refine bd_ ?_; exact BK150.out) Try.underlying26 rfl (by kernel_rfl)) rfl ?_
  exact ⟨_, by first | rfl | (simp [errW_none, errW_some] <;> rfl) | (simp [*, errW_none, errW_some] <;> rfl), by (with_reducible repeat (first | apply Kd.R_alloc | apply Kd.R_drewN | apply Kd.R_drew)); exact Kd.R_mono (Kd.R_far (p := ⟨gb150, 0, none⟩) (Kd.R_types HO154.out BK150.out (by decide)) (fun _ hk => hk.2) (.slice Ao143 t152.length co143)) (fun _ hk => trivial), bw112_⟩
 subst c4
 rw [if_pos rfl] at H
 replace H := Option.bind_eq_some_iff.mp H
 obtain ⟨t155, A50, H⟩ := H
 have A5 := Aside0.mk A50
 clear A50
 have H' := Aside0.mk H
 clear H
 go_enter Try.func10, Try.ntmps10
 go_wp2_with (first | ((with_reducible refine gate_dst (N := 2) rfl ?_); refine box_event ?hg (N := 2) ?hd (cs := #[.slice A0_0 l0_0.length c0_0]) (t := 26) ?hr ?_; (case hd => rfl); (case hg => rfl); (case hr => first | (go_simp; done) | (go_simp; rfl)); intro gb148 hg w6 hbox hb; have BK148 := Aside0.mk hbox; have GW148 := ge_ HB hg; have GE148 := ge_ HB hg; replace HB := at_ HB hb; clear hb hbox hg) | ((with_reducible refine gate_dst (N := 3) rfl ?_); refine box_event ?hg (N := 3) ?hd (cs := #[.int .i64 a1_0, .int .i64 a1_1, .int .i64 a1_2]) (t := 30) ?hr ?_; (case hd => rfl); (case hg => rfl); (case hr => first | (go_simp; done) | (go_simp; rfl)); intro gb149 hg w7 hbox hb; have BK149 := Aside0.mk hbox; have GW149 := ge_ HB hg; have GE149 := ge_ HB hg; have NB148_149 := nl_ BK148 hg; have NB149_148 := ng_ BK148 hg; replace HB := at_ HB hb; replace BK148 := ab_ BK148 hb; clear hb hbox hg) | ((with_reducible refine gate_dst (N := 4) rfl ?_); refine box_event ?hg (N := 4) ?hd (cs := #[.slice none 0 0]) (t := 26) ?hr ?_; (case hd => rfl); (case hg => rfl); (case hr => first | (go_simp; done) | (go_simp; rfl)); intro gb150 hg w8 hbox hb; have BK150 := Aside0.mk hbox; have GW150 := ge_ HB hg; have GE150 := ge_ HB hg; have NB148_150 := nl_ BK148 hg; have NB150_148 := ng_ BK148 hg; have NB149_150 := nl_ BK149 hg; have NB150_149 := ng_ BK149 hg; replace HB := at_ HB hb; replace BK148 := ab_ BK148 hb; replace BK149 := ab_ BK149 hb; clear hb hbox hg; have hnb9 := NB148_149.out; have hnc9 := NB149_148.out; have hnb10 := NB148_150.out; have hnc10 := NB150_148.out; have hcz11_0 := cz_ BK148 0 (.slice A0_0 l0_0.length c0_0); have hfz11_0 := fz_ BK148 0) | ((with_reducible refine gate_callee (f := 19) rfl ?_); refine gl_ (some 11) Try.func19 #[.agg #[.slice A0_0 l0_0.length c0_0]] ?_; (with_reducible refine (spec_TableOk.calls k _ _ l0_0 true _ ?side1 ?side2 A3.out).mono ?_); (case side1 => exact cb_ HR0_0 HB); (case side2 => exact HC0_0.out); rintro e w12 ⟨rfl, hb⟩; refine ⟨_, rfl, ?_⟩; replace BK148 := ab_ BK148 hb; replace BK149 := ab_ BK149 hb; replace BK150 := ab_ BK150 hb; replace HB := at_ HB hb; (try clear hb); (try clear hb2); (try clear hk); (try clear hi); have hcz13_0 := cz_ BK148 0 (.slice A0_0 l0_0.length c0_0); have hfz13_0 := fz_ BK148 0; have hnb14 := NB149_150.out; have hnc14 := NB150_149.out; have hcz15_0 := cz_ BK149 0 (.int .i64 a1_0); have hcz15_1 := cz_ BK149 1 (.int .i64 a1_1); have hcz15_2 := cz_ BK149 2 (.int .i64 a1_2); have hfz15_0 := fz_ BK149 0; have hfz15_1 := fz_ BK149 1; have hfz15_2 := fz_ BK149 2) | ((with_reducible refine gate_callee (f := 46) rfl ?_); refine gl_ (some 18) Try.func46 #[.agg #[.slice A0_0 l0_0.length c0_0], .agg #[.int .i64 a1_0, .int .i64 a1_1]] ?_; (with_reducible refine (spec_l02Less.calls k _ _ l0_0 a1_0 a1_1 t155 _ ?side1 ?side2 A5.out).mono ?_); (case side1 => exact cb_ HR0_0 HB); (case side2 => exact HC0_0.out); rintro e w16 ⟨v156, rfl, ho0, hb⟩; refine ⟨_, rfl, ?_⟩; have HO157 := Aside0.mk (Kd.R_lower (Kd.R_newB ho0 (g := gb149) (o := .cells #[.int .i64 a1_0, .int .i64 a1_1, .int .i64 a1_2] 30 (0, 0)) (bx_ BK149)) (bz_ HB)); replace BK148 := ab_ BK148 hb; replace BK149 := ab_ BK149 hb; replace BK150 := ab_ BK150 hb; replace HB := at_ HB hb; (try clear hb); (try clear hb2); (try clear hk); (try clear hi); (try clear ho0)) | ((with_reducible refine gate_dst (N := 6) rfl ?_); refine box_event ?hg (N := 6) ?hd (cs := #[.slice none 0 0]) (t := 26) ?hr ?_; (case hd => rfl); (case hg => rfl); (case hr => first | (go_simp; done) | (go_simp; rfl)); intro gb158 hg w17 hbox hb; have BK158 := Aside0.mk hbox; have GW158 := ge_ HB hg; have GE158 := ge_ HB hg; have NB148_158 := nl_ BK148 hg; have NB158_148 := ng_ BK148 hg; have NB149_158 := nl_ BK149 hg; have NB158_149 := ng_ BK149 hg; have NB150_158 := nl_ BK150 hg; have NB158_150 := ng_ BK150 hg; replace HO157 := rb_ HO157 hb; replace HB := at_ HB hb; replace BK148 := ab_ BK148 hb; replace BK149 := ab_ BK149 hb; replace BK150 := ab_ BK150 hb; clear hb hbox hg; obtain ⟨Ao18, co18, eo18⟩ := Kd.R_slice HO157.out; subst eo18; have hnb19 := NB158_148.out; have hnc19 := NB148_158.out; have hnb20 := NB158_149.out; have hnc20 := NB149_158.out; have hnb21 := NB158_150.out; have hnc21 := NB150_158.out; have hcz22_0 := cz_ BK158 0 (.slice none 0 0); have hfz22_0 := fz_ BK158 0) | ((with_reducible refine gate_dst (N := 7) rfl ?_); refine box_event ?hg (N := 7) ?hd (cs := #[.slice none 0 0]) (t := 26) ?hr ?_; (case hd => rfl); (case hg => rfl); (case hr => first | (go_simp; done) | (go_simp; rfl)); intro gb159 hg w23 hbox hb; have BK159 := Aside0.mk hbox; have GW159 := ge_ HB hg; have GE159 := ge_ HB hg; have NB148_159 := Aside0.mk ((by rw [hg]; exact Nat.ne_of_lt (bg_ BK148 NB148_158) : gb148 ≠ gb159)); have NB159_148 := Aside0.mk ((by rw [hg]; exact Nat.ne_of_gt (bg_ BK148 NB148_158) : gb159 ≠ gb148)); have NB149_159 := Aside0.mk ((by rw [hg]; exact Nat.ne_of_lt (bg_ BK149 NB149_158) : gb149 ≠ gb159)); have NB159_149 := Aside0.mk ((by rw [hg]; exact Nat.ne_of_gt (bg_ BK149 NB149_158) : gb159 ≠ gb149)); have NB150_159 := Aside0.mk ((by rw [hg]; exact Nat.ne_of_lt (bg_ BK150 NB150_158) : gb150 ≠ gb159)); have NB159_150 := Aside0.mk ((by rw [hg]; exact Nat.ne_of_gt (bg_ BK150 NB150_158) : gb159 ≠ gb150)); have NB158_159 := Aside0.mk ((by rw [hg]; exact Nat.ne_of_lt (blk_lt (g := gb158) (o := .cells #[.slice Ao18 t155.length co18] 26 (0, 0)) (by refine bd_ ?_; refine blk_put (cs := #[.slice none 0 0]) ?_ 0 _ rfl; refine bd_ ?_; exact BK158.out)) : gb158 ≠ gb159)); have NB159_158 := Aside0.mk ((by rw [hg]; exact Nat.ne_of_gt (blk_lt (g := gb158) (o := .cells #[.slice Ao18 t155.length co18] 26 (0, 0)) (by refine bd_ ?_; refine blk_put (cs := #[.slice none 0 0]) ?_ 0 _ rfl; refine bd_ ?_; exact BK158.out)) : gb159 ≠ gb158)); replace HO157 := rs_ HO157 BK158 hb; replace HB := at_ HB hb; replace BK148 := bf_ BK148 NB148_158 hb; replace BK149 := bf_ BK149 NB149_158 hb; replace BK150 := bf_ BK150 NB150_158 hb; replace BK158 := Aside0.mk (blk_below (g := gb158) (o := .cells #[.slice Ao18 t155.length co18] 26 (0, 0)) (by refine bd_ ?_; refine blk_put (cs := #[.slice none 0 0]) ?_ 0 _ rfl; refine bd_ ?_; exact BK158.out) hb); clear hb hbox hg; have hnb24 := NB159_148.out; have hnc24 := NB148_159.out; have hnb25 := NB159_149.out; have hnc25 := NB149_159.out; have hnb26 := NB159_150.out; have hnc26 := NB150_159.out; have hnb27 := NB159_158.out; have hnc27 := NB158_159.out; have hcz28_0 := cz_ BK159 0 (.slice none 0 0); have hfz28_0 := fz_ BK159 0))
 (try simp only [Act.put, List.setIfInBounds_toArray, List.set_cons_zero, List.set_cons_succ])
 go_loopg [8, 9] k (fun kq v8 v9 w' => ∃ (x8_1 : Bool) (x9_1 : Int) (x160000_1 : List (S30)) (u160000 : Value), v8 = .bool x8_1 ∧ v9 = .int .i64 x9_1 ∧ Aside0 (spec_PutRoute.l0 kq x8_1 x9_1 l0_0 a1_0 a1_1 a1_2 t155 x160000_1 = some (r1, r2)) ∧ Aside0 (kq ≤ k) ∧ Aside0 (Kd.R k30 30 w' w.heap.size (fun k_ => some k_ ≠ (u160000 : Value).ownBlock ∧ k_ ≠ gb149) (.slice Ao18 t155.length co18) t155) ∧ Aside0 (Kd.R k30 30 w' w.heap.size (fun k_ => some k_ ≠ ((.slice Ao18 t155.length co18) : Value).ownBlock ∧ k_ ≠ gb149) u160000 x160000_1) ∧ Aside0 (w'.heap[gb148]? = some (.cells #[(.slice A0_0 l0_0.length c0_0)] 26 (0, 0))) ∧ Aside0 (w'.heap[gb149]? = some (.cells #[.int .i64 a1_0, .int .i64 a1_1, .int .i64 a1_2] 30 (0, 0))) ∧ Aside0 (w'.heap[gb150]? = some (.cells #[(.slice none 0 0)] 26 (0, 0))) ∧ Aside0 (w'.heap[gb158]? = some (.cells #[(.slice Ao18 t155.length co18)] 26 (0, 0))) ∧ Aside0 (w'.heap[gb159]? = some (.cells #[u160000] 26 (0, 0))) ∧ Aside0 (Below w.heap.size w w'))
 case atStart => exact ⟨(false), (0), (([] : List (S30))), (.slice none 0 0), er_, er_, H', ⟨Nat.le_refl _⟩, ⟨by (with_reducible repeat (first | apply Kd.R_alloc | apply Kd.R_drewN | apply Kd.R_drew)); exact Kd.R_mono (Kd.R_far (p := ⟨gb159, 0, none⟩) (Kd.R_types HO157.out BK159.out (by decide)) (fun _ hk => hk.2) (.slice none 0 0)) (fun _ hk => ⟨(by simp [Value.ownBlock]), hk.1.2⟩)⟩, ⟨by first | exact Kd.R_nil _ _ _ _ _ | exact Kd.N_nil _ _ _ _ _ | exact Kd.V_nil _ _ _ _ _ | exact Kd.Q_nil _ _ _ _ _ | exact Kd.S_nil _ _ _ _ _⟩, ⟨bc_ BK148⟩, ⟨bc_ BK149⟩, ⟨bc_ BK150⟩, ⟨bc_ BK158⟩, ⟨by refine bd_ ?_; refine blk_put (cs := #[.slice none 0 0]) ?_ 0 _ rfl; refine bd_ ?_; exact BK159.out⟩, ⟨bw112_⟩⟩
 case round =>
  clear H'
  try clear c1
  try clear c2
  try clear p2
  try clear c4
  try clear c9
  try clear c10
  try clear c14
  try clear c19
  try clear c20
  try clear c21
  try clear c24
  try clear c25
  try clear c26
  try clear c27
  try clear hcz11_0
  try clear hcz13_0
  try clear hcz15_0
  try clear hcz15_1
  try clear hcz15_2
  try clear hcz22_0
  try clear hcz28_0
  try clear hfz11_0
  try clear hfz13_0
  try clear hfz15_0
  try clear hfz15_1
  try clear hfz15_2
  try clear hfz22_0
  try clear hfz28_0
  obtain ⟨x8_1, x9_1, x160000_1, u160000, rfl, rfl, HA, HK1, HO_159000, HO_160000, BK148, BK149, BK150, BK158, BK159, HB⟩ := hrel
  cases gk with
  | zero => exact absurd HA.out (by simp [spec_PutRoute.l0])
  | succ k1 =>
   have H := HA.out
   clear HA
   simp only [spec_PutRoute.l0] at H
   by_cases c29 : x9_1 < (t155.length : Int)
   rotate_left
   ·rw [if_neg c29] at H
    have c29b0 : decide (x9_1 < (t155.length : Int)) = false := decide_eq_false c29
    clear c29
    have HC82 := Aside0.mk H
    clear H
    have hnb83 := NB158_148.out
    have hnc83 := NB148_158.out
    have hnb84 := NB158_149.out
    have hnc84 := NB149_158.out
    have hnb85 := NB158_150.out
    have hnc85 := NB150_158.out
    have hnb86 := NB158_159.out
    have hnc86 := NB159_158.out
    have hcz87_0 := cz_ BK158 0 (.slice Ao18 t155.length co18)
    have hfz87_0 := fz_ BK158 0
    go_upto_if 57 with (fail)
    go_cut [] (fun wc => ∃ (kq : Nat) (x160000_81 : List (S30)) (u160000 : Value), Aside0 (spec_PutRoute.j1 kq l0_0 x160000_81 = some (r1, r2)) ∧ Aside0 (kq ≤ k1) ∧ Aside0 (Kd.R k30 30 wc w.heap.size (fun k_ => some k_ ≠ (u160000 : Value).ownBlock ∧ k_ ≠ gb149) (.slice Ao18 t155.length co18) t155) ∧ Aside0 (Kd.R k30 30 wc w.heap.size (fun k_ => some k_ ≠ ((.slice Ao18 t155.length co18) : Value).ownBlock ∧ k_ ≠ gb149) u160000 x160000_81) ∧ Aside0 (wc.heap[gb148]? = some (.cells #[(.slice A0_0 l0_0.length c0_0)] 26 (0, 0))) ∧ Aside0 (wc.heap[gb149]? = some (.cells #[.int .i64 a1_0, .int .i64 a1_1, .int .i64 a1_2] 30 (0, 0))) ∧ Aside0 (wc.heap[gb150]? = some (.cells #[(.slice none 0 0)] 26 (0, 0))) ∧ Aside0 (wc.heap[gb158]? = some (.cells #[(.slice Ao18 t155.length co18)] 26 (0, 0))) ∧ Aside0 (wc.heap[gb159]? = some (.cells #[u160000] 26 (0, 0))) ∧ Aside0 (Below w.heap.size w wc))
    case first =>
     have H := HC82.out
     clear HC82
     by_cases c88 : x8_1 = true
     ·subst c88
      rw [if_pos rfl] at H
      have H' := Aside0.mk H
      clear H
      go_wp2
      go_meet
      case rel => exact ⟨_, (x160000_1), (u160000), H', ⟨by have := HK1.out; first | omega | exact Nat.le_refl _⟩, ⟨hd_ HO_159000⟩, ⟨hd_ HO_160000⟩, ⟨bx_ BK148⟩, ⟨bx_ BK149⟩, ⟨bx_ BK150⟩, ⟨bx_ BK158⟩, ⟨bx_ BK159⟩, ⟨bw112_⟩⟩
     replace c88 := Bool.eq_false_iff.mpr c88
     subst c88
     rw [if_neg (show ¬ (false = true) by decide)] at H
     by_cases c89 : x160000_1.length < 5864062014805
     rotate_left
     ·rw [if_neg c89] at H
      exact absurd H (by simp)
     rw [if_pos c89] at H
     have LMc89 := Aside0.mk c89
     clear c89
     obtain ⟨y177, hy177⟩ : ∃ y_ : List (S30), y_ = (x160000_1 ++ [(⟨(⟨a1_0, a1_1⟩ : S28), a1_2⟩ : S30)]) := ⟨_, rfl⟩
     replace H : (spec_PutRoute.j1 k1 l0_0 y177) = some (r1, r2) := by first | (rw [hy177]; with_reducible exact H) | (have H2_ := (Option.bind_some _ _).symm.trans H; rw [hy177]; with_reducible exact H2_) | (have H2_ := (Option.bind_some _ _).symm.trans H; with_reducible exact H2_) | with_reducible exact H | (rw [hy177]; exact H) | exact H
     have Ny177 := Aside0.mk hy177
     clear hy177
     have H' := Aside0.mk H
     clear H
     have hnb90 := NB159_148.out
     have hnc90 := NB148_159.out
     have hnb91 := NB159_149.out
     have hnc91 := NB149_159.out
     have hnb92 := NB159_150.out
     have hnc92 := NB150_159.out
     have hnb93 := NB159_158.out
     have hnc93 := NB158_159.out
     have hcz94_0 := cz_ BK159 0 (u160000)
     have hfz94_0 := fz_ BK159 0
     have hnb95 := NB149_148.out
     have hnc95 := NB148_149.out
     have hnb96 := NB149_150.out
     have hnc96 := NB150_149.out
     have hnb97 := NB149_158.out
     have hnc97 := NB158_149.out
     have hcz98_0 := cz_ BK149 0 (.int .i64 a1_0)
     have hcz98_1 := cz_ BK149 1 (.int .i64 a1_1)
     have hcz98_2 := cz_ BK149 2 (.int .i64 a1_2)
     have hfz98_0 := fz_ BK149 0
     have hfz98_1 := fz_ BK149 1
     have hfz98_2 := fz_ BK149 2
     go_wp2_with (first | ((with_reducible refine gate_builtin (b := .append) (xs := #[.tmp 59, .tmp 61]) rfl ?_); at_builtin; refine Kd.R_append k30 (w0 := w) w.heap.size rfl (.tmp 59) (.tmp 61) 24 30 (.agg #[(.int .i64 0), (.int .i64 0), (.int .i64 0)]) 24 rfl Try.underlying24 info30 rfl (by decide) (by omega) u160000 x160000_1 (⟨(⟨a1_0, a1_1⟩ : S28), a1_2⟩ : S30) [.int .i64 a1_0, .int .i64 a1_1, .int .i64 a1_2] (fun k_ => some k_ ≠ (.slice Ao18 t155.length co18 : Value).ownBlock ∧ k_ ≠ gb149) (fun _ => False) rfl rfl ?aP (fun _ hk => hk.elim) ?aF ?aO ?aB ?aS ?aL ?_; (case aP => exact k30_mkM _ _ _ (⟨(⟨a1_0, a1_1⟩ : S28), a1_2⟩ : S30)); (case aB => exact (bw112_)); (case aF => exact (fun k_ hk => ⟨Kd.fresh' (Kd.R_lt (hd_ HO_159000)) k_ hk, Kd.freshB (g := gb149) (o := .cells #[.int .i64 a1_0, .int .i64 a1_1, .int .i64 a1_2] 30 (0, 0)) (bx_ BK149) k_ hk⟩)); (case aO => exact (hd_ HO_160000)); (case aS => exact (bz_ HB)); (case aL => have := LMc89.out; omega); intro v178 w99 ho hb hg hat; rw [← Ny177.out] at ho; have HO179 := Aside0.mk ho; replace HO_159000 := Aside0.mk (Kd.R_after (ok := (fun k_ => k_ ≠ gb149)) (by (with_reducible repeat (first | apply Kd.R_alloc | apply Kd.R_drewN | apply Kd.R_drew)); exact Kd.R_mono HO_159000.out (fun _ hk => by first | exact ⟨hk.2, hk.1⟩ | grind)) hg hat); replace BK148 := Aside0.mk (blk_grown (g := gb148) (o := .cells #[.slice A0_0 l0_0.length c0_0] 26 (0, 0)) (bx_ BK148) hg (Kd.R_ne HO_160000.out BK148.out (by decide))); replace BK149 := Aside0.mk (blk_grown (g := gb149) (o := .cells #[.int .i64 a1_0, .int .i64 a1_1, .int .i64 a1_2] 30 (0, 0)) (bx_ BK149) hg (Kd.R_away HO_160000.out (fun _ hk => hk.2))); replace BK150 := Aside0.mk (blk_grown (g := gb150) (o := .cells #[.slice none 0 0] 26 (0, 0)) (bx_ BK150) hg (Kd.R_ne HO_160000.out BK150.out (by decide))); replace BK158 := Aside0.mk (blk_grown (g := gb158) (o := .cells #[.slice Ao18 t155.length co18] 26 (0, 0)) (bx_ BK158) hg (Kd.R_ne HO_160000.out BK158.out (by decide))); replace BK159 := Aside0.mk (blk_grown (g := gb159) (o := .cells #[u160000] 26 (0, 0)) (bx_ BK159) hg (Kd.R_ne HO_160000.out BK159.out (by decide))); replace HB := Aside0.mk (hb); clear HO_160000; clear ho hb hg hat; obtain ⟨Ao100, co100, eo100⟩ := Kd.R_slice HO179.out; subst eo100; have hcz101_0 := cz_ BK159 0 (u160000); have hfz101_0 := fz_ BK159 0))
     go_meet
     case rel => exact ⟨_, (y177), (.slice Ao100 y177.length co100), H', ⟨by have := HK1.out; first | omega | exact Nat.le_refl _⟩, ⟨by (with_reducible repeat (first | apply Kd.R_alloc | apply Kd.R_drewN | apply Kd.R_drew)); exact Kd.R_mono (Kd.R_far (p := ⟨gb159, 0, none⟩) (Kd.R_types HO_159000.out BK159.out (by decide)) (fun _ hk => hk.2) (.slice Ao100 y177.length co100)) (fun _ hk => by first | exact ⟨hk.1.2, hk.1.1⟩ | grind)⟩, ⟨by (with_reducible repeat (first | apply Kd.R_alloc | apply Kd.R_drewN | apply Kd.R_drew)); exact Kd.R_mono (Kd.R_far (p := ⟨gb159, 0, none⟩) (Kd.R_types HO179.out BK159.out (by decide)) (fun _ hk => hk.2) (.slice Ao100 y177.length co100)) (fun _ hk => by first | exact ⟨hk.1.1, hk.1.2⟩ | grind)⟩, ⟨bc_ BK148⟩, ⟨bc_ BK149⟩, ⟨bc_ BK150⟩, ⟨bc_ BK158⟩, ⟨by refine bd_ ?_; refine blk_put (cs := #[u160000]) ?_ 0 _ rfl; refine bd_ ?_; exact BK159.out⟩, ⟨bw112_⟩⟩
    case rest =>
     clear HC82
     try clear p1
     try clear q1
     try clear hx1
     try clear c2
     try clear p2
     try clear c4
     try clear p6
     try clear c7
     try clear c8
     try clear c9
     try clear p16
     try clear q16
     try clear hx16
     try clear p17
     try clear q17
     try clear hx17
     try clear c29
     try clear c29b0
     try clear c43
     try clear c45
     try clear c46
     try clear c47
     try clear p64
     try clear c70
     try clear c71
     try clear c72
     try clear c73
     try clear c74
     try clear c83
     try clear c84
     try clear c85
     try clear c86
     try clear c88
     try clear c89
     try clear c90
     try clear c91
     try clear c92
     try clear c93
     try clear c95
     try clear c96
     try clear c97
     try clear hcz101_0
     try clear hcz75_0
     try clear hcz87_0
     try clear hcz94_0
     try clear hcz98_0
     try clear hcz98_1
     try clear hcz98_2
     try clear hfz101_0
     try clear hfz75_0
     try clear hfz87_0
     try clear hfz94_0
     try clear hfz98_0
     try clear hfz98_1
     try clear hfz98_2
     try clear hx164_0
     try clear hx164_1
     try clear hx164_2
     try clear hx173_0
     try clear hx173_1
     try clear hx173_2
     try clear p164
     try clear p173
     try clear q164
     try clear q173
     obtain ⟨kq, x160000_81, u160000, HA, HJ81, HO_159000, HO_160000, BK148, BK149, BK150, BK158, BK159, HB⟩ := hcut
     cases kq with
     | zero => exact absurd HA.out (by simp [spec_PutRoute.j1])
     | succ kj81 =>
      have H := HA.out
      clear HA
      simp only [spec_PutRoute.j1] at H
      replace H := Option.bind_eq_some_iff.mp H
      obtain ⟨t180, A1020, H⟩ := H
      have A102 := Aside0.mk A1020
      clear A1020
      by_cases c103 : t180 = true
      ·subst c103
       rw [if_pos rfl] at H
       simp only [Option.some.injEq, Prod.mk.injEq] at H
       obtain ⟨rfl, rfl⟩ := H
       have hnb104 := NB159_148.out
       have hnc104 := NB148_159.out
       have hnb105 := NB159_149.out
       have hnc105 := NB149_159.out
       have hnb106 := NB159_150.out
       have hnc106 := NB150_159.out
       have hnb107 := NB159_158.out
       have hnc107 := NB158_159.out
       have hcz108_0 := cz_ BK159 0 (u160000)
       have hfz108_0 := fz_ BK159 0
       obtain ⟨Ao109, co109, eo109⟩ := Kd.R_slice HO_160000.out
       subst eo109
       go_wp2_with (first | ((with_reducible refine gate_callee (f := 19) rfl ?_); refine gl_ (some 65) Try.func19 #[.agg #[.slice Ao109 x160000_81.length co109]] ?_; (with_reducible refine (spec_TableOk.calls kj81 _ _ x160000_81 true _ ?side1 ?side2 A102.out).mono ?_); (case side1 => exact rc_ HO_160000); (case side2 => exact (Kd.R_reads' HO_160000.out).2.1); rintro e w110 ⟨rfl, hb⟩; refine ⟨_, rfl, ?_⟩; replace HO_159000 := rb_ HO_159000 hb; replace HO_160000 := rb_ HO_160000 hb; replace BK148 := ab_ BK148 hb; replace BK149 := ab_ BK149 hb; replace BK150 := ab_ BK150 hb; replace BK158 := ab_ BK158 hb; replace BK159 := ab_ BK159 hb; replace HB := at_ HB hb; (try clear hb); (try clear hb2); (try clear hk); (try clear hi); have hcz111_0 := cz_ BK159 0 (.slice Ao109 x160000_81.length co109); have hfz111_0 := fz_ BK159 0; have hnb112 := NB150_148.out; have hnc112 := NB148_150.out; have hnb113 := NB150_149.out; have hnc113 := NB149_150.out; have hnb114 := NB150_158.out; have hnc114 := NB158_150.out; have hcz115_0 := cz_ BK150 0 (.slice none 0 0); have hfz115_0 := fz_ BK150 0))
       refine bodyPost_ret (results_ct rfl _ _ gb150 26 #[.slice Ao109 x160000_81.length co109] (0, 0) _ rfl (by refine bd_ ?_; refine blk_put (cs := #[.slice none 0 0]) ?_ 0 _ rfl; refine bd_ ?_; exact BK150.out) Try.underlying26 rfl (by kernel_rfl)) rfl ?_
       exact ⟨_, by first | rfl | (simp [errW_none, errW_some] <;> rfl) | (simp [*, errW_none, errW_some] <;> rfl), by (with_reducible repeat (first | apply Kd.R_alloc | apply Kd.R_drewN | apply Kd.R_drew)); exact Kd.R_mono (Kd.R_far (p := ⟨gb150, 0, none⟩) (Kd.R_types HO_160000.out BK150.out (by decide)) (fun _ hk => hk.2) (.slice Ao109 x160000_81.length co109)) (fun _ hk => trivial), bw112_⟩
      replace c103 := Bool.eq_false_iff.mpr c103
      subst c103
      rw [if_neg (show ¬ (false = true) by decide)] at H
      replace H := Option.bind_eq_some_iff.mp H
      obtain ⟨t181, A1160, H⟩ := H
      have A116 := Aside0.mk A1160
      clear A1160
      simp only [Option.some.injEq, Prod.mk.injEq] at H
      obtain ⟨rfl, rfl⟩ := H
      have hnb117 := NB159_148.out
      have hnc117 := NB148_159.out
      have hnb118 := NB159_149.out
      have hnc118 := NB149_159.out
      have hnb119 := NB159_150.out
      have hnc119 := NB150_159.out
      have hnb120 := NB159_158.out
      have hnc120 := NB158_159.out
      have hcz121_0 := cz_ BK159 0 (u160000)
      have hfz121_0 := fz_ BK159 0
      obtain ⟨Ao122, co122, eo122⟩ := Kd.R_slice HO_160000.out
      subst eo122
      go_wp2_with (first | ((with_reducible refine gate_callee (f := 19) rfl ?_); refine gl_ (some 65) Try.func19 #[.agg #[.slice Ao122 x160000_81.length co122]] ?_; (with_reducible refine (spec_TableOk.calls kj81 _ _ x160000_81 false _ ?side1 ?side2 A102.out).mono ?_); (case side1 => exact rc_ HO_160000); (case side2 => exact (Kd.R_reads' HO_160000.out).2.1); rintro e w123 ⟨rfl, hb⟩; refine ⟨_, rfl, ?_⟩; replace HO_159000 := rb_ HO_159000 hb; replace HO_160000 := rb_ HO_160000 hb; replace BK148 := ab_ BK148 hb; replace BK149 := ab_ BK149 hb; replace BK150 := ab_ BK150 hb; replace BK158 := ab_ BK158 hb; replace BK159 := ab_ BK159 hb; replace HB := at_ HB hb; (try clear hb); (try clear hb2); (try clear hk); (try clear hi); have hnb124 := NB148_149.out; have hnc124 := NB149_148.out; have hnb125 := NB148_150.out; have hnc125 := NB150_148.out; have hnb126 := NB148_158.out; have hnc126 := NB158_148.out; have hcz127_0 := cz_ BK148 0 (.slice A0_0 l0_0.length c0_0); have hfz127_0 := fz_ BK148 0) | ((with_reducible refine gate_callee (f := 45) rfl ?_); refine gl_ (some 68) Try.func45 #[.agg #[.slice A0_0 l0_0.length c0_0]] ?_; (with_reducible refine (spec_l02Copy.calls kj81 _ _ l0_0 t181 _ ?side1 ?side2 A116.out).mono ?_); (case side1 => exact cb_ HR0_0 HB); (case side2 => exact HC0_0.out); rintro e w128 ⟨v182, rfl, ho0, hb⟩; refine ⟨_, rfl, ?_⟩; have HO183 := Aside0.mk (Kd.R_lower (Kd.R_newB (Kd.R_new' (Kd.R_new' ho0 (Kd.R_lt (hd_ HO_159000))) (Kd.R_lt (hd_ HO_160000))) (g := gb149) (o := .cells #[.int .i64 a1_0, .int .i64 a1_1, .int .i64 a1_2] 30 (0, 0)) (bx_ BK149)) (bz_ HB)); replace HO_159000 := Aside0.mk (Kd.R_elder' (hd_ HO_159000) (Kd.R_base ho0) hb); replace HO_160000 := Aside0.mk (Kd.R_elder' (hd_ HO_160000) (Kd.R_base ho0) hb); replace BK148 := ab_ BK148 hb; replace BK149 := ab_ BK149 hb; replace BK150 := ab_ BK150 hb; replace BK158 := ab_ BK158 hb; replace BK159 := ab_ BK159 hb; replace HB := at_ HB hb; (try clear hb); (try clear hb2); (try clear hk); (try clear hi); (try clear ho0); obtain ⟨Ao129, co129, eo129⟩ := Kd.R_slice HO183.out; subst eo129; have hnb130 := NB150_149.out; have hnc130 := NB149_150.out; have hnb131 := NB150_158.out; have hnc131 := NB158_150.out; have hcz132_0 := cz_ BK150 0 (.slice none 0 0); have hfz132_0 := fz_ BK150 0))
      refine bodyPost_ret (results_ct rfl _ _ gb150 26 #[.slice Ao129 t181.length co129] (0, 0) _ rfl (by refine bd_ ?_; refine blk_put (cs := #[.slice none 0 0]) ?_ 0 _ rfl; refine bd_ ?_; exact BK150.out) Try.underlying26 rfl (by kernel_rfl)) rfl ?_
      exact ⟨_, by first | rfl | (simp [errW_none, errW_some] <;> rfl) | (simp [*, errW_none, errW_some] <;> rfl), by (with_reducible repeat (first | apply Kd.R_alloc | apply Kd.R_drewN | apply Kd.R_drew)); exact Kd.R_mono (Kd.R_far (p := ⟨gb150, 0, none⟩) (Kd.R_types HO183.out BK150.out (by decide)) (fun _ hk => hk.2) (.slice Ao129 t181.length co129)) (fun _ hk => trivial), bw112_⟩
   rw [if_pos c29] at H
   have c29b0 : decide (x9_1 < (t155.length : Int)) = true := decide_eq_true c29
   clear c29
   by_cases c30 : x8_1 = true
   ·subst c30
    rw [if_pos rfl] at H
    obtain ⟨c31b0, H⟩ := iq_ H
    by_cases c32 : x160000_1.length < 5864062014805
    rotate_left
    ·rw [if_neg c32] at H
     exact absurd H (by simp)
    rw [if_pos c32] at H
    have LMc32 := Aside0.mk c32
    clear c32
    obtain ⟨y161, hy161⟩ : ∃ y_ : List (S30), y_ = (x160000_1 ++ [(⟨(⟨(rd_T30 t155 x9_1).f0.f0, (rd_T30 t155 x9_1).f0.f1⟩ : S28), (rd_T30 t155 x9_1).f1⟩ : S30)]) := ⟨_, rfl⟩
    replace H : (spec_PutRoute.l0 k1 true (wrap64 (x9_1 + 1)) l0_0 a1_0 a1_1 a1_2 t155 y161) = some (r1, r2) := by first | (rw [hy161]; with_reducible exact H) | (have H2_ := (Option.bind_some _ _).symm.trans H; rw [hy161]; with_reducible exact H2_) | (have H2_ := (Option.bind_some _ _).symm.trans H; with_reducible exact H2_) | with_reducible exact H | (rw [hy161]; exact H) | exact H
    have Ny161 := Aside0.mk hy161
    clear hy161
    have H' := Aside0.mk H
    clear H
    have hnb33 := NB158_148.out
    have hnc33 := NB148_158.out
    have hnb34 := NB158_149.out
    have hnc34 := NB149_158.out
    have hnb35 := NB158_150.out
    have hnc35 := NB150_158.out
    have hnb36 := NB158_159.out
    have hnc36 := NB159_158.out
    have hcz37_0 := cz_ BK158 0 (.slice Ao18 t155.length co18)
    have hfz37_0 := fz_ BK158 0
    try go_wp2
    replace HO_159000 := Aside0.mk (Kd.R_drew HO_159000.out)
    replace HO_160000 := Aside0.mk (Kd.R_drew HO_160000.out)
    replace BK148 := ad_ BK148
    replace BK149 := ad_ BK149
    replace BK150 := ad_ BK150
    replace BK158 := ad_ BK158
    replace BK159 := ad_ BK159
    replace HB := Aside0.mk (below_drew1 HB.out)
    refine start_ (n := 13) (S := fun w' => True) (ds := []) ba5_0 (by kernel_rfl) rfl rfl trivial (fun hHeld => ?_); refine with_tabW spec_PutRoute.tab9 spec_PutRoute.bits9 (fun HT_ HW_ => ?_)
    generalize wr.drew = w38 at HO_159000 HO_160000 BK148 BK149 BK150 BK158 BK159 HB hHeld ⊢
    refine pz_ 0 27 ba5_1 HT_ ?_
    refine pz_ 1 28 ba5_2 HT_ ?_
    refine pz_ 2 29 ba5_3 HT_ ?_
    refine pu_ 3 30 ba5_4 HT_ ?_
    refine pu_ 4 31 ba5_5 HT_ ?_
    refine pu_ 5 32 ba5_6 HT_ ?_
    refine pu_ 6 33 ba5_7 HT_ ?_
    refine pu_ 7 34 ba5_8 HT_ ?_
    refine pu_ 8 35 ba5_9 HT_ ?_
    refine pu_ 9 36 ba5_10 HT_ ?_
    refine pu_ 10 37 ba5_11 HT_ ?_
    refine pu_ 11 38 ba5_12 HT_ ?_
    refine pz_ 12 39 ba5_13 HT_ ?_
    refine done_ (done_of HT_.out (by kernel_rfl)) ?_
    try go_wp2
    replace HO_159000 := Aside0.mk (Kd.R_drew HO_159000.out)
    replace HO_160000 := Aside0.mk (Kd.R_drew HO_160000.out)
    replace BK148 := ad_ BK148
    replace BK149 := ad_ BK149
    replace BK150 := ad_ BK150
    replace BK158 := ad_ BK158
    replace BK159 := ad_ BK159
    replace HB := Aside0.mk (below_drew1 HB.out)
    have p160 : 0 ≤ (x9_1 : Int) := oa_
    have q160 : x9_1 < (t155.length : Int) := oa_
    obtain ⟨ad160, e160, hx160_0, hx160_1, hx160_2⟩ := at_T30 (Kd.R_reads' HO_159000.out).2.2 x9_1 p160 q160
    cases e160
    replace p160 := eq_true p160
    replace q160 := eq_true q160
    refine start_ (n := 11) (S := fun w' => w'.cell? ⟨gb159, 0, none⟩ = some (u160000) ∧ w'.cell? ⟨gb158, 0, none⟩ = some (.slice (some ad160) t155.length co18) ∧ w'.cell? (ad160.add ((x9_1).toNat * 3)) = some (.int .i64 ((rd_T30 t155 x9_1).f0.f0)) ∧ w'.cell? ⟨(ad160.add ((x9_1).toNat * 3)).block, (ad160.add ((x9_1).toNat * 3)).off + 1, none⟩ = some (.int .i64 ((rd_T30 t155 x9_1).f0.f1)) ∧ w'.cell? ⟨(ad160.add ((x9_1).toNat * 3)).block, (ad160.add ((x9_1).toNat * 3)).off + 2, none⟩ = some (.int .i64 ((rd_T30 t155 x9_1).f1))) (ds := [8, 10]) ba5_14 (by kernel_rfl) rfl rfl ⟨(blk_cell BK159.out 0).trans rfl, (blk_cell BK158.out 0).trans rfl, hx160_0, hx160_1, hx160_2⟩ (fun hHeld => ?_); refine with_tabW spec_PutRoute.tab12 spec_PutRoute.bits12 (fun HT_ HW_ => ?_)
    generalize w38.drew = w39 at HO_159000 HO_160000 BK148 BK149 BK150 BK158 BK159 HB hx160_0 hx160_1 hx160_2 hHeld ⊢
    refine pz_ 0 46 ba5_15 HT_ ?_
    refine pz_ 2 48 ba5_16 HT_ ?_
    refine pz_ 4 50 ba5_17 HT_ ?_
    refine pt_ 1 47 ba5_18 HT_ HW_ hHeld ?_
    refine pt_ 3 49 ba5_19 HT_ HW_ hHeld ?_
    refine pz_ 5 51 ba5_20 HT_ ?_
    refine pt_ 6 52 ba5_21 HT_ HW_ hHeld ?_
    refine one_ (i := 7) (N := some 53) ba5_22 rfl rfl (one_of HT_.out (by kernel_rfl)) (by decide) (fun K hK => ?_)
    refine value_ (w1 := ?_) (v := ?_) (by rfl) rfl ?_ ?_
    rotate_left 2
    ·go_simp
     constructor
     ·rfl
     ·rfl
    refine hK.out _ _ ⟨(blk_cell (blk_alloc BK159.out _) 0).trans rfl, (blk_cell (blk_alloc BK158.out _) 0).trans rfl, (World.cell?_alloc_lt _ _ _ (World.block_lt_of_cell? _ _ (hHeld.2.2.1))).trans (hHeld.2.2.1), (World.cell?_alloc_lt _ _ _ (World.block_lt_of_cell? _ _ (hHeld.2.2.2.1))).trans (hHeld.2.2.2.1), (World.cell?_alloc_lt _ _ _ (World.block_lt_of_cell? _ _ (hHeld.2.2.2.2))).trans (hHeld.2.2.2.2)⟩ (fun hHeld => ?_)
    clear hK K
    refine nz_ 53 ?_
    refine last_ (i := 8) (N := some 54) ba5_23 rfl rfl (one_of HT_.out (by kernel_rfl)) (by decide) (fun K hK => ?_)
    refine Kd.R_append_step k30 (w0 := w) w.heap.size (by rfl) (.tmp 47) (.tmp 53) 24 30 (.agg #[(.int .i64 0), (.int .i64 0), (.int .i64 0)]) 24 rfl Try.underlying24 info30 rfl (by decide) (by omega) u160000 x160000_1 (⟨(⟨(rd_T30 t155 x9_1).f0.f0, (rd_T30 t155 x9_1).f0.f1⟩ : S28), (rd_T30 t155 x9_1).f1⟩ : S30) [.int .i64 ((rd_T30 t155 x9_1).f0.f0), .int .i64 ((rd_T30 t155 x9_1).f0.f1), .int .i64 ((rd_T30 t155 x9_1).f1)] (fun k_ => some k_ ≠ (.slice (some ad160) t155.length co18 : Value).ownBlock ∧ k_ ≠ gb149) (fun _ => False) rfl rfl ?aP (fun _ hk => hk.elim) ?aF ?aO ?aB ?aS ?aL ?_
    (case aP => exact k30_mkM _ _ _ (⟨(⟨(rd_T30 t155 x9_1).f0.f0, (rd_T30 t155 x9_1).f0.f1⟩ : S28), (rd_T30 t155 x9_1).f1⟩ : S30))
    (case aB => exact (bw112_))
    (case aF => exact (fun k_ hk => ⟨Kd.fresh' (Kd.R_lt (hd_ HO_159000)) k_ hk, Kd.freshB (g := gb149) (o := .cells #[.int .i64 a1_0, .int .i64 a1_1, .int .i64 a1_2] 30 (0, 0)) (bx_ BK149) k_ hk⟩))
    (case aO => exact (hd_ HO_160000))
    (case aS => exact (bz_ HB))
    (case aL => have := LMc32.out; omega)
    intro v162 w40 ho hb hg hat
    rw [← Ny161.out] at ho
    have HO163 := Aside0.mk ho
    replace HO_159000 := Aside0.mk (Kd.R_after (ok := (fun k_ => k_ ≠ gb149)) (by (with_reducible repeat (first | apply Kd.R_alloc | apply Kd.R_drewN | apply Kd.R_drew)); exact Kd.R_mono HO_159000.out (fun _ hk => by first | exact ⟨hk.2, hk.1⟩ | grind)) hg hat)
    replace BK148 := Aside0.mk (blk_grown (g := gb148) (o := .cells #[.slice A0_0 l0_0.length c0_0] 26 (0, 0)) (bx_ BK148) hg (Kd.R_ne HO_160000.out BK148.out (by decide)))
    replace BK149 := Aside0.mk (blk_grown (g := gb149) (o := .cells #[.int .i64 a1_0, .int .i64 a1_1, .int .i64 a1_2] 30 (0, 0)) (bx_ BK149) hg (Kd.R_away HO_160000.out (fun _ hk => hk.2)))
    replace BK150 := Aside0.mk (blk_grown (g := gb150) (o := .cells #[.slice none 0 0] 26 (0, 0)) (bx_ BK150) hg (Kd.R_ne HO_160000.out BK150.out (by decide)))
    replace BK158 := Aside0.mk (blk_grown (g := gb158) (o := .cells #[.slice (some ad160) t155.length co18] 26 (0, 0)) (bx_ BK158) hg (Kd.R_ne HO_160000.out BK158.out (by decide)))
    replace BK159 := Aside0.mk (blk_grown (g := gb159) (o := .cells #[u160000] 26 (0, 0)) (bx_ BK159) hg (Kd.R_ne HO_160000.out BK159.out (by decide)))
    replace HB := Aside0.mk (hb)
    clear HO_160000
    clear ho hb hg hat
    obtain ⟨Ao41, co41, eo41⟩ := Kd.R_slice HO163.out
    (first | subst eo41 | (injection eo41 with f1_ f2_ f3_; have f4_ := f1_.symm; have f5_ := f3_.symm; clear f1_ f2_ f3_; subst f4_; subst f5_))
    refine hK.out _ _ ?_
    clear hK K
    refine nz_ 54 ?_
    refine pz_ 9 55 ba5_24 HT_ ?_
    refine last_ (i := 10) (N := none) ba5_25 rfl rfl (one_of HT_.out (by kernel_rfl)) (by decide) (fun K hK => ?_)
    have hs42 : w40.cell? ⟨gb159, 0, none⟩ = some (u160000) := (blk_cell BK159.out 0).trans rfl
    have hfs42 := fz_ BK159 0
    have hns42_0 := NB148_159.out
    have hns42_1 := NB149_159.out
    have hns42_2 := NB150_159.out
    have hns42_3 := NB158_159.out
    have hms42_0 := NB159_148.out
    have hms42_1 := NB159_149.out
    have hms42_2 := NB159_150.out
    have hms42_3 := NB159_158.out
    refine skip_ (w1 := ?_) (by rfl) rfl ?_ ?_
    rotate_left; · go_simp; rfl
    refine hK.out _ _ ?_
    clear hK K
    refine done_ (done_of HT_.out (by kernel_rfl)) ?_
    try go_wp2
    go_roundg k1
    case measure => have := HK1.out; omega
    case rel => exact ⟨(true), (wrap64 (x9_1 + 1)), (y161), (.slice Ao41 y161.length co41), er_, er_, H', ⟨by have := HK1.out; omega⟩, ⟨by (with_reducible repeat (first | apply Kd.R_alloc | apply Kd.R_drewN | apply Kd.R_drew)); exact Kd.R_mono (Kd.R_far (p := ⟨gb159, 0, none⟩) (Kd.R_types HO_159000.out BK159.out (by decide)) (fun _ hk => hk.2) (.slice Ao41 y161.length co41)) (fun _ hk => by first | exact ⟨hk.1.2, hk.1.1⟩ | grind)⟩, ⟨by (with_reducible repeat (first | apply Kd.R_alloc | apply Kd.R_drewN | apply Kd.R_drew)); exact Kd.R_mono (Kd.R_far (p := ⟨gb159, 0, none⟩) (Kd.R_types HO163.out BK159.out (by decide)) (fun _ hk => hk.2) (.slice Ao41 y161.length co41)) (fun _ hk => by first | exact ⟨hk.1.1, hk.1.2⟩ | grind)⟩, ⟨bc_ BK148⟩, ⟨bc_ BK149⟩, ⟨bc_ BK150⟩, ⟨bc_ BK158⟩, ⟨by refine bd_ ?_; refine blk_put (cs := #[u160000]) ?_ 0 _ rfl; refine bd_ ?_; exact BK159.out⟩, ⟨bw112_⟩⟩
   replace c30 := Bool.eq_false_iff.mpr c30
   subst c30
   rw [if_neg (show ¬ (false = true) by decide)] at H
   obtain ⟨c43b0, H⟩ := iq_ H
   replace H := Option.bind_eq_some_iff.mp H
   obtain ⟨t165, A440, H⟩ := H
   have A44 := Aside0.mk A440
   clear A440
   by_cases c45 : t165 = true
   rotate_left
   ·replace c45 := Bool.eq_false_iff.mpr c45
    subst c45
    rw [if_neg (show ¬ (false = true) by decide)] at H
    by_cases c70 : x160000_1.length < 5864062014805
    rotate_left
    ·rw [if_neg c70] at H
     exact absurd H (by simp)
    rw [if_pos c70] at H
    have LMc70 := Aside0.mk c70
    clear c70
    obtain ⟨y174, hy174⟩ : ∃ y_ : List (S30), y_ = (x160000_1 ++ [(⟨(⟨(rd_T30 t155 x9_1).f0.f0, (rd_T30 t155 x9_1).f0.f1⟩ : S28), (rd_T30 t155 x9_1).f1⟩ : S30)]) := ⟨_, rfl⟩
    replace H : (spec_PutRoute.l0 k1 false (wrap64 (x9_1 + 1)) l0_0 a1_0 a1_1 a1_2 t155 y174) = some (r1, r2) := by first | (rw [hy174]; with_reducible exact H) | (have H2_ := (Option.bind_some _ _).symm.trans H; rw [hy174]; with_reducible exact H2_) | (have H2_ := (Option.bind_some _ _).symm.trans H; with_reducible exact H2_) | with_reducible exact H | (rw [hy174]; exact H) | exact H
    have Ny174 := Aside0.mk hy174
    clear hy174
    have H' := Aside0.mk H
    clear H
    have hnb71 := NB158_148.out
    have hnc71 := NB148_158.out
    have hnb72 := NB158_149.out
    have hnc72 := NB149_158.out
    have hnb73 := NB158_150.out
    have hnc73 := NB150_158.out
    have hnb74 := NB158_159.out
    have hnc74 := NB159_158.out
    have hcz75_0 := cz_ BK158 0 (.slice Ao18 t155.length co18)
    have hfz75_0 := fz_ BK158 0
    try go_wp2
    replace HO_159000 := Aside0.mk (Kd.R_drew HO_159000.out)
    replace HO_160000 := Aside0.mk (Kd.R_drew HO_160000.out)
    replace BK148 := ad_ BK148
    replace BK149 := ad_ BK149
    replace BK150 := ad_ BK150
    replace BK158 := ad_ BK158
    replace BK159 := ad_ BK159
    replace HB := Aside0.mk (below_drew1 HB.out)
    have p164 : 0 ≤ (x9_1 : Int) := oa_
    have q164 : x9_1 < (t155.length : Int) := oa_
    obtain ⟨ad164, e164, hx164_0, hx164_1, hx164_2⟩ := at_T30 (Kd.R_reads' HO_159000.out).2.2 x9_1 p164 q164
    cases e164
    replace p164 := eq_true p164
    replace q164 := eq_true q164
    refine start_ (n := 13) (S := fun w' => w'.cell? ⟨gb149, 0, none⟩ = some (.int .i64 a1_0) ∧ w'.cell? ⟨gb149, 1, none⟩ = some (.int .i64 a1_1) ∧ w'.cell? ⟨gb149, 2, none⟩ = some (.int .i64 a1_2) ∧ w'.cell? ⟨gb158, 0, none⟩ = some (.slice (some ad164) t155.length co18) ∧ w'.cell? (ad164.add ((x9_1).toNat * 3)) = some (.int .i64 ((rd_T30 t155 x9_1).f0.f0)) ∧ w'.cell? ⟨(ad164.add ((x9_1).toNat * 3)).block, (ad164.add ((x9_1).toNat * 3)).off + 1, none⟩ = some (.int .i64 ((rd_T30 t155 x9_1).f0.f1)) ∧ w'.cell? ⟨(ad164.add ((x9_1).toNat * 3)).block, (ad164.add ((x9_1).toNat * 3)).off + 2, none⟩ = some (.int .i64 ((rd_T30 t155 x9_1).f1))) (ds := []) ba5_0 (by kernel_rfl) rfl rfl ⟨(blk_cell BK149.out 0).trans rfl, (blk_cell BK149.out 1).trans rfl, (blk_cell BK149.out 2).trans rfl, (blk_cell BK158.out 0).trans rfl, hx164_0, hx164_1, hx164_2⟩ (fun hHeld => ?_); refine with_tabW spec_PutRoute.tab9 spec_PutRoute.bits9 (fun HT_ HW_ => ?_)
    generalize wr.drew = w76 at HO_159000 HO_160000 BK148 BK149 BK150 BK158 BK159 HB hx164_0 hx164_1 hx164_2 hHeld ⊢
    refine pz_ 0 27 ba5_1 HT_ ?_
    refine pz_ 1 28 ba5_2 HT_ ?_
    refine pz_ 2 29 ba5_3 HT_ ?_
    refine pz_ 3 30 ba5_4 HT_ ?_
    refine pz_ 5 32 ba5_26 HT_ ?_
    refine pz_ 7 34 ba5_27 HT_ ?_
    refine pt_ 4 31 ba5_28 HT_ HW_ hHeld ?_
    refine pt_ 6 33 ba5_8 HT_ HW_ hHeld ?_
    refine pz_ 8 35 ba5_9 HT_ ?_
    refine pz_ 9 36 ba5_10 HT_ ?_
    refine pt_ 10 37 ba5_11 HT_ HW_ hHeld ?_
    refine one_ (i := 11) (N := some 38) ba5_12 rfl rfl (one_of HT_.out (by kernel_rfl)) (by decide) (fun K hK => ?_)
    refine gz_ Try.func47 #[.agg #[.int .i64 a1_0, .int .i64 a1_1], .agg #[.int .i64 ((rd_T30 t155 x9_1).f0.f0), .int .i64 ((rd_T30 t155 x9_1).f0.f1)]] ?_
    with_reducible refine (spec_l02Ahead.calls a1_0 a1_1 ((rd_T30 t155 x9_1).f0.f0) ((rd_T30 t155 x9_1).f0.f1) false _ A44.out).mono ?_
    rintro e w77 ⟨rfl, hb⟩
    have HS4_ := (hb.cell (World.block_lt_of_cell? _ _ (hHeld.2.2.2.2.1))).trans (hHeld.2.2.2.2.1)
    have HS5_ := (hb.cell (World.block_lt_of_cell? _ _ (hHeld.2.2.2.2.2.1))).trans (hHeld.2.2.2.2.2.1)
    have HS6_ := (hb.cell (World.block_lt_of_cell? _ _ (hHeld.2.2.2.2.2.2))).trans (hHeld.2.2.2.2.2.2)
    refine ⟨_, rfl, ?_⟩
    replace HO_159000 := rb_ HO_159000 hb
    replace HO_160000 := rb_ HO_160000 hb
    replace BK148 := ab_ BK148 hb
    replace BK149 := ab_ BK149 hb
    replace BK150 := ab_ BK150 hb
    replace BK158 := ab_ BK158 hb
    replace BK159 := ab_ BK159 hb
    replace HB := at_ HB hb
    (try clear hb)
    (try clear hb2)
    (try clear hk)
    (try clear hi)
    refine hK.out _ _ ⟨(blk_cell BK149.out 0).trans rfl, (blk_cell BK149.out 1).trans rfl, (blk_cell BK149.out 2).trans rfl, (blk_cell BK158.out 0).trans rfl, HS4_, HS5_, HS6_⟩ (fun hHeld => ?_)
    clear hK K
    refine nz_ 38 ?_
    refine pz_ 12 39 ba5_13 HT_ ?_
    refine done_ (done_of HT_.out (by kernel_rfl)) ?_
    try go_wp2
    replace HO_159000 := Aside0.mk (Kd.R_drew HO_159000.out)
    replace HO_160000 := Aside0.mk (Kd.R_drew HO_160000.out)
    replace BK148 := ad_ BK148
    replace BK149 := ad_ BK149
    replace BK150 := ad_ BK150
    replace BK158 := ad_ BK158
    replace BK159 := ad_ BK159
    replace HB := Aside0.mk (below_drew1 HB.out)
    have p173 : 0 ≤ (x9_1 : Int) := oa_
    have q173 : x9_1 < (t155.length : Int) := oa_
    obtain ⟨ad173, e173, hx173_0, hx173_1, hx173_2⟩ := at_T30 (Kd.R_reads' HO_159000.out).2.2 x9_1 p173 q173
    obtain rfl : ad164 = ad173 := (by injection e173)
    replace p173 := eq_true p173
    replace q173 := eq_true q173
    refine start_ (n := 11) (S := fun w' => w'.cell? ⟨gb159, 0, none⟩ = some (u160000) ∧ w'.cell? ⟨gb158, 0, none⟩ = some (.slice (some ad164) t155.length co18) ∧ w'.cell? (ad164.add ((x9_1).toNat * 3)) = some (.int .i64 ((rd_T30 t155 x9_1).f0.f0)) ∧ w'.cell? ⟨(ad164.add ((x9_1).toNat * 3)).block, (ad164.add ((x9_1).toNat * 3)).off + 1, none⟩ = some (.int .i64 ((rd_T30 t155 x9_1).f0.f1)) ∧ w'.cell? ⟨(ad164.add ((x9_1).toNat * 3)).block, (ad164.add ((x9_1).toNat * 3)).off + 2, none⟩ = some (.int .i64 ((rd_T30 t155 x9_1).f1))) (ds := [8, 10]) ba5_14 (by kernel_rfl) rfl rfl ⟨(blk_cell BK159.out 0).trans rfl, (blk_cell BK158.out 0).trans rfl, hx173_0, hx173_1, hx173_2⟩ (fun hHeld => ?_); refine with_tabW spec_PutRoute.tab12 spec_PutRoute.bits12 (fun HT_ HW_ => ?_)
    generalize w77.drew = w78 at HO_159000 HO_160000 BK148 BK149 BK150 BK158 BK159 HB hx173_0 hx173_1 hx173_2 hHeld ⊢
    refine pz_ 0 46 ba5_15 HT_ ?_
    refine pz_ 2 48 ba5_16 HT_ ?_
    refine pz_ 4 50 ba5_17 HT_ ?_
    refine pt_ 1 47 ba5_18 HT_ HW_ hHeld ?_
    refine pt_ 3 49 ba5_19 HT_ HW_ hHeld ?_
    refine pz_ 5 51 ba5_20 HT_ ?_
    refine pt_ 6 52 ba5_21 HT_ HW_ hHeld ?_
    refine one_ (i := 7) (N := some 53) ba5_22 rfl rfl (one_of HT_.out (by kernel_rfl)) (by decide) (fun K hK => ?_)
    refine value_ (w1 := ?_) (v := ?_) (by rfl) rfl ?_ ?_
    rotate_left 2
    ·go_simp
     constructor
     ·rfl
     ·rfl
    refine hK.out _ _ ⟨(blk_cell (blk_alloc BK159.out _) 0).trans rfl, (blk_cell (blk_alloc BK158.out _) 0).trans rfl, (World.cell?_alloc_lt _ _ _ (World.block_lt_of_cell? _ _ (hHeld.2.2.1))).trans (hHeld.2.2.1), (World.cell?_alloc_lt _ _ _ (World.block_lt_of_cell? _ _ (hHeld.2.2.2.1))).trans (hHeld.2.2.2.1), (World.cell?_alloc_lt _ _ _ (World.block_lt_of_cell? _ _ (hHeld.2.2.2.2))).trans (hHeld.2.2.2.2)⟩ (fun hHeld => ?_)
    clear hK K
    refine nz_ 53 ?_
    refine last_ (i := 8) (N := some 54) ba5_23 rfl rfl (one_of HT_.out (by kernel_rfl)) (by decide) (fun K hK => ?_)
    refine Kd.R_append_step k30 (w0 := w) w.heap.size (by rfl) (.tmp 47) (.tmp 53) 24 30 (.agg #[(.int .i64 0), (.int .i64 0), (.int .i64 0)]) 24 rfl Try.underlying24 info30 rfl (by decide) (by omega) u160000 x160000_1 (⟨(⟨(rd_T30 t155 x9_1).f0.f0, (rd_T30 t155 x9_1).f0.f1⟩ : S28), (rd_T30 t155 x9_1).f1⟩ : S30) [.int .i64 ((rd_T30 t155 x9_1).f0.f0), .int .i64 ((rd_T30 t155 x9_1).f0.f1), .int .i64 ((rd_T30 t155 x9_1).f1)] (fun k_ => some k_ ≠ (.slice (some ad164) t155.length co18 : Value).ownBlock ∧ k_ ≠ gb149) (fun _ => False) rfl rfl ?aP (fun _ hk => hk.elim) ?aF ?aO ?aB ?aS ?aL ?_
    (case aP => exact k30_mkM _ _ _ (⟨(⟨(rd_T30 t155 x9_1).f0.f0, (rd_T30 t155 x9_1).f0.f1⟩ : S28), (rd_T30 t155 x9_1).f1⟩ : S30))
    (case aB => exact (bw112_))
    (case aF => exact (fun k_ hk => ⟨Kd.fresh' (Kd.R_lt (hd_ HO_159000)) k_ hk, Kd.freshB (g := gb149) (o := .cells #[.int .i64 a1_0, .int .i64 a1_1, .int .i64 a1_2] 30 (0, 0)) (bx_ BK149) k_ hk⟩))
    (case aO => exact (hd_ HO_160000))
    (case aS => exact (bz_ HB))
    (case aL => have := LMc70.out; omega)
    intro v175 w79 ho hb hg hat
    rw [← Ny174.out] at ho
    have HO176 := Aside0.mk ho
    replace HO_159000 := Aside0.mk (Kd.R_after (ok := (fun k_ => k_ ≠ gb149)) (by (with_reducible repeat (first | apply Kd.R_alloc | apply Kd.R_drewN | apply Kd.R_drew)); exact Kd.R_mono HO_159000.out (fun _ hk => by first | exact ⟨hk.2, hk.1⟩ | grind)) hg hat)
    replace BK148 := Aside0.mk (blk_grown (g := gb148) (o := .cells #[.slice A0_0 l0_0.length c0_0] 26 (0, 0)) (bx_ BK148) hg (Kd.R_ne HO_160000.out BK148.out (by decide)))
    replace BK149 := Aside0.mk (blk_grown (g := gb149) (o := .cells #[.int .i64 a1_0, .int .i64 a1_1, .int .i64 a1_2] 30 (0, 0)) (bx_ BK149) hg (Kd.R_away HO_160000.out (fun _ hk => hk.2)))
    replace BK150 := Aside0.mk (blk_grown (g := gb150) (o := .cells #[.slice none 0 0] 26 (0, 0)) (bx_ BK150) hg (Kd.R_ne HO_160000.out BK150.out (by decide)))
    replace BK158 := Aside0.mk (blk_grown (g := gb158) (o := .cells #[.slice (some ad164) t155.length co18] 26 (0, 0)) (bx_ BK158) hg (Kd.R_ne HO_160000.out BK158.out (by decide)))
    replace BK159 := Aside0.mk (blk_grown (g := gb159) (o := .cells #[u160000] 26 (0, 0)) (bx_ BK159) hg (Kd.R_ne HO_160000.out BK159.out (by decide)))
    replace HB := Aside0.mk (hb)
    clear HO_160000
    clear ho hb hg hat
    obtain ⟨Ao80, co80, eo80⟩ := Kd.R_slice HO176.out
    (first | subst eo80 | (injection eo80 with f1_ f2_ f3_; have f4_ := f1_.symm; have f5_ := f3_.symm; clear f1_ f2_ f3_; subst f4_; subst f5_))
    refine hK.out _ _ ?_
    clear hK K
    refine nz_ 54 ?_
    refine pz_ 9 55 ba5_24 HT_ ?_
    refine last_ (i := 10) (N := none) ba5_25 rfl rfl (one_of HT_.out (by kernel_rfl)) (by decide) (fun K hK => ?_)
    have hs81 : w79.cell? ⟨gb159, 0, none⟩ = some (u160000) := (blk_cell BK159.out 0).trans rfl
    have hfs81 := fz_ BK159 0
    have hns81_0 := NB148_159.out
    have hns81_1 := NB149_159.out
    have hns81_2 := NB150_159.out
    have hns81_3 := NB158_159.out
    have hms81_0 := NB159_148.out
    have hms81_1 := NB159_149.out
    have hms81_2 := NB159_150.out
    have hms81_3 := NB159_158.out
    refine skip_ (w1 := ?_) (by rfl) rfl ?_ ?_
    rotate_left; · go_simp; rfl
    refine hK.out _ _ ?_
    clear hK K
    refine done_ (done_of HT_.out (by kernel_rfl)) ?_
    try go_wp2
    go_roundg k1
    case measure => have := HK1.out; omega
    case rel => exact ⟨(false), (wrap64 (x9_1 + 1)), (y174), (.slice Ao80 y174.length co80), er_, er_, H', ⟨by have := HK1.out; omega⟩, ⟨by (with_reducible repeat (first | apply Kd.R_alloc | apply Kd.R_drewN | apply Kd.R_drew)); exact Kd.R_mono (Kd.R_far (p := ⟨gb159, 0, none⟩) (Kd.R_types HO_159000.out BK159.out (by decide)) (fun _ hk => hk.2) (.slice Ao80 y174.length co80)) (fun _ hk => by first | exact ⟨hk.1.2, hk.1.1⟩ | grind)⟩, ⟨by (with_reducible repeat (first | apply Kd.R_alloc | apply Kd.R_drewN | apply Kd.R_drew)); exact Kd.R_mono (Kd.R_far (p := ⟨gb159, 0, none⟩) (Kd.R_types HO176.out BK159.out (by decide)) (fun _ hk => hk.2) (.slice Ao80 y174.length co80)) (fun _ hk => by first | exact ⟨hk.1.1, hk.1.2⟩ | grind)⟩, ⟨bc_ BK148⟩, ⟨bc_ BK149⟩, ⟨bc_ BK150⟩, ⟨bc_ BK158⟩, ⟨by refine bd_ ?_; refine blk_put (cs := #[u160000]) ?_ 0 _ rfl; refine bd_ ?_; exact BK159.out⟩, ⟨bw112_⟩⟩
   subst c45
   rw [if_pos rfl] at H
   by_cases c46 : x160000_1.length < 5864062014805
   rotate_left
   ·rw [if_neg c46] at H
    exact absurd H (by simp)
   rw [if_pos c46] at H
   have LMc46 := Aside0.mk c46
   clear c46
   obtain ⟨y166, hy166⟩ : ∃ y_ : List (S30), y_ = (x160000_1 ++ [(⟨(⟨a1_0, a1_1⟩ : S28), a1_2⟩ : S30)]) := ⟨_, rfl⟩
   replace H : (if y166.length < 5864062014805 then (spec_PutRoute.l0 k1 true (wrap64 (x9_1 + 1)) l0_0 a1_0 a1_1 a1_2 t155 (y166 ++ [(⟨(⟨(rd_T30 t155 x9_1).f0.f0, (rd_T30 t155 x9_1).f0.f1⟩ : S28), (rd_T30 t155 x9_1).f1⟩ : S30)])) else (none)) = some (r1, r2) := by first | (rw [hy166]; with_reducible exact H) | (have H2_ := (Option.bind_some _ _).symm.trans H; rw [hy166]; with_reducible exact H2_) | (have H2_ := (Option.bind_some _ _).symm.trans H; with_reducible exact H2_) | with_reducible exact H | (rw [hy166]; exact H) | exact H
   have Ny166 := Aside0.mk hy166
   clear hy166
   by_cases c47 : y166.length < 5864062014805
   rotate_left
   ·rw [if_neg c47] at H
    exact absurd H (by simp)
   rw [if_pos c47] at H
   have LMc47 := Aside0.mk c47
   clear c47
   obtain ⟨y170, hy170⟩ : ∃ y_ : List (S30), y_ = (y166 ++ [(⟨(⟨(rd_T30 t155 x9_1).f0.f0, (rd_T30 t155 x9_1).f0.f1⟩ : S28), (rd_T30 t155 x9_1).f1⟩ : S30)]) := ⟨_, rfl⟩
   replace H : (spec_PutRoute.l0 k1 true (wrap64 (x9_1 + 1)) l0_0 a1_0 a1_1 a1_2 t155 y170) = some (r1, r2) := by first | (rw [hy170]; with_reducible exact H) | (have H2_ := (Option.bind_some _ _).symm.trans H; rw [hy170]; with_reducible exact H2_) | (have H2_ := (Option.bind_some _ _).symm.trans H; with_reducible exact H2_) | with_reducible exact H | (rw [hy170]; exact H) | exact H
   have Ny170 := Aside0.mk hy170
   clear hy170
   have H' := Aside0.mk H
   clear H
   have hnb48 := NB158_148.out
   have hnc48 := NB148_158.out
   have hnb49 := NB158_149.out
   have hnc49 := NB149_158.out
   have hnb50 := NB158_150.out
   have hnc50 := NB150_158.out
   have hnb51 := NB158_159.out
   have hnc51 := NB159_158.out
   have hcz52_0 := cz_ BK158 0 (.slice Ao18 t155.length co18)
   have hfz52_0 := fz_ BK158 0
   try go_wp2
   replace HO_159000 := Aside0.mk (Kd.R_drew HO_159000.out)
   replace HO_160000 := Aside0.mk (Kd.R_drew HO_160000.out)
   replace BK148 := ad_ BK148
   replace BK149 := ad_ BK149
   replace BK150 := ad_ BK150
   replace BK158 := ad_ BK158
   replace BK159 := ad_ BK159
   replace HB := Aside0.mk (below_drew1 HB.out)
   have p164 : 0 ≤ (x9_1 : Int) := oa_
   have q164 : x9_1 < (t155.length : Int) := oa_
   obtain ⟨ad164, e164, hx164_0, hx164_1, hx164_2⟩ := at_T30 (Kd.R_reads' HO_159000.out).2.2 x9_1 p164 q164
   cases e164
   replace p164 := eq_true p164
   replace q164 := eq_true q164
   refine start_ (n := 13) (S := fun w' => w'.cell? ⟨gb149, 0, none⟩ = some (.int .i64 a1_0) ∧ w'.cell? ⟨gb149, 1, none⟩ = some (.int .i64 a1_1) ∧ w'.cell? ⟨gb149, 2, none⟩ = some (.int .i64 a1_2) ∧ w'.cell? ⟨gb158, 0, none⟩ = some (.slice (some ad164) t155.length co18) ∧ w'.cell? (ad164.add ((x9_1).toNat * 3)) = some (.int .i64 ((rd_T30 t155 x9_1).f0.f0)) ∧ w'.cell? ⟨(ad164.add ((x9_1).toNat * 3)).block, (ad164.add ((x9_1).toNat * 3)).off + 1, none⟩ = some (.int .i64 ((rd_T30 t155 x9_1).f0.f1)) ∧ w'.cell? ⟨(ad164.add ((x9_1).toNat * 3)).block, (ad164.add ((x9_1).toNat * 3)).off + 2, none⟩ = some (.int .i64 ((rd_T30 t155 x9_1).f1))) (ds := []) ba5_0 (by kernel_rfl) rfl rfl ⟨(blk_cell BK149.out 0).trans rfl, (blk_cell BK149.out 1).trans rfl, (blk_cell BK149.out 2).trans rfl, (blk_cell BK158.out 0).trans rfl, hx164_0, hx164_1, hx164_2⟩ (fun hHeld => ?_); refine with_tabW spec_PutRoute.tab9 spec_PutRoute.bits9 (fun HT_ HW_ => ?_)
   generalize wr.drew = w53 at HO_159000 HO_160000 BK148 BK149 BK150 BK158 BK159 HB hx164_0 hx164_1 hx164_2 hHeld ⊢
   refine pz_ 0 27 ba5_1 HT_ ?_
   refine pz_ 1 28 ba5_2 HT_ ?_
   refine pz_ 2 29 ba5_3 HT_ ?_
   refine pz_ 3 30 ba5_4 HT_ ?_
   refine pz_ 5 32 ba5_26 HT_ ?_
   refine pz_ 7 34 ba5_27 HT_ ?_
   refine pt_ 4 31 ba5_28 HT_ HW_ hHeld ?_
   refine pt_ 6 33 ba5_8 HT_ HW_ hHeld ?_
   refine pz_ 8 35 ba5_9 HT_ ?_
   refine pz_ 9 36 ba5_10 HT_ ?_
   refine pt_ 10 37 ba5_11 HT_ HW_ hHeld ?_
   refine one_ (i := 11) (N := some 38) ba5_12 rfl rfl (one_of HT_.out (by kernel_rfl)) (by decide) (fun K hK => ?_)
   refine gz_ Try.func47 #[.agg #[.int .i64 a1_0, .int .i64 a1_1], .agg #[.int .i64 ((rd_T30 t155 x9_1).f0.f0), .int .i64 ((rd_T30 t155 x9_1).f0.f1)]] ?_
   with_reducible refine (spec_l02Ahead.calls a1_0 a1_1 ((rd_T30 t155 x9_1).f0.f0) ((rd_T30 t155 x9_1).f0.f1) true _ A44.out).mono ?_
   rintro e w54 ⟨rfl, hb⟩
   have HS4_ := (hb.cell (World.block_lt_of_cell? _ _ (hHeld.2.2.2.2.1))).trans (hHeld.2.2.2.2.1)
   have HS5_ := (hb.cell (World.block_lt_of_cell? _ _ (hHeld.2.2.2.2.2.1))).trans (hHeld.2.2.2.2.2.1)
   have HS6_ := (hb.cell (World.block_lt_of_cell? _ _ (hHeld.2.2.2.2.2.2))).trans (hHeld.2.2.2.2.2.2)
   refine ⟨_, rfl, ?_⟩
   replace HO_159000 := rb_ HO_159000 hb
   replace HO_160000 := rb_ HO_160000 hb
   replace BK148 := ab_ BK148 hb
   replace BK149 := ab_ BK149 hb
   replace BK150 := ab_ BK150 hb
   replace BK158 := ab_ BK158 hb
   replace BK159 := ab_ BK159 hb
   replace HB := at_ HB hb
   (try clear hb)
   (try clear hb2)
   (try clear hk)
   (try clear hi)
   refine hK.out _ _ ⟨(blk_cell BK149.out 0).trans rfl, (blk_cell BK149.out 1).trans rfl, (blk_cell BK149.out 2).trans rfl, (blk_cell BK158.out 0).trans rfl, HS4_, HS5_, HS6_⟩ (fun hHeld => ?_)
   clear hK K
   refine nz_ 38 ?_
   refine pz_ 12 39 ba5_13 HT_ ?_
   refine done_ (done_of HT_.out (by kernel_rfl)) ?_
   have hnb55 := NB159_148.out
   have hnc55 := NB148_159.out
   have hnb56 := NB159_149.out
   have hnc56 := NB149_159.out
   have hnb57 := NB159_150.out
   have hnc57 := NB150_159.out
   have hcz58_0 := cz_ BK159 0 (u160000)
   have hfz58_0 := fz_ BK159 0
   have hnb59 := NB149_148.out
   have hnc59 := NB148_149.out
   have hnb60 := NB149_150.out
   have hnc60 := NB150_149.out
   have hcz61_0 := cz_ BK149 0 (.int .i64 a1_0)
   have hcz61_1 := cz_ BK149 1 (.int .i64 a1_1)
   have hcz61_2 := cz_ BK149 2 (.int .i64 a1_2)
   have hfz61_0 := fz_ BK149 0
   have hfz61_1 := fz_ BK149 1
   have hfz61_2 := fz_ BK149 2
   try go_wp2_with (first | ((with_reducible refine gate_builtin (b := .append) (xs := #[.tmp 41, .tmp 43]) rfl ?_); at_builtin; refine Kd.R_append k30 (w0 := w) w.heap.size rfl (.tmp 41) (.tmp 43) 24 30 (.agg #[(.int .i64 0), (.int .i64 0), (.int .i64 0)]) 24 rfl Try.underlying24 info30 rfl (by decide) (by omega) u160000 x160000_1 (⟨(⟨a1_0, a1_1⟩ : S28), a1_2⟩ : S30) [.int .i64 a1_0, .int .i64 a1_1, .int .i64 a1_2] (fun k_ => some k_ ≠ (.slice (some ad164) t155.length co18 : Value).ownBlock ∧ k_ ≠ gb149) (fun _ => False) rfl rfl ?aP (fun _ hk => hk.elim) ?aF ?aO ?aB ?aS ?aL ?_; (case aP => exact k30_mkM _ _ _ (⟨(⟨a1_0, a1_1⟩ : S28), a1_2⟩ : S30)); (case aB => exact (bw112_)); (case aF => exact (fun k_ hk => ⟨Kd.fresh' (Kd.R_lt (hd_ HO_159000)) k_ hk, Kd.freshB (g := gb149) (o := .cells #[.int .i64 a1_0, .int .i64 a1_1, .int .i64 a1_2] 30 (0, 0)) (bx_ BK149) k_ hk⟩)); (case aO => exact (hd_ HO_160000)); (case aS => exact (bz_ HB)); (case aL => have := LMc46.out; omega); intro v167 w62 ho hb hg hat; rw [← Ny166.out] at ho; have HO168 := Aside0.mk ho; replace HO_159000 := Aside0.mk (Kd.R_after (ok := (fun k_ => k_ ≠ gb149)) (by (with_reducible repeat (first | apply Kd.R_alloc | apply Kd.R_drewN | apply Kd.R_drew)); exact Kd.R_mono HO_159000.out (fun _ hk => by first | exact ⟨hk.2, hk.1⟩ | grind)) hg hat); replace BK148 := Aside0.mk (blk_grown (g := gb148) (o := .cells #[.slice A0_0 l0_0.length c0_0] 26 (0, 0)) (bx_ BK148) hg (Kd.R_ne HO_160000.out BK148.out (by decide))); replace BK149 := Aside0.mk (blk_grown (g := gb149) (o := .cells #[.int .i64 a1_0, .int .i64 a1_1, .int .i64 a1_2] 30 (0, 0)) (bx_ BK149) hg (Kd.R_away HO_160000.out (fun _ hk => hk.2))); replace BK150 := Aside0.mk (blk_grown (g := gb150) (o := .cells #[.slice none 0 0] 26 (0, 0)) (bx_ BK150) hg (Kd.R_ne HO_160000.out BK150.out (by decide))); replace BK158 := Aside0.mk (blk_grown (g := gb158) (o := .cells #[.slice (some ad164) t155.length co18] 26 (0, 0)) (bx_ BK158) hg (Kd.R_ne HO_160000.out BK158.out (by decide))); replace BK159 := Aside0.mk (blk_grown (g := gb159) (o := .cells #[u160000] 26 (0, 0)) (bx_ BK159) hg (Kd.R_ne HO_160000.out BK159.out (by decide))); replace HB := Aside0.mk (hb); clear HO_160000; clear ho hb hg hat; obtain ⟨Ao63, co63, eo63⟩ := Kd.R_slice HO168.out; subst eo63; have hcz64_0 := cz_ BK159 0 (u160000); have hfz64_0 := fz_ BK159 0))
   have n0_ : Aside0 (Kd.R k30 30 (w62.setCell ⟨gb159, 0, none⟩ (.slice Ao63 y166.length co63)) w.heap.size (fun k_ => some k_ ≠ (.slice Ao63 y166.length co63 : Value).ownBlock ∧ k_ ≠ gb149) (.slice (some ad164) t155.length co18) t155) := ⟨by (with_reducible repeat (first | apply Kd.R_alloc | apply Kd.R_drewN | apply Kd.R_drew)); exact Kd.R_mono (Kd.R_far (p := ⟨gb159, 0, none⟩) (Kd.R_types HO_159000.out BK159.out (by decide)) (fun _ hk => hk.2) (.slice Ao63 y166.length co63)) (fun _ hk => by first | exact ⟨hk.1.2, hk.1.1⟩ | grind)⟩
   have n1_ : Aside0 (Kd.R k30 30 (w62.setCell ⟨gb159, 0, none⟩ (.slice Ao63 y166.length co63)) w.heap.size (fun k_ => some k_ ≠ (.slice (some ad164) t155.length co18 : Value).ownBlock ∧ k_ ≠ gb149) (.slice Ao63 y166.length co63) y166) := ⟨by (with_reducible repeat (first | apply Kd.R_alloc | apply Kd.R_drewN | apply Kd.R_drew)); exact Kd.R_mono (Kd.R_far (p := ⟨gb159, 0, none⟩) (Kd.R_types HO168.out BK159.out (by decide)) (fun _ hk => hk.2) (.slice Ao63 y166.length co63)) (fun _ hk => by first | exact ⟨hk.1.1, hk.1.2⟩ | grind)⟩
   have n2_ : Aside0 ((w62.setCell ⟨gb159, 0, none⟩ (.slice Ao63 y166.length co63)).heap[gb148]? = some (.cells #[.slice A0_0 l0_0.length c0_0] 26 (0, 0))) := ⟨bc_ BK148⟩
   have n3_ : Aside0 ((w62.setCell ⟨gb159, 0, none⟩ (.slice Ao63 y166.length co63)).heap[gb149]? = some (.cells #[.int .i64 a1_0, .int .i64 a1_1, .int .i64 a1_2] 30 (0, 0))) := ⟨bc_ BK149⟩
   have n4_ : Aside0 ((w62.setCell ⟨gb159, 0, none⟩ (.slice Ao63 y166.length co63)).heap[gb150]? = some (.cells #[.slice none 0 0] 26 (0, 0))) := ⟨bc_ BK150⟩
   have n5_ : Aside0 ((w62.setCell ⟨gb159, 0, none⟩ (.slice Ao63 y166.length co63)).heap[gb158]? = some (.cells #[.slice (some ad164) t155.length co18] 26 (0, 0))) := ⟨bc_ BK158⟩
   have n6_ : Aside0 ((w62.setCell ⟨gb159, 0, none⟩ (.slice Ao63 y166.length co63)).heap[gb159]? = some (.cells #[.slice Ao63 y166.length co63] 26 (0, 0))) := ⟨by refine bd_ ?_; refine blk_put (cs := #[u160000]) ?_ 0 _ rfl; refine bd_ ?_; exact BK159.out⟩
   have n7_ : Aside0 (Below w.heap.size w (w62.setCell ⟨gb159, 0, none⟩ (.slice Ao63 y166.length co63))) := ⟨bw112_⟩
   (try clear HO_159000)
   (try clear HO168)
   (try clear BK148)
   (try clear BK149)
   (try clear BK150)
   (try clear BK158)
   (try clear BK159)
   (try clear HB)
   generalize (w62.setCell ⟨gb159, 0, none⟩ (.slice Ao63 y166.length co63)) = w65 at n0_ n1_ n2_ n3_ n4_ n5_ n6_ n7_ ⊢
   have HO_159000 := n0_
   have HO168 := n1_
   have BK148 := n2_
   have BK149 := n3_
   have BK150 := n4_
   have BK158 := n5_
   have BK159 := n6_
   have HB := n7_
   clear n0_ n1_ n2_ n3_ n4_ n5_ n6_ n7_
   replace HO_159000 := Aside0.mk (Kd.R_drew HO_159000.out)
   replace HO168 := Aside0.mk (Kd.R_drew HO168.out)
   replace BK148 := ad_ BK148
   replace BK149 := ad_ BK149
   replace BK150 := ad_ BK150
   replace BK158 := ad_ BK158
   replace BK159 := ad_ BK159
   replace HB := Aside0.mk (below_drew1 HB.out)
   have p169 : 0 ≤ (x9_1 : Int) := oa_
   have q169 : x9_1 < (t155.length : Int) := oa_
   obtain ⟨ad169, e169, hx169_0, hx169_1, hx169_2⟩ := at_T30 (Kd.R_reads' HO_159000.out).2.2 x9_1 p169 q169
   obtain rfl : ad164 = ad169 := (by injection e169)
   replace p169 := eq_true p169
   replace q169 := eq_true q169
   refine start_ (n := 11) (S := fun w' => w'.cell? ⟨gb159, 0, none⟩ = some (.slice Ao63 y166.length co63) ∧ w'.cell? ⟨gb158, 0, none⟩ = some (.slice (some ad164) t155.length co18) ∧ w'.cell? (ad164.add ((x9_1).toNat * 3)) = some (.int .i64 ((rd_T30 t155 x9_1).f0.f0)) ∧ w'.cell? ⟨(ad164.add ((x9_1).toNat * 3)).block, (ad164.add ((x9_1).toNat * 3)).off + 1, none⟩ = some (.int .i64 ((rd_T30 t155 x9_1).f0.f1)) ∧ w'.cell? ⟨(ad164.add ((x9_1).toNat * 3)).block, (ad164.add ((x9_1).toNat * 3)).off + 2, none⟩ = some (.int .i64 ((rd_T30 t155 x9_1).f1))) (ds := [8, 10]) ba5_14 (by kernel_rfl) rfl rfl ⟨(blk_cell BK159.out 0).trans rfl, (blk_cell BK158.out 0).trans rfl, hx169_0, hx169_1, hx169_2⟩ (fun hHeld => ?_); refine with_tabW spec_PutRoute.tab12 spec_PutRoute.bits12 (fun HT_ HW_ => ?_)
   generalize w65.drew = w66 at HO_159000 HO168 BK148 BK149 BK150 BK158 BK159 HB hx169_0 hx169_1 hx169_2 hHeld ⊢
   refine pz_ 0 46 ba5_15 HT_ ?_
   refine pz_ 2 48 ba5_16 HT_ ?_
   refine pz_ 4 50 ba5_17 HT_ ?_
   refine pt_ 1 47 ba5_18 HT_ HW_ hHeld ?_
   refine pt_ 3 49 ba5_19 HT_ HW_ hHeld ?_
   refine pz_ 5 51 ba5_20 HT_ ?_
   refine pt_ 6 52 ba5_21 HT_ HW_ hHeld ?_
   refine one_ (i := 7) (N := some 53) ba5_22 rfl rfl (one_of HT_.out (by kernel_rfl)) (by decide) (fun K hK => ?_)
   refine value_ (w1 := ?_) (v := ?_) (by rfl) rfl ?_ ?_
   rotate_left 2
   ·go_simp
    constructor
    ·rfl
    ·rfl
   refine hK.out _ _ ⟨(blk_cell (blk_alloc BK159.out _) 0).trans rfl, (blk_cell (blk_alloc BK158.out _) 0).trans rfl, (World.cell?_alloc_lt _ _ _ (World.block_lt_of_cell? _ _ (hHeld.2.2.1))).trans (hHeld.2.2.1), (World.cell?_alloc_lt _ _ _ (World.block_lt_of_cell? _ _ (hHeld.2.2.2.1))).trans (hHeld.2.2.2.1), (World.cell?_alloc_lt _ _ _ (World.block_lt_of_cell? _ _ (hHeld.2.2.2.2))).trans (hHeld.2.2.2.2)⟩ (fun hHeld => ?_)
   clear hK K
   refine nz_ 53 ?_
   refine last_ (i := 8) (N := some 54) ba5_23 rfl rfl (one_of HT_.out (by kernel_rfl)) (by decide) (fun K hK => ?_)
   refine Kd.R_append_step k30 (w0 := w) w.heap.size (by rfl) (.tmp 47) (.tmp 53) 24 30 (.agg #[(.int .i64 0), (.int .i64 0), (.int .i64 0)]) 24 rfl Try.underlying24 info30 rfl (by decide) (by omega) (.slice Ao63 y166.length co63) y166 (⟨(⟨(rd_T30 t155 x9_1).f0.f0, (rd_T30 t155 x9_1).f0.f1⟩ : S28), (rd_T30 t155 x9_1).f1⟩ : S30) [.int .i64 ((rd_T30 t155 x9_1).f0.f0), .int .i64 ((rd_T30 t155 x9_1).f0.f1), .int .i64 ((rd_T30 t155 x9_1).f1)] (fun k_ => some k_ ≠ (.slice (some ad164) t155.length co18 : Value).ownBlock ∧ k_ ≠ gb149) (fun _ => False) rfl rfl ?aP (fun _ hk => hk.elim) ?aF ?aO ?aB ?aS ?aL ?_
   (case aP => exact k30_mkM _ _ _ (⟨(⟨(rd_T30 t155 x9_1).f0.f0, (rd_T30 t155 x9_1).f0.f1⟩ : S28), (rd_T30 t155 x9_1).f1⟩ : S30))
   (case aB => exact (bw112_))
   (case aF => exact (fun k_ hk => ⟨Kd.fresh' (Kd.R_lt (hd_ HO_159000)) k_ hk, Kd.freshB (g := gb149) (o := .cells #[.int .i64 a1_0, .int .i64 a1_1, .int .i64 a1_2] 30 (0, 0)) (bx_ BK149) k_ hk⟩))
   (case aO => exact (hd_ HO168))
   (case aS => exact (bz_ HB))
   (case aL => have := LMc47.out; omega)
   intro v171 w67 ho hb hg hat
   rw [← Ny170.out] at ho
   have HO172 := Aside0.mk ho
   replace HO_159000 := Aside0.mk (Kd.R_after (ok := (fun k_ => k_ ≠ gb149)) (by (with_reducible repeat (first | apply Kd.R_alloc | apply Kd.R_drewN | apply Kd.R_drew)); exact Kd.R_mono HO_159000.out (fun _ hk => by first | exact ⟨hk.2, hk.1⟩ | grind)) hg hat)
   replace BK148 := Aside0.mk (blk_grown (g := gb148) (o := .cells #[.slice A0_0 l0_0.length c0_0] 26 (0, 0)) (bx_ BK148) hg (Kd.R_ne HO168.out BK148.out (by decide)))
   replace BK149 := Aside0.mk (blk_grown (g := gb149) (o := .cells #[.int .i64 a1_0, .int .i64 a1_1, .int .i64 a1_2] 30 (0, 0)) (bx_ BK149) hg (Kd.R_away HO168.out (fun _ hk => hk.2)))
   replace BK150 := Aside0.mk (blk_grown (g := gb150) (o := .cells #[.slice none 0 0] 26 (0, 0)) (bx_ BK150) hg (Kd.R_ne HO168.out BK150.out (by decide)))
   replace BK158 := Aside0.mk (blk_grown (g := gb158) (o := .cells #[.slice (some ad164) t155.length co18] 26 (0, 0)) (bx_ BK158) hg (Kd.R_ne HO168.out BK158.out (by decide)))
   replace BK159 := Aside0.mk (blk_grown (g := gb159) (o := .cells #[.slice Ao63 y166.length co63] 26 (0, 0)) (bx_ BK159) hg (Kd.R_ne HO168.out BK159.out (by decide)))
   replace HB := Aside0.mk (hb)
   clear HO168
   clear ho hb hg hat
   obtain ⟨Ao68, co68, eo68⟩ := Kd.R_slice HO172.out
   (first | subst eo68 | (injection eo68 with f1_ f2_ f3_; have f4_ := f1_.symm; have f5_ := f3_.symm; clear f1_ f2_ f3_; subst f4_; subst f5_))
   refine hK.out _ _ ?_
   clear hK K
   refine nz_ 54 ?_
   refine pz_ 9 55 ba5_24 HT_ ?_
   refine last_ (i := 10) (N := none) ba5_25 rfl rfl (one_of HT_.out (by kernel_rfl)) (by decide) (fun K hK => ?_)
   have hs69 : w67.cell? ⟨gb159, 0, none⟩ = some (.slice Ao63 y166.length co63) := (blk_cell BK159.out 0).trans rfl
   have hfs69 := fz_ BK159 0
   have hns69_0 := NB148_159.out
   have hns69_1 := NB149_159.out
   have hns69_2 := NB150_159.out
   have hns69_3 := NB158_159.out
   have hms69_0 := NB159_148.out
   have hms69_1 := NB159_149.out
   have hms69_2 := NB159_150.out
   have hms69_3 := NB159_158.out
   refine skip_ (w1 := ?_) (by rfl) rfl ?_ ?_
   rotate_left; · go_simp; rfl
   refine hK.out _ _ ?_
   clear hK K
   refine done_ (done_of HT_.out (by kernel_rfl)) ?_
   try go_wp2
   go_roundg k1
   case measure => have := HK1.out; omega
   case rel => exact ⟨(true), (wrap64 (x9_1 + 1)), (y170), (.slice Ao68 y170.length co68), er_, er_, H', ⟨by have := HK1.out; omega⟩, ⟨by (with_reducible repeat (first | apply Kd.R_alloc | apply Kd.R_drewN | apply Kd.R_drew)); exact Kd.R_mono (Kd.R_far (p := ⟨gb159, 0, none⟩) (Kd.R_types HO_159000.out BK159.out (by decide)) (fun _ hk => hk.2) (.slice Ao68 y170.length co68)) (fun _ hk => by first | exact ⟨hk.1.2, hk.1.1⟩ | grind)⟩, ⟨by (with_reducible repeat (first | apply Kd.R_alloc | apply Kd.R_drewN | apply Kd.R_drew)); exact Kd.R_mono (Kd.R_far (p := ⟨gb159, 0, none⟩) (Kd.R_types HO172.out BK159.out (by decide)) (fun _ hk => hk.2) (.slice Ao68 y170.length co68)) (fun _ hk => by first | exact ⟨hk.1.1, hk.1.2⟩ | grind)⟩, ⟨bc_ BK148⟩, ⟨bc_ BK149⟩, ⟨bc_ BK150⟩, ⟨bc_ BK158⟩, ⟨by refine bd_ ?_; refine blk_put (cs := #[.slice Ao63 y166.length co63]) ?_ 0 _ rfl; refine bd_ ?_; exact BK159.out⟩, ⟨bw112_⟩⟩

end Go.Proofs.Ytjepmdngbafonaa.QFnRoutes
