/- Contracts of functions that the law reaches: what each call returns and what it leaves in memory. Made by this session over the print of the kit. -/
import Derived.Test.YtjepmdngbafonaaQFnSqueezedx0
import Derived.Test.YtjepmdngbafonaaQFnSqueezedx6
import Derived.Test.YtjepmdngbafonaaQFnSqueezedx7
import Derived.Test.YtjepmdngbafonaaQFnSqueezedx8
namespace Go.Proofs.Ytjepmdngbafonaa.QFnSqueezed
open Go.RowKit Go.Proofs.YtjepmdngbafonaaZ.PrintWords Go.Proofs.YtjepmdngbafonaaZ.PrintLast Go.Proofs.YtjepmdngbafonaaZ.PrintMore
attribute [local go_sem] max2_int min2_int max_two min_two max_three min_three max_four min_four   -- for this text's walks alone
set_option linter.unusedVariables false
set_option linter.unusedSimpArgs false
def ba9_0 := bs_ 13 0
def ba9_1 := bs_ 13 1
def ba9_2 := bs_ 13 3
def ba9_3 := bs_ 13 7
def ba9_4 := bs_ 13 15
def ba9_5 := bs_ 13 31
def ba9_6 := bs_ 13 63
def ba9_7 := bs_ 13 127
def ba9_8 := bs_ 13 255
def ba9_9 := bs_ 13 511
def ba9_10 := bs_ 13 1023
def ba9_11 := bs_ 13 2047
def ba9_12 := bs_ 13 4095
def ba9_13 := bs_ 13 8191
def ba9_14 := bs_ 11 0
def ba9_15 := bs_ 11 1
def ba9_16 := bs_ 11 5
def ba9_17 := bs_ 11 21
def ba9_18 := bs_ 11 23
def ba9_19 := bs_ 11 31
def ba9_20 := bs_ 11 63
def ba9_21 := bs_ 11 127
def ba9_22 := bs_ 11 255
def ba9_23 := bs_ 11 511
def ba9_24 := bs_ 11 1023
def ba9_25 := bs_ 11 2047
def ba9_26 := bs_ 13 47
def ba9_27 := bs_ 13 175
def ba9_28 := bs_ 13 191

/-! ### spec_PutRoute: function 10 -/
mutual
def spec_PutRoute.l0 : Nat → Bool → Int → List (S30) → Int → Int → Int → List (S30) → List (S30) → Option ((List (S30)) × Bool)
 | 0, _, _, _, _, _, _, _, _ => none
 | k + 1, x8, x9, x195000, x196000, x196001, x196002, x205000, x206000 => if x9 < (x205000.length : Int) then (if x8 = true then (if 0 ≤ x9 then (if x206000.length < 5864062014805 then (spec_PutRoute.l0 k x8 (wrap64 (x9 + 1)) x195000 x196000 x196001 x196002 x205000 (x206000 ++ [(⟨(⟨(rd_T30 x205000 x9).f0.f0, (rd_T30 x205000 x9).f0.f1⟩ : S28), (rd_T30 x205000 x9).f1⟩ : S30)])) else (none)) else (none)) else (if 0 ≤ x9 then ((spec_l02Ahead.f x196000 x196001 ((rd_T30 x205000 x9).f0.f0) ((rd_T30 x205000 x9).f0.f1)).bind fun t211 => (if t211 = true then (if x206000.length < 5864062014805 then ((some (x206000 ++ [(⟨(⟨x196000, x196001⟩ : S28), x196002⟩ : S30)] : List (S30))).bind fun y212 => (if y212.length < 5864062014805 then (spec_PutRoute.l0 k true (wrap64 (x9 + 1)) x195000 x196000 x196001 x196002 x205000 (y212 ++ [(⟨(⟨(rd_T30 x205000 x9).f0.f0, (rd_T30 x205000 x9).f0.f1⟩ : S28), (rd_T30 x205000 x9).f1⟩ : S30)])) else (none))) else (none)) else (if x206000.length < 5864062014805 then (spec_PutRoute.l0 k x8 (wrap64 (x9 + 1)) x195000 x196000 x196001 x196002 x205000 (x206000 ++ [(⟨(⟨(rd_T30 x205000 x9).f0.f0, (rd_T30 x205000 x9).f0.f1⟩ : S28), (rd_T30 x205000 x9).f1⟩ : S30)])) else (none)))) else (none))) else (if x8 = true then (spec_PutRoute.j1 k x195000 x206000) else (if x206000.length < 5864062014805 then (spec_PutRoute.j1 k x195000 (x206000 ++ [(⟨(⟨x196000, x196001⟩ : S28), x196002⟩ : S30)])) else (none)))
def spec_PutRoute.j1 : Nat → List (S30) → List (S30) → Option ((List (S30)) × Bool)
 | 0, _, _ => none
 | k + 1, x195000, x206000 => (spec_TableOk.f k x206000).bind fun t226 => (if t226 = true then (some (x206000, true)) else ((spec_l02Copy.f k x195000).bind fun t227 => (some (t227, false))))
end
def spec_PutRoute.f (k : Nat) (l0_0 : List (S30)) (a1_0 : Int) (a1_1 : Int) (a1_2 : Int) : Option ((List (S30)) × Bool) := (spec_TableOk.f k l0_0).bind fun t197 => (if t197 = true then ((spec_l02Less.f k l0_0 a1_0 a1_1).bind fun t201 => (spec_PutRoute.l0 k false 0 l0_0 a1_0 a1_1 a1_2 t201 ([] : List (S30)))) else ((spec_l02Copy.f k l0_0).bind fun t198 => (some (t198, false))))
def spec_PutRoute.T9 : Bool × List (List Nat × List Nat) := (true, [([], []), ([0], [0]), ([1], [1]), ([2], [2]), ([3, 2], [2, 3]), ([2], [2]), ([5, 2], [2, 5]), ([2], [2]), ([6, 7, 2], [2, 6, 7]), ([8, 2], [2, 8]), ([9, 2], [2, 9]), ([4, 10, 2, 2], [2, 4, 10]), ([2, 11], [2, 11])])
def spec_PutRoute.B9 : List Nat := [0, 1, 3, 7, 15, 7, 39, 7, 231, 487, 999, 2047, 4095]
theorem spec_PutRoute.tab9 : rtab .any (opsOf Try.f10 9) = spec_PutRoute.T9 := by kernel_rfl
theorem spec_PutRoute.bits9 : waitsOk spec_PutRoute.T9.2 spec_PutRoute.B9 = true := by kernel_rfl
def spec_PutRoute.T12 : Bool × List (List Nat × List Nat) := (true, [([], []), ([0], [0]), ([], []), ([2], [2]), ([], []), ([3, 4], [3, 4]), ([5], [5]), ([6], [6]), ([1, 7], [1, 7]), ([0, 1, 2, 3, 4, 5, 6, 7, 8], []), ([9, 8, 8, 0, 1, 2, 3, 4, 5, 6, 7, 8], [8, 9])])
def spec_PutRoute.B12 : List Nat := [0, 1, 0, 4, 0, 28, 60, 124, 255, 511, 1023]
theorem spec_PutRoute.tab12 : rtab .any (opsOf Try.f10 12) = spec_PutRoute.T12 := by kernel_rfl
theorem spec_PutRoute.bits12 : waitsOk spec_PutRoute.T12.2 spec_PutRoute.B12 = true := by kernel_rfl
set_option maxHeartbeats 8000000 in
set_option maxRecDepth 100000 in
theorem spec_PutRoute.calls (k : Nat) (A0_0 : Option Addr) (c0_0 : Nat) (l0_0 : List (S30)) (a1_0 : Int) (a1_1 : Int) (a1_2 : Int) (r1 : List (S30)) (r2 : Bool) (w : World) (hr0_0 : Kd.C k30 w A0_0 l0_0.length l0_0) (hc0_0 : l0_0.length ≤ c0_0) (h : spec_PutRoute.f k l0_0 a1_0 a1_1 a1_2 = some (r1, r2)) :
  Calls Try.prog 10 #[.agg #[.slice A0_0 l0_0.length c0_0], .agg #[.int .i64 a1_0, .int .i64 a1_1, .int .i64 a1_2]] w fun e w' => ∃ v0_ : Value, e = .returned (.tuple #[.agg #[v0_], .bool r2]) ∧ Kd.R k30 30 w' w.heap.size (fun _ => True) v0_ r1 ∧ Below w.heap.size w w' := by
 have hu26 := Try.underlying26
 have hu30 := Try.underlying30
 have hu28 := Try.underlying28
 have HR0_0 := Aside0.mk hr0_0
 have HC0_0 := Aside0.mk hc0_0
 clear hr0_0 hc0_0
 have HB := Aside0.mk (Below.refl w.heap.size w)
 have H : ((spec_TableOk.f k l0_0).bind fun t197 => (if t197 = true then ((spec_l02Less.f k l0_0 a1_0 a1_1).bind fun t201 => (spec_PutRoute.l0 k false 0 l0_0 a1_0 a1_1 a1_2 t201 ([] : List (S30)))) else ((spec_l02Copy.f k l0_0).bind fun t198 => (some (t198, false))))) = some (r1, r2) := h
 clear h
 obtain ⟨t197, A3, H⟩ := ob_ H
 by_cases c4 : t197 = true
 rotate_left
 ·replace c4 := Bool.eq_false_iff.mpr c4
  subst c4
  rw [if_neg (show ¬ (false = true) by decide)] at H
  obtain ⟨t198, A133, H⟩ := ob_ H
  simp only [Option.some.injEq, Prod.mk.injEq] at H
  obtain ⟨rfl, rfl⟩ := H
  go_enter Try.func10, Try.ntmps10
  go_wp2_with (first | ((with_reducible refine gate_dst (N := 2) rfl ?_); refine be_ 2 #[.slice A0_0 l0_0.length c0_0] 26 ?_; intro gb194 hg w134 BK194 hb; have GW194 := ge_ HB hg; have GE194 := ge_ HB hg; replace HB := at_ HB hb; clear hb hg) | ((with_reducible refine gate_dst (N := 3) rfl ?_); refine be_ 3 #[.int .i64 a1_0, .int .i64 a1_1, .int .i64 a1_2] 30 ?_; intro gb195 hg w135 BK195 hb; have GW195 := ge_ HB hg; have GE195 := ge_ HB hg; have NB194_195 := nl_ BK194 hg; have NB195_194 := ng_ BK194 hg; replace HB := at_ HB hb; replace BK194 := ab_ BK194 hb; clear hb hg) | ((with_reducible refine gate_dst (N := 4) rfl ?_); refine be_ 4 #[.slice none 0 0] 26 ?_; intro gb196 hg w136 BK196 hb; have GW196 := ge_ HB hg; have GE196 := ge_ HB hg; have NB194_196 := nl_ BK194 hg; have NB196_194 := ng_ BK194 hg; have NB195_196 := nl_ BK195 hg; have NB196_195 := ng_ BK195 hg; replace HB := at_ HB hb; replace BK194 := ab_ BK194 hb; replace BK195 := ab_ BK195 hb; clear hb hg; have hnb137 := NB194_195.out; have hnc137 := NB195_194.out; have hnb138 := NB194_196.out; have hnc138 := NB196_194.out; have hcz139_0 := cz_ BK194 0 (.slice A0_0 l0_0.length c0_0); have hfz139_0 := fz_ BK194 0) | ((with_reducible refine gate_callee (f := 19) rfl ?_); refine gl_ (some 11) Try.func19 #[.agg #[.slice A0_0 l0_0.length c0_0]] ?_; (with_reducible refine (spec_TableOk.calls k _ _ l0_0 false _ ?side1 ?side2 A3.out).mono ?_); (case side1 => exact cb_ HR0_0 HB); (case side2 => exact HC0_0.out); rintro e w140 ⟨rfl, hb⟩; refine ⟨_, rfl, ?_⟩; replace BK194 := ab_ BK194 hb; replace BK195 := ab_ BK195 hb; replace BK196 := ab_ BK196 hb; replace HB := at_ HB hb; clear hb; have hcz141_0 := cz_ BK194 0 (.slice A0_0 l0_0.length c0_0); have hfz141_0 := fz_ BK194 0) | ((with_reducible refine gate_callee (f := 45) rfl ?_); refine gl_ (some 14) Try.func45 #[.agg #[.slice A0_0 l0_0.length c0_0]] ?_; (with_reducible refine (spec_l02Copy.calls k _ _ l0_0 t198 _ ?side1 ?side2 A133.out).mono ?_); (case side1 => exact cb_ HR0_0 HB); (case side2 => exact HC0_0.out); rintro e w142 ⟨v199, rfl, ho0, hb⟩; refine ⟨_, rfl, ?_⟩; have HO200 := Aside0.mk (Kd.R_lower (Kd.R_newB ho0 (g := gb195) (o := .cells #[.int .i64 a1_0, .int .i64 a1_1, .int .i64 a1_2] 30 (0, 0)) (bx_ BK195)) (bz_ HB)); replace BK194 := ab_ BK194 hb; replace BK195 := ab_ BK195 hb; replace BK196 := ab_ BK196 hb; replace HB := at_ HB hb; clear hb ho0; obtain ⟨Ao143, co143, eo143⟩ := Kd.R_slice HO200.out; subst eo143; have hnb144 := NB196_195.out; have hnc144 := NB195_196.out; have hcz145_0 := cz_ BK196 0 (.slice none 0 0); have hfz145_0 := fz_ BK196 0))
  refine bodyPost_ret (results_ct rfl _ _ gb196 26 #[.slice Ao143 t198.length co143] (0, 0) _ rfl (by refine bd_ ?_; refine blk_put (cs := #[.slice none 0 0]) ?_ 0 _ rfl; refine bd_ ?_; exact BK196.out) Try.underlying26 rfl (by kernel_rfl)) rfl ?_
  exact ⟨_, by first | rfl | (simp [errW_none, errW_some] <;> rfl) | (simp [*, errW_none, errW_some] <;> rfl), by (with_reducible repeat (first | apply Kd.R_alloc | apply Kd.R_drewN | apply Kd.R_drew)); exact Kd.R_mono (Kd.R_far (Kd.R_types HO200.out BK196.out (by decide)) (fun _ hk => hk.2) _) (fun _ hk => trivial), bw112_⟩
 subst c4
 rw [if_pos rfl] at H
 obtain ⟨t201, A5, H⟩ := ob_ H
 have H' := Aside0.mk H
 clear H
 go_enter Try.func10, Try.ntmps10
 go_wp2_with (first | ((with_reducible refine gate_dst (N := 2) rfl ?_); refine be_ 2 #[.slice A0_0 l0_0.length c0_0] 26 ?_; intro gb194 hg w6 BK194 hb; have GW194 := ge_ HB hg; have GE194 := ge_ HB hg; replace HB := at_ HB hb; clear hb hg) | ((with_reducible refine gate_dst (N := 3) rfl ?_); refine be_ 3 #[.int .i64 a1_0, .int .i64 a1_1, .int .i64 a1_2] 30 ?_; intro gb195 hg w7 BK195 hb; have GW195 := ge_ HB hg; have GE195 := ge_ HB hg; have NB194_195 := nl_ BK194 hg; have NB195_194 := ng_ BK194 hg; replace HB := at_ HB hb; replace BK194 := ab_ BK194 hb; clear hb hg) | ((with_reducible refine gate_dst (N := 4) rfl ?_); refine be_ 4 #[.slice none 0 0] 26 ?_; intro gb196 hg w8 BK196 hb; have GW196 := ge_ HB hg; have GE196 := ge_ HB hg; have NB194_196 := nl_ BK194 hg; have NB196_194 := ng_ BK194 hg; have NB195_196 := nl_ BK195 hg; have NB196_195 := ng_ BK195 hg; replace HB := at_ HB hb; replace BK194 := ab_ BK194 hb; replace BK195 := ab_ BK195 hb; clear hb hg; have hnb9 := NB194_195.out; have hnc9 := NB195_194.out; have hnb10 := NB194_196.out; have hnc10 := NB196_194.out; have hcz11_0 := cz_ BK194 0 (.slice A0_0 l0_0.length c0_0); have hfz11_0 := fz_ BK194 0) | ((with_reducible refine gate_callee (f := 19) rfl ?_); refine gl_ (some 11) Try.func19 #[.agg #[.slice A0_0 l0_0.length c0_0]] ?_; (with_reducible refine (spec_TableOk.calls k _ _ l0_0 true _ ?side1 ?side2 A3.out).mono ?_); (case side1 => exact cb_ HR0_0 HB); (case side2 => exact HC0_0.out); rintro e w12 ⟨rfl, hb⟩; refine ⟨_, rfl, ?_⟩; replace BK194 := ab_ BK194 hb; replace BK195 := ab_ BK195 hb; replace BK196 := ab_ BK196 hb; replace HB := at_ HB hb; clear hb; have hcz13_0 := cz_ BK194 0 (.slice A0_0 l0_0.length c0_0); have hfz13_0 := fz_ BK194 0; have hnb14 := NB195_196.out; have hnc14 := NB196_195.out; have hcz15_0 := cz_ BK195 0 (.int .i64 a1_0); have hcz15_1 := cz_ BK195 1 (.int .i64 a1_1); have hcz15_2 := cz_ BK195 2 (.int .i64 a1_2); have hfz15_0 := fz_ BK195 0; have hfz15_1 := fz_ BK195 1; have hfz15_2 := fz_ BK195 2) | ((with_reducible refine gate_callee (f := 46) rfl ?_); refine gl_ (some 18) Try.func46 #[.agg #[.slice A0_0 l0_0.length c0_0], .agg #[.int .i64 a1_0, .int .i64 a1_1]] ?_; (with_reducible refine (spec_l02Less.calls k _ _ l0_0 a1_0 a1_1 t201 _ ?side1 ?side2 A5.out).mono ?_); (case side1 => exact cb_ HR0_0 HB); (case side2 => exact HC0_0.out); rintro e w16 ⟨v202, rfl, ho0, hb⟩; refine ⟨_, rfl, ?_⟩; have HO203 := Aside0.mk (Kd.R_lower (Kd.R_newB ho0 (g := gb195) (o := .cells #[.int .i64 a1_0, .int .i64 a1_1, .int .i64 a1_2] 30 (0, 0)) (bx_ BK195)) (bz_ HB)); replace BK194 := ab_ BK194 hb; replace BK195 := ab_ BK195 hb; replace BK196 := ab_ BK196 hb; replace HB := at_ HB hb; clear hb ho0) | ((with_reducible refine gate_dst (N := 6) rfl ?_); refine be_ 6 #[.slice none 0 0] 26 ?_; intro gb204 hg w17 BK204 hb; have GW204 := ge_ HB hg; have GE204 := ge_ HB hg; have NB194_204 := nl_ BK194 hg; have NB204_194 := ng_ BK194 hg; have NB195_204 := nl_ BK195 hg; have NB204_195 := ng_ BK195 hg; have NB196_204 := nl_ BK196 hg; have NB204_196 := ng_ BK196 hg; replace HO203 := rb_ HO203 hb; replace HB := at_ HB hb; replace BK194 := ab_ BK194 hb; replace BK195 := ab_ BK195 hb; replace BK196 := ab_ BK196 hb; clear hb hg; obtain ⟨Ao18, co18, eo18⟩ := Kd.R_slice HO203.out; subst eo18; have hnb19 := NB204_194.out; have hnc19 := NB194_204.out; have hnb20 := NB204_195.out; have hnc20 := NB195_204.out; have hnb21 := NB204_196.out; have hnc21 := NB196_204.out; have hcz22_0 := cz_ BK204 0 (.slice none 0 0); have hfz22_0 := fz_ BK204 0) | ((with_reducible refine gate_dst (N := 7) rfl ?_); refine be_ 7 #[.slice none 0 0] 26 ?_; intro gb205 hg w23 BK205 hb; have GW205 := ge_ HB hg; have GE205 := ge_ HB hg; have NB194_205 := Aside0.mk ((by rw [hg]; exact Nat.ne_of_lt (bg_ BK194 NB194_204) : gb194 ≠ gb205)); have NB205_194 := Aside0.mk ((by rw [hg]; exact Nat.ne_of_gt (bg_ BK194 NB194_204) : gb205 ≠ gb194)); have NB195_205 := Aside0.mk ((by rw [hg]; exact Nat.ne_of_lt (bg_ BK195 NB195_204) : gb195 ≠ gb205)); have NB205_195 := Aside0.mk ((by rw [hg]; exact Nat.ne_of_gt (bg_ BK195 NB195_204) : gb205 ≠ gb195)); have NB196_205 := Aside0.mk ((by rw [hg]; exact Nat.ne_of_lt (bg_ BK196 NB196_204) : gb196 ≠ gb205)); have NB205_196 := Aside0.mk ((by rw [hg]; exact Nat.ne_of_gt (bg_ BK196 NB196_204) : gb205 ≠ gb196)); have NB204_205 := Aside0.mk ((by rw [hg]; exact Nat.ne_of_lt (blk_lt (g := gb204) (o := .cells #[.slice Ao18 t201.length co18] 26 (0, 0)) (by refine bd_ ?_; refine blk_put (cs := #[.slice none 0 0]) ?_ 0 _ rfl; refine bd_ ?_; exact BK204.out)) : gb204 ≠ gb205)); have NB205_204 := Aside0.mk ((by rw [hg]; exact Nat.ne_of_gt (blk_lt (g := gb204) (o := .cells #[.slice Ao18 t201.length co18] 26 (0, 0)) (by refine bd_ ?_; refine blk_put (cs := #[.slice none 0 0]) ?_ 0 _ rfl; refine bd_ ?_; exact BK204.out)) : gb205 ≠ gb204)); replace HO203 := rs_ HO203 BK204 hb; replace HB := at_ HB hb; replace BK194 := bf_ BK194 NB194_204 hb; replace BK195 := bf_ BK195 NB195_204 hb; replace BK196 := bf_ BK196 NB196_204 hb; replace BK204 := Aside0.mk (blk_below (g := gb204) (o := .cells #[.slice Ao18 t201.length co18] 26 (0, 0)) (by refine bd_ ?_; refine blk_put (cs := #[.slice none 0 0]) ?_ 0 _ rfl; refine bd_ ?_; exact BK204.out) hb); clear hb hg; have hnb24 := NB205_194.out; have hnc24 := NB194_205.out; have hnb25 := NB205_195.out; have hnc25 := NB195_205.out; have hnb26 := NB205_196.out; have hnc26 := NB196_205.out; have hnb27 := NB205_204.out; have hnc27 := NB204_205.out; have hcz28_0 := cz_ BK205 0 (.slice none 0 0); have hfz28_0 := fz_ BK205 0))
 (try simp only [Act.put, List.setIfInBounds_toArray, List.set_cons_zero, List.set_cons_succ])
 go_loopg [8, 9] k (fun kq v8 v9 w' => ∃ (x8_1 : Bool) (x9_1 : Int) (x206000_1 : List (S30)) (u206000 : Value), v8 = .bool x8_1 ∧ v9 = .int .i64 x9_1 ∧ Aside0 (spec_PutRoute.l0 kq x8_1 x9_1 l0_0 a1_0 a1_1 a1_2 t201 x206000_1 = some (r1, r2)) ∧ Aside0 (kq ≤ k) ∧ Aside0 (Kd.R k30 30 w' w.heap.size (fun k_ => some k_ ≠ (u206000 : Value).ownBlock ∧ k_ ≠ gb195) (.slice Ao18 t201.length co18) t201) ∧ Aside0 (Kd.R k30 30 w' w.heap.size (fun k_ => some k_ ≠ ((.slice Ao18 t201.length co18) : Value).ownBlock ∧ k_ ≠ gb195) u206000 x206000_1) ∧ Aside0 (w'.heap[gb194]? = some (.cells #[(.slice A0_0 l0_0.length c0_0)] 26 (0, 0))) ∧ Aside0 (w'.heap[gb195]? = some (.cells #[.int .i64 a1_0, .int .i64 a1_1, .int .i64 a1_2] 30 (0, 0))) ∧ Aside0 (w'.heap[gb196]? = some (.cells #[(.slice none 0 0)] 26 (0, 0))) ∧ Aside0 (w'.heap[gb204]? = some (.cells #[(.slice Ao18 t201.length co18)] 26 (0, 0))) ∧ Aside0 (w'.heap[gb205]? = some (.cells #[u206000] 26 (0, 0))) ∧ Aside0 (Below w.heap.size w w'))
 case atStart => exact ⟨(false), (0), (([] : List (S30))), (.slice none 0 0), er_, er_, H', ⟨Nat.le_refl _⟩, ⟨by (with_reducible repeat (first | apply Kd.R_alloc | apply Kd.R_drewN | apply Kd.R_drew)); exact Kd.R_mono (Kd.R_far (Kd.R_types HO203.out BK205.out (by decide)) (fun _ hk => hk.2) _) (fun _ hk => ⟨(by simp [Value.ownBlock]), hk.1.2⟩)⟩, ⟨by first | exact Kd.R_nil _ _ _ _ _ | exact Kd.N_nil _ _ _ _ _ | exact Kd.V_nil _ _ _ _ _ | exact Kd.Q_nil _ _ _ _ _ | exact Kd.S_nil _ _ _ _ _⟩, ⟨bc_ BK194⟩, ⟨bc_ BK195⟩, ⟨bc_ BK196⟩, ⟨bc_ BK204⟩, ⟨by refine bd_ ?_; refine blk_put (cs := #[.slice none 0 0]) ?_ 0 _ rfl; refine bd_ ?_; exact BK205.out⟩, ⟨bw112_⟩⟩
 case round =>
  clear H' hcz11_0 hcz13_0 hcz15_0 hcz15_1 hcz15_2 hcz22_0 hcz28_0 hfz11_0 hfz13_0 hfz15_0 hfz15_1 hfz15_2 hfz22_0 hfz28_0
  obtain ⟨x8_1, x9_1, x206000_1, u206000, rfl, rfl, HA, HK1, HO_205000, HO_206000, BK194, BK195, BK196, BK204, BK205, HB⟩ := hrel
  cases gk with
  | zero => exact absurd HA.out (by simp [spec_PutRoute.l0])
  | succ k1 =>
   have H := HA.out
   clear HA
   simp only [spec_PutRoute.l0] at H
   by_cases c29 : x9_1 < (t201.length : Int)
   rotate_left
   ·rw [if_neg c29] at H
    have c29b0 : decide (x9_1 < (t201.length : Int)) = false := decide_eq_false c29
    clear c29
    have HC82 := Aside0.mk H
    clear H
    have hnb83 := NB204_194.out
    have hnc83 := NB194_204.out
    have hnb84 := NB204_195.out
    have hnc84 := NB195_204.out
    have hnb85 := NB204_196.out
    have hnc85 := NB196_204.out
    have hnb86 := NB204_205.out
    have hnc86 := NB205_204.out
    have hcz87_0 := cz_ BK204 0 (.slice Ao18 t201.length co18)
    have hfz87_0 := fz_ BK204 0
    go_upto_if 57 with (fail)
    go_cut [] (fun wc => ∃ (kq : Nat) (x206000_81 : List (S30)) (u206000 : Value), Aside0 (spec_PutRoute.j1 kq l0_0 x206000_81 = some (r1, r2)) ∧ Aside0 (kq ≤ k1) ∧ Aside0 (Kd.R k30 30 wc w.heap.size (fun k_ => some k_ ≠ (u206000 : Value).ownBlock ∧ k_ ≠ gb195) (.slice Ao18 t201.length co18) t201) ∧ Aside0 (Kd.R k30 30 wc w.heap.size (fun k_ => some k_ ≠ ((.slice Ao18 t201.length co18) : Value).ownBlock ∧ k_ ≠ gb195) u206000 x206000_81) ∧ Aside0 (wc.heap[gb194]? = some (.cells #[(.slice A0_0 l0_0.length c0_0)] 26 (0, 0))) ∧ Aside0 (wc.heap[gb195]? = some (.cells #[.int .i64 a1_0, .int .i64 a1_1, .int .i64 a1_2] 30 (0, 0))) ∧ Aside0 (wc.heap[gb196]? = some (.cells #[(.slice none 0 0)] 26 (0, 0))) ∧ Aside0 (wc.heap[gb204]? = some (.cells #[(.slice Ao18 t201.length co18)] 26 (0, 0))) ∧ Aside0 (wc.heap[gb205]? = some (.cells #[u206000] 26 (0, 0))) ∧ Aside0 (Below w.heap.size w wc))
    case first =>
     have H := HC82.out
     clear HC82
     by_cases c88 : x8_1 = true
     ·subst c88
      rw [if_pos rfl] at H
      have H' := Aside0.mk H
      clear H
      go_wp2
      go_meet
      case rel => exact ⟨_, (x206000_1), (u206000), H', ⟨by have := HK1.out; first | omega | exact Nat.le_refl _⟩, ⟨hd_ HO_205000⟩, ⟨hd_ HO_206000⟩, ⟨bx_ BK194⟩, ⟨bx_ BK195⟩, ⟨bx_ BK196⟩, ⟨bx_ BK204⟩, ⟨bx_ BK205⟩, ⟨bw112_⟩⟩
     replace c88 := Bool.eq_false_iff.mpr c88
     subst c88
     rw [if_neg (show ¬ (false = true) by decide)] at H
     by_cases c89 : x206000_1.length < 5864062014805
     rotate_left
     ·rw [if_neg c89] at H
      exact absurd H (by simp)
     rw [if_pos c89] at H
     have LMc89 := Aside0.mk c89
     clear c89
     obtain ⟨y223, hy223⟩ : ∃ y_ : List (S30), y_ = (x206000_1 ++ [(⟨(⟨a1_0, a1_1⟩ : S28), a1_2⟩ : S30)]) := ⟨_, rfl⟩
     replace H : (spec_PutRoute.j1 k1 l0_0 y223) = some (r1, r2) := by first | (rw [hy223]; with_reducible exact H) | (have H2_ := (Option.bind_some _ _).symm.trans H; rw [hy223]; with_reducible exact H2_) | (have H2_ := (Option.bind_some _ _).symm.trans H; with_reducible exact H2_) | with_reducible exact H | (rw [hy223]; exact H) | exact H
     have Ny223 := Aside0.mk hy223
     clear hy223
     have H' := Aside0.mk H
     clear H
     have hnb90 := NB205_194.out
     have hnc90 := NB194_205.out
     have hnb91 := NB205_195.out
     have hnc91 := NB195_205.out
     have hnb92 := NB205_196.out
     have hnc92 := NB196_205.out
     have hnb93 := NB205_204.out
     have hnc93 := NB204_205.out
     have hcz94_0 := cz_ BK205 0 (u206000)
     have hfz94_0 := fz_ BK205 0
     have hnb95 := NB195_194.out
     have hnc95 := NB194_195.out
     have hnb96 := NB195_196.out
     have hnc96 := NB196_195.out
     have hnb97 := NB195_204.out
     have hnc97 := NB204_195.out
     have hcz98_0 := cz_ BK195 0 (.int .i64 a1_0)
     have hcz98_1 := cz_ BK195 1 (.int .i64 a1_1)
     have hcz98_2 := cz_ BK195 2 (.int .i64 a1_2)
     have hfz98_0 := fz_ BK195 0
     have hfz98_1 := fz_ BK195 1
     have hfz98_2 := fz_ BK195 2
     go_wp2_with ((with_reducible refine gate_builtin (b := .append) (xs := #[.tmp 59, .tmp 61]) rfl ?_); at_builtin; refine Kd.R_append k30 (w0 := w) w.heap.size rfl (.tmp 59) (.tmp 61) 24 30 (.agg #[(.int .i64 0), (.int .i64 0), (.int .i64 0)]) 24 rfl Try.underlying24 info30 rfl (by decide) (by omega) u206000 x206000_1 (⟨(⟨a1_0, a1_1⟩ : S28), a1_2⟩ : S30) [.int .i64 a1_0, .int .i64 a1_1, .int .i64 a1_2] (fun k_ => some k_ ≠ (.slice Ao18 t201.length co18 : Value).ownBlock ∧ k_ ≠ gb195) (fun _ => False) rfl rfl ?aP (fun _ hk => hk.elim) ?aF ?aO ?aB ?aS ?aL ?_; (case aP => exact k30_mkM _ _ _ (⟨(⟨a1_0, a1_1⟩ : S28), a1_2⟩ : S30)); (case aB => exact (bw112_)); (case aF => exact (fun k_ hk => ⟨Kd.fresh' (Kd.R_lt (hd_ HO_205000)) k_ hk, Kd.freshB (g := gb195) (o := .cells #[.int .i64 a1_0, .int .i64 a1_1, .int .i64 a1_2] 30 (0, 0)) (bx_ BK195) k_ hk⟩)); (case aO => exact (hd_ HO_206000)); (case aS => exact (bz_ HB)); (case aL => have := LMc89.out; omega); intro v224 w99 ho hb hg hat; rw [← Ny223.out] at ho; have HO225 := Aside0.mk ho; replace HO_205000 := Aside0.mk (Kd.R_after (ok := (fun k_ => k_ ≠ gb195)) (by (with_reducible repeat (first | apply Kd.R_alloc | apply Kd.R_drewN | apply Kd.R_drew)); exact Kd.R_mono HO_205000.out (fun _ hk => by first | exact ⟨hk.2, hk.1⟩ | grind)) hg hat); replace BK194 := Aside0.mk (blk_grown (g := gb194) (o := .cells #[.slice A0_0 l0_0.length c0_0] 26 (0, 0)) (bx_ BK194) hg (Kd.R_ne HO_206000.out BK194.out (by decide))); replace BK195 := Aside0.mk (blk_grown (g := gb195) (o := .cells #[.int .i64 a1_0, .int .i64 a1_1, .int .i64 a1_2] 30 (0, 0)) (bx_ BK195) hg (Kd.R_away HO_206000.out (fun _ hk => hk.2))); replace BK196 := Aside0.mk (blk_grown (g := gb196) (o := .cells #[.slice none 0 0] 26 (0, 0)) (bx_ BK196) hg (Kd.R_ne HO_206000.out BK196.out (by decide))); replace BK204 := Aside0.mk (blk_grown (g := gb204) (o := .cells #[.slice Ao18 t201.length co18] 26 (0, 0)) (bx_ BK204) hg (Kd.R_ne HO_206000.out BK204.out (by decide))); replace BK205 := Aside0.mk (blk_grown (g := gb205) (o := .cells #[u206000] 26 (0, 0)) (bx_ BK205) hg (Kd.R_ne HO_206000.out BK205.out (by decide))); replace HB := Aside0.mk (hb); clear HO_206000 ho hb hg hat; obtain ⟨Ao100, co100, eo100⟩ := Kd.R_slice HO225.out; subst eo100; have hcz101_0 := cz_ BK205 0 (u206000); have hfz101_0 := fz_ BK205 0)
     go_meet
     case rel => exact ⟨_, (y223), (.slice Ao100 y223.length co100), H', ⟨by have := HK1.out; first | omega | exact Nat.le_refl _⟩, ⟨by (with_reducible repeat (first | apply Kd.R_alloc | apply Kd.R_drewN | apply Kd.R_drew)); exact Kd.R_mono (Kd.R_far (Kd.R_types HO_205000.out BK205.out (by decide)) (fun _ hk => hk.2) _) (fun _ hk => by first | exact ⟨hk.1.2, hk.1.1⟩ | grind)⟩, ⟨by (with_reducible repeat (first | apply Kd.R_alloc | apply Kd.R_drewN | apply Kd.R_drew)); exact Kd.R_mono (Kd.R_far (Kd.R_types HO225.out BK205.out (by decide)) (fun _ hk => hk.2) _) (fun _ hk => by first | exact ⟨hk.1.1, hk.1.2⟩ | grind)⟩, ⟨bc_ BK194⟩, ⟨bc_ BK195⟩, ⟨bc_ BK196⟩, ⟨bc_ BK204⟩, ⟨by refine bd_ ?_; refine blk_put (cs := #[u206000]) ?_ 0 _ rfl; refine bd_ ?_; exact BK205.out⟩, ⟨bw112_⟩⟩
    case rest =>
     clear HC82 c29b0 hcz87_0 hfz87_0
     obtain ⟨kq, x206000_81, u206000, HA, HJ81, HO_205000, HO_206000, BK194, BK195, BK196, BK204, BK205, HB⟩ := hcut
     cases kq with
     | zero => exact absurd HA.out (by simp [spec_PutRoute.j1])
     | succ kj81 =>
      have H := HA.out
      clear HA
      simp only [spec_PutRoute.j1] at H
      obtain ⟨t226, A102, H⟩ := ob_ H
      by_cases c103 : t226 = true
      ·subst c103
       rw [if_pos rfl] at H
       simp only [Option.some.injEq, Prod.mk.injEq] at H
       obtain ⟨rfl, rfl⟩ := H
       have hnb104 := NB205_194.out
       have hnc104 := NB194_205.out
       have hnb105 := NB205_195.out
       have hnc105 := NB195_205.out
       have hnb106 := NB205_196.out
       have hnc106 := NB196_205.out
       have hnb107 := NB205_204.out
       have hnc107 := NB204_205.out
       have hcz108_0 := cz_ BK205 0 (u206000)
       have hfz108_0 := fz_ BK205 0
       obtain ⟨Ao109, co109, eo109⟩ := Kd.R_slice HO_206000.out
       subst eo109
       go_wp2_with ((with_reducible refine gate_callee (f := 19) rfl ?_); refine gl_ (some 65) Try.func19 #[.agg #[.slice Ao109 x206000_81.length co109]] ?_; (with_reducible refine (spec_TableOk.calls kj81 _ _ x206000_81 true _ ?side1 ?side2 A102.out).mono ?_); (case side1 => exact rc_ HO_206000); (case side2 => exact (Kd.R_reads' HO_206000.out).2.1); rintro e w110 ⟨rfl, hb⟩; refine ⟨_, rfl, ?_⟩; replace HO_205000 := rb_ HO_205000 hb; replace HO_206000 := rb_ HO_206000 hb; replace BK194 := ab_ BK194 hb; replace BK195 := ab_ BK195 hb; replace BK196 := ab_ BK196 hb; replace BK204 := ab_ BK204 hb; replace BK205 := ab_ BK205 hb; replace HB := at_ HB hb; clear hb; have hcz111_0 := cz_ BK205 0 (.slice Ao109 x206000_81.length co109); have hfz111_0 := fz_ BK205 0; have hnb112 := NB196_194.out; have hnc112 := NB194_196.out; have hnb113 := NB196_195.out; have hnc113 := NB195_196.out; have hnb114 := NB196_204.out; have hnc114 := NB204_196.out; have hcz115_0 := cz_ BK196 0 (.slice none 0 0); have hfz115_0 := fz_ BK196 0)
       refine bodyPost_ret (results_ct rfl _ _ gb196 26 #[.slice Ao109 x206000_81.length co109] (0, 0) _ rfl (by refine bd_ ?_; refine blk_put (cs := #[.slice none 0 0]) ?_ 0 _ rfl; refine bd_ ?_; exact BK196.out) Try.underlying26 rfl (by kernel_rfl)) rfl ?_
       exact ⟨_, by first | rfl | (simp [errW_none, errW_some] <;> rfl) | (simp [*, errW_none, errW_some] <;> rfl), by (with_reducible repeat (first | apply Kd.R_alloc | apply Kd.R_drewN | apply Kd.R_drew)); exact Kd.R_mono (Kd.R_far (Kd.R_types HO_206000.out BK196.out (by decide)) (fun _ hk => hk.2) _) (fun _ hk => trivial), bw112_⟩
      replace c103 := Bool.eq_false_iff.mpr c103
      subst c103
      rw [if_neg (show ¬ (false = true) by decide)] at H
      obtain ⟨t227, A116, H⟩ := ob_ H
      simp only [Option.some.injEq, Prod.mk.injEq] at H
      obtain ⟨rfl, rfl⟩ := H
      have hnb117 := NB205_194.out
      have hnc117 := NB194_205.out
      have hnb118 := NB205_195.out
      have hnc118 := NB195_205.out
      have hnb119 := NB205_196.out
      have hnc119 := NB196_205.out
      have hnb120 := NB205_204.out
      have hnc120 := NB204_205.out
      have hcz121_0 := cz_ BK205 0 (u206000)
      have hfz121_0 := fz_ BK205 0
      obtain ⟨Ao122, co122, eo122⟩ := Kd.R_slice HO_206000.out
      subst eo122
      go_wp2_with (first | ((with_reducible refine gate_callee (f := 19) rfl ?_); refine gl_ (some 65) Try.func19 #[.agg #[.slice Ao122 x206000_81.length co122]] ?_; (with_reducible refine (spec_TableOk.calls kj81 _ _ x206000_81 false _ ?side1 ?side2 A102.out).mono ?_); (case side1 => exact rc_ HO_206000); (case side2 => exact (Kd.R_reads' HO_206000.out).2.1); rintro e w123 ⟨rfl, hb⟩; refine ⟨_, rfl, ?_⟩; replace HO_205000 := rb_ HO_205000 hb; replace HO_206000 := rb_ HO_206000 hb; replace BK194 := ab_ BK194 hb; replace BK195 := ab_ BK195 hb; replace BK196 := ab_ BK196 hb; replace BK204 := ab_ BK204 hb; replace BK205 := ab_ BK205 hb; replace HB := at_ HB hb; clear hb; have hnb124 := NB194_195.out; have hnc124 := NB195_194.out; have hnb125 := NB194_196.out; have hnc125 := NB196_194.out; have hnb126 := NB194_204.out; have hnc126 := NB204_194.out; have hcz127_0 := cz_ BK194 0 (.slice A0_0 l0_0.length c0_0); have hfz127_0 := fz_ BK194 0) | ((with_reducible refine gate_callee (f := 45) rfl ?_); refine gl_ (some 68) Try.func45 #[.agg #[.slice A0_0 l0_0.length c0_0]] ?_; (with_reducible refine (spec_l02Copy.calls kj81 _ _ l0_0 t227 _ ?side1 ?side2 A116.out).mono ?_); (case side1 => exact cb_ HR0_0 HB); (case side2 => exact HC0_0.out); rintro e w128 ⟨v228, rfl, ho0, hb⟩; refine ⟨_, rfl, ?_⟩; have HO229 := Aside0.mk (Kd.R_lower (Kd.R_newB (Kd.R_new' (Kd.R_new' ho0 (Kd.R_lt (hd_ HO_205000))) (Kd.R_lt (hd_ HO_206000))) (g := gb195) (o := .cells #[.int .i64 a1_0, .int .i64 a1_1, .int .i64 a1_2] 30 (0, 0)) (bx_ BK195)) (bz_ HB)); replace HO_205000 := Aside0.mk (Kd.R_elder' (hd_ HO_205000) (Kd.R_base ho0) hb); replace HO_206000 := Aside0.mk (Kd.R_elder' (hd_ HO_206000) (Kd.R_base ho0) hb); replace BK194 := ab_ BK194 hb; replace BK195 := ab_ BK195 hb; replace BK196 := ab_ BK196 hb; replace BK204 := ab_ BK204 hb; replace BK205 := ab_ BK205 hb; replace HB := at_ HB hb; clear hb ho0; obtain ⟨Ao129, co129, eo129⟩ := Kd.R_slice HO229.out; subst eo129; have hnb130 := NB196_195.out; have hnc130 := NB195_196.out; have hnb131 := NB196_204.out; have hnc131 := NB204_196.out; have hcz132_0 := cz_ BK196 0 (.slice none 0 0); have hfz132_0 := fz_ BK196 0))
      refine bodyPost_ret (results_ct rfl _ _ gb196 26 #[.slice Ao129 t227.length co129] (0, 0) _ rfl (by refine bd_ ?_; refine blk_put (cs := #[.slice none 0 0]) ?_ 0 _ rfl; refine bd_ ?_; exact BK196.out) Try.underlying26 rfl (by kernel_rfl)) rfl ?_
      exact ⟨_, by first | rfl | (simp [errW_none, errW_some] <;> rfl) | (simp [*, errW_none, errW_some] <;> rfl), by (with_reducible repeat (first | apply Kd.R_alloc | apply Kd.R_drewN | apply Kd.R_drew)); exact Kd.R_mono (Kd.R_far (Kd.R_types HO229.out BK196.out (by decide)) (fun _ hk => hk.2) _) (fun _ hk => trivial), bw112_⟩
   rw [if_pos c29] at H
   have c29b0 : decide (x9_1 < (t201.length : Int)) = true := decide_eq_true c29
   clear c29
   by_cases c30 : x8_1 = true
   ·subst c30
    rw [if_pos rfl] at H
    obtain ⟨c31b0, H⟩ := iq_ H
    by_cases c32 : x206000_1.length < 5864062014805
    rotate_left
    ·rw [if_neg c32] at H
     exact absurd H (by simp)
    rw [if_pos c32] at H
    have LMc32 := Aside0.mk c32
    clear c32
    obtain ⟨y207, hy207⟩ : ∃ y_ : List (S30), y_ = (x206000_1 ++ [(⟨(⟨(rd_T30 t201 x9_1).f0.f0, (rd_T30 t201 x9_1).f0.f1⟩ : S28), (rd_T30 t201 x9_1).f1⟩ : S30)]) := ⟨_, rfl⟩
    replace H : (spec_PutRoute.l0 k1 true (wrap64 (x9_1 + 1)) l0_0 a1_0 a1_1 a1_2 t201 y207) = some (r1, r2) := by first | (rw [hy207]; with_reducible exact H) | (have H2_ := (Option.bind_some _ _).symm.trans H; rw [hy207]; with_reducible exact H2_) | (have H2_ := (Option.bind_some _ _).symm.trans H; with_reducible exact H2_) | with_reducible exact H | (rw [hy207]; exact H) | exact H
    have Ny207 := Aside0.mk hy207
    clear hy207
    have H' := Aside0.mk H
    clear H
    have hnb33 := NB204_194.out
    have hnc33 := NB194_204.out
    have hnb34 := NB204_195.out
    have hnc34 := NB195_204.out
    have hnb35 := NB204_196.out
    have hnc35 := NB196_204.out
    have hnb36 := NB204_205.out
    have hnc36 := NB205_204.out
    have hcz37_0 := cz_ BK204 0 (.slice Ao18 t201.length co18)
    have hfz37_0 := fz_ BK204 0
    go_wp2
    replace HO_205000 := Aside0.mk (Kd.R_drew HO_205000.out)
    replace HO_206000 := Aside0.mk (Kd.R_drew HO_206000.out)
    replace BK194 := ad_ BK194
    replace BK195 := ad_ BK195
    replace BK196 := ad_ BK196
    replace BK204 := ad_ BK204
    replace BK205 := ad_ BK205
    replace HB := Aside0.mk (below_drew1 HB.out)
    refine start_ (n := 13) (S := fun w' => True) (ds := []) ba9_0 (by kernel_rfl) rfl rfl trivial (fun hHeld => ?_); refine with_tabW spec_PutRoute.tab9 spec_PutRoute.bits9 (fun HT_ HW_ => ?_)
    generalize wr.drew = w38 at HO_205000 HO_206000 BK194 BK195 BK196 BK204 BK205 HB hHeld ⊢
    refine pz_ 0 27 ba9_1 HT_ ?_
    refine pz_ 1 28 ba9_2 HT_ ?_
    refine pz_ 2 29 ba9_3 HT_ ?_
    refine pu_ 3 30 ba9_4 HT_ ?_
    refine pu_ 4 31 ba9_5 HT_ ?_
    refine pu_ 5 32 ba9_6 HT_ ?_
    refine pu_ 6 33 ba9_7 HT_ ?_
    refine pu_ 7 34 ba9_8 HT_ ?_
    refine pu_ 8 35 ba9_9 HT_ ?_
    refine pu_ 9 36 ba9_10 HT_ ?_
    refine pu_ 10 37 ba9_11 HT_ ?_
    refine pu_ 11 38 ba9_12 HT_ ?_
    refine pz_ 12 39 ba9_13 HT_ ?_
    refine done_ (done_of HT_.out (by kernel_rfl)) ?_
    go_wp2
    replace HO_205000 := Aside0.mk (Kd.R_drew HO_205000.out)
    replace HO_206000 := Aside0.mk (Kd.R_drew HO_206000.out)
    replace BK194 := ad_ BK194
    replace BK195 := ad_ BK195
    replace BK196 := ad_ BK196
    replace BK204 := ad_ BK204
    replace BK205 := ad_ BK205
    replace HB := Aside0.mk (below_drew1 HB.out)
    have p206 : 0 ≤ (x9_1 : Int) := oa_
    have q206 : x9_1 < (t201.length : Int) := oa_
    obtain ⟨ad206, e206, hx206_0, hx206_1, hx206_2⟩ := at_T30 (Kd.R_reads' HO_205000.out).2.2 x9_1 p206 q206
    cases e206
    obtain ⟨p206, q206⟩ := et_ p206 q206
    refine start_ (n := 11) (S := fun w' => w'.cell? ⟨gb205, 0, none⟩ = some (u206000) ∧ w'.cell? ⟨gb204, 0, none⟩ = some (.slice (some ad206) t201.length co18) ∧ w'.cell? (ad206.add ((x9_1).toNat * 3)) = some (.int .i64 ((rd_T30 t201 x9_1).f0.f0)) ∧ w'.cell? ⟨(ad206.add ((x9_1).toNat * 3)).block, (ad206.add ((x9_1).toNat * 3)).off + 1, none⟩ = some (.int .i64 ((rd_T30 t201 x9_1).f0.f1)) ∧ w'.cell? ⟨(ad206.add ((x9_1).toNat * 3)).block, (ad206.add ((x9_1).toNat * 3)).off + 2, none⟩ = some (.int .i64 ((rd_T30 t201 x9_1).f1))) (ds := [8, 10]) ba9_14 (by kernel_rfl) rfl rfl ⟨bq5_ BK205 0, bq5_ BK204 0, hx206_0, hx206_1, hx206_2⟩ (fun hHeld => ?_); refine with_tabW spec_PutRoute.tab12 spec_PutRoute.bits12 (fun HT_ HW_ => ?_)
    generalize w38.drew = w39 at HO_205000 HO_206000 BK194 BK195 BK196 BK204 BK205 HB hx206_0 hx206_1 hx206_2 hHeld ⊢
    refine pz_ 0 46 ba9_15 HT_ ?_
    refine pz_ 2 48 ba9_16 HT_ ?_
    refine pz_ 4 50 ba9_17 HT_ ?_
    refine pt_ 1 47 ba9_18 HT_ HW_ hHeld ?_
    refine pt_ 3 49 ba9_19 HT_ HW_ hHeld ?_
    refine pz_ 5 51 ba9_20 HT_ ?_
    refine pt_ 6 52 ba9_21 HT_ HW_ hHeld ?_
    refine on_ 7 (some 53) ba9_22 HT_ (fun K hK => ?_)
    refine value_ (w1 := ?_) (v := ?_) (by rfl) rfl ?_ ?_
    rotate_left 2
    ·go_simp
     constructor
     ·rfl
     ·rfl
    refine hK.out _ _ ⟨(blk_cell (blk_alloc BK205.out _) 0).trans rfl, (blk_cell (blk_alloc BK204.out _) 0).trans rfl, (World.cell?_alloc_lt _ _ _ (World.block_lt_of_cell? _ _ (hHeld.2.2.1))).trans (hHeld.2.2.1), (World.cell?_alloc_lt _ _ _ (World.block_lt_of_cell? _ _ (hHeld.2.2.2.1))).trans (hHeld.2.2.2.1), (World.cell?_alloc_lt _ _ _ (World.block_lt_of_cell? _ _ (hHeld.2.2.2.2))).trans (hHeld.2.2.2.2)⟩ (fun hHeld => ?_)
    clear hK K
    refine nz_ 53 ?_
    refine last_ (i := 8) (N := some 54) ba9_23 rfl rfl (one_of HT_.out (by kernel_rfl)) (by decide) (fun K hK => ?_)
    refine Kd.R_append_step k30 (w0 := w) w.heap.size (by rfl) (.tmp 47) (.tmp 53) 24 30 (.agg #[(.int .i64 0), (.int .i64 0), (.int .i64 0)]) 24 rfl Try.underlying24 info30 rfl (by decide) (by omega) u206000 x206000_1 (⟨(⟨(rd_T30 t201 x9_1).f0.f0, (rd_T30 t201 x9_1).f0.f1⟩ : S28), (rd_T30 t201 x9_1).f1⟩ : S30) [.int .i64 ((rd_T30 t201 x9_1).f0.f0), .int .i64 ((rd_T30 t201 x9_1).f0.f1), .int .i64 ((rd_T30 t201 x9_1).f1)] (fun k_ => some k_ ≠ (.slice (some ad206) t201.length co18 : Value).ownBlock ∧ k_ ≠ gb195) (fun _ => False) rfl rfl ?aP (fun _ hk => hk.elim) ?aF ?aO ?aB ?aS ?aL ?_
    (case aP => exact k30_mkM _ _ _ (⟨(⟨(rd_T30 t201 x9_1).f0.f0, (rd_T30 t201 x9_1).f0.f1⟩ : S28), (rd_T30 t201 x9_1).f1⟩ : S30))
    (case aB => exact (bw112_))
    (case aF => exact (fun k_ hk => ⟨Kd.fresh' (Kd.R_lt (hd_ HO_205000)) k_ hk, Kd.freshB (g := gb195) (o := .cells #[.int .i64 a1_0, .int .i64 a1_1, .int .i64 a1_2] 30 (0, 0)) (bx_ BK195) k_ hk⟩))
    (case aO => exact (hd_ HO_206000))
    (case aS => exact (bz_ HB))
    (case aL => have := LMc32.out; omega)
    intro v208 w40 ho hb hg hat
    rw [← Ny207.out] at ho
    have HO209 := Aside0.mk ho
    replace HO_205000 := Aside0.mk (Kd.R_after (ok := (fun k_ => k_ ≠ gb195)) (by (with_reducible repeat (first | apply Kd.R_alloc | apply Kd.R_drewN | apply Kd.R_drew)); exact Kd.R_mono HO_205000.out (fun _ hk => by first | exact ⟨hk.2, hk.1⟩ | grind)) hg hat)
    replace BK194 := Aside0.mk (blk_grown (g := gb194) (o := .cells #[.slice A0_0 l0_0.length c0_0] 26 (0, 0)) (bx_ BK194) hg (Kd.R_ne HO_206000.out BK194.out (by decide)))
    replace BK195 := Aside0.mk (blk_grown (g := gb195) (o := .cells #[.int .i64 a1_0, .int .i64 a1_1, .int .i64 a1_2] 30 (0, 0)) (bx_ BK195) hg (Kd.R_away HO_206000.out (fun _ hk => hk.2)))
    replace BK196 := Aside0.mk (blk_grown (g := gb196) (o := .cells #[.slice none 0 0] 26 (0, 0)) (bx_ BK196) hg (Kd.R_ne HO_206000.out BK196.out (by decide)))
    replace BK204 := Aside0.mk (blk_grown (g := gb204) (o := .cells #[.slice (some ad206) t201.length co18] 26 (0, 0)) (bx_ BK204) hg (Kd.R_ne HO_206000.out BK204.out (by decide)))
    replace BK205 := Aside0.mk (blk_grown (g := gb205) (o := .cells #[u206000] 26 (0, 0)) (bx_ BK205) hg (Kd.R_ne HO_206000.out BK205.out (by decide)))
    replace HB := Aside0.mk (hb)
    clear HO_206000 ho hb hg hat
    obtain ⟨Ao41, co41, eo41⟩ := Kd.R_slice HO209.out
    subst eo41
    refine hK.out _ _ ?_
    clear hK K
    refine nz_ 54 ?_
    refine pz_ 9 55 ba9_24 HT_ ?_
    refine last_ (i := 10) (N := none) ba9_25 rfl rfl (one_of HT_.out (by kernel_rfl)) (by decide) (fun K hK => ?_)
    have hs42 : w40.cell? ⟨gb205, 0, none⟩ = some (u206000) := bq5_ BK205 0
    have hfs42 := fz_ BK205 0
    have hns42_0 := NB194_205.out
    have hns42_1 := NB195_205.out
    have hns42_2 := NB196_205.out
    have hns42_3 := NB204_205.out
    have hms42_0 := NB205_194.out
    have hms42_1 := NB205_195.out
    have hms42_2 := NB205_196.out
    have hms42_3 := NB205_204.out
    refine skip_ (w1 := ?_) (by rfl) rfl ?_ ?_
    rotate_left; · go_simp; rfl
    refine hK.out _ _ ?_
    clear hK K
    refine done_ (done_of HT_.out (by kernel_rfl)) ?_
    go_wp2
    go_roundg k1
    case measure => have := HK1.out; omega
    case rel => exact ⟨(true), (wrap64 (x9_1 + 1)), (y207), (.slice Ao41 y207.length co41), er_, er_, H', ⟨by have := HK1.out; omega⟩, ⟨by (with_reducible repeat (first | apply Kd.R_alloc | apply Kd.R_drewN | apply Kd.R_drew)); exact Kd.R_mono (Kd.R_far (Kd.R_types HO_205000.out BK205.out (by decide)) (fun _ hk => hk.2) _) (fun _ hk => by first | exact ⟨hk.1.2, hk.1.1⟩ | grind)⟩, ⟨by (with_reducible repeat (first | apply Kd.R_alloc | apply Kd.R_drewN | apply Kd.R_drew)); exact Kd.R_mono (Kd.R_far (Kd.R_types HO209.out BK205.out (by decide)) (fun _ hk => hk.2) _) (fun _ hk => by first | exact ⟨hk.1.1, hk.1.2⟩ | grind)⟩, ⟨bc_ BK194⟩, ⟨bc_ BK195⟩, ⟨bc_ BK196⟩, ⟨bc_ BK204⟩, ⟨by refine bd_ ?_; refine blk_put (cs := #[u206000]) ?_ 0 _ rfl; refine bd_ ?_; exact BK205.out⟩, ⟨bw112_⟩⟩
   replace c30 := Bool.eq_false_iff.mpr c30
   subst c30
   rw [if_neg (show ¬ (false = true) by decide)] at H
   obtain ⟨c43b0, H⟩ := iq_ H
   obtain ⟨t211, A44, H⟩ := ob_ H
   by_cases c45 : t211 = true
   rotate_left
   ·replace c45 := Bool.eq_false_iff.mpr c45
    subst c45
    rw [if_neg (show ¬ (false = true) by decide)] at H
    by_cases c70 : x206000_1.length < 5864062014805
    rotate_left
    ·rw [if_neg c70] at H
     exact absurd H (by simp)
    rw [if_pos c70] at H
    have LMc70 := Aside0.mk c70
    clear c70
    obtain ⟨y220, hy220⟩ : ∃ y_ : List (S30), y_ = (x206000_1 ++ [(⟨(⟨(rd_T30 t201 x9_1).f0.f0, (rd_T30 t201 x9_1).f0.f1⟩ : S28), (rd_T30 t201 x9_1).f1⟩ : S30)]) := ⟨_, rfl⟩
    replace H : (spec_PutRoute.l0 k1 false (wrap64 (x9_1 + 1)) l0_0 a1_0 a1_1 a1_2 t201 y220) = some (r1, r2) := by first | (rw [hy220]; with_reducible exact H) | (have H2_ := (Option.bind_some _ _).symm.trans H; rw [hy220]; with_reducible exact H2_) | (have H2_ := (Option.bind_some _ _).symm.trans H; with_reducible exact H2_) | with_reducible exact H | (rw [hy220]; exact H) | exact H
    have Ny220 := Aside0.mk hy220
    clear hy220
    have H' := Aside0.mk H
    clear H
    have hnb71 := NB204_194.out
    have hnc71 := NB194_204.out
    have hnb72 := NB204_195.out
    have hnc72 := NB195_204.out
    have hnb73 := NB204_196.out
    have hnc73 := NB196_204.out
    have hnb74 := NB204_205.out
    have hnc74 := NB205_204.out
    have hcz75_0 := cz_ BK204 0 (.slice Ao18 t201.length co18)
    have hfz75_0 := fz_ BK204 0
    go_wp2
    replace HO_205000 := Aside0.mk (Kd.R_drew HO_205000.out)
    replace HO_206000 := Aside0.mk (Kd.R_drew HO_206000.out)
    replace BK194 := ad_ BK194
    replace BK195 := ad_ BK195
    replace BK196 := ad_ BK196
    replace BK204 := ad_ BK204
    replace BK205 := ad_ BK205
    replace HB := Aside0.mk (below_drew1 HB.out)
    have p210 : 0 ≤ (x9_1 : Int) := oa_
    have q210 : x9_1 < (t201.length : Int) := oa_
    obtain ⟨ad210, e210, hx210_0, hx210_1, hx210_2⟩ := at_T30 (Kd.R_reads' HO_205000.out).2.2 x9_1 p210 q210
    cases e210
    obtain ⟨p210, q210⟩ := et_ p210 q210
    refine start_ (n := 13) (S := fun w' => w'.cell? ⟨gb195, 0, none⟩ = some (.int .i64 a1_0) ∧ w'.cell? ⟨gb195, 1, none⟩ = some (.int .i64 a1_1) ∧ w'.cell? ⟨gb195, 2, none⟩ = some (.int .i64 a1_2) ∧ w'.cell? ⟨gb204, 0, none⟩ = some (.slice (some ad210) t201.length co18) ∧ w'.cell? (ad210.add ((x9_1).toNat * 3)) = some (.int .i64 ((rd_T30 t201 x9_1).f0.f0)) ∧ w'.cell? ⟨(ad210.add ((x9_1).toNat * 3)).block, (ad210.add ((x9_1).toNat * 3)).off + 1, none⟩ = some (.int .i64 ((rd_T30 t201 x9_1).f0.f1)) ∧ w'.cell? ⟨(ad210.add ((x9_1).toNat * 3)).block, (ad210.add ((x9_1).toNat * 3)).off + 2, none⟩ = some (.int .i64 ((rd_T30 t201 x9_1).f1))) (ds := []) ba9_0 (by kernel_rfl) rfl rfl ⟨bq5_ BK195 0, bq5_ BK195 1, bq5_ BK195 2, bq5_ BK204 0, hx210_0, hx210_1, hx210_2⟩ (fun hHeld => ?_); refine with_tabW spec_PutRoute.tab9 spec_PutRoute.bits9 (fun HT_ HW_ => ?_)
    generalize wr.drew = w76 at HO_205000 HO_206000 BK194 BK195 BK196 BK204 BK205 HB hx210_0 hx210_1 hx210_2 hHeld ⊢
    refine pz_ 0 27 ba9_1 HT_ ?_
    refine pz_ 1 28 ba9_2 HT_ ?_
    refine pz_ 2 29 ba9_3 HT_ ?_
    refine pz_ 3 30 ba9_4 HT_ ?_
    refine pz_ 5 32 ba9_26 HT_ ?_
    refine pz_ 7 34 ba9_27 HT_ ?_
    refine pt_ 4 31 ba9_28 HT_ HW_ hHeld ?_
    refine pt_ 6 33 ba9_8 HT_ HW_ hHeld ?_
    refine pz_ 8 35 ba9_9 HT_ ?_
    refine pz_ 9 36 ba9_10 HT_ ?_
    refine pt_ 10 37 ba9_11 HT_ HW_ hHeld ?_
    refine on_ 11 (some 38) ba9_12 HT_ (fun K hK => ?_)
    refine gz_ Try.func47 #[.agg #[.int .i64 a1_0, .int .i64 a1_1], .agg #[.int .i64 ((rd_T30 t201 x9_1).f0.f0), .int .i64 ((rd_T30 t201 x9_1).f0.f1)]] ?_
    with_reducible refine (spec_l02Ahead.calls a1_0 a1_1 ((rd_T30 t201 x9_1).f0.f0) ((rd_T30 t201 x9_1).f0.f1) false _ A44.out).mono ?_
    rintro e w77 ⟨rfl, hb⟩
    have HS4_ := (hb.cell (World.block_lt_of_cell? _ _ (hHeld.2.2.2.2.1))).trans (hHeld.2.2.2.2.1)
    have HS5_ := (hb.cell (World.block_lt_of_cell? _ _ (hHeld.2.2.2.2.2.1))).trans (hHeld.2.2.2.2.2.1)
    have HS6_ := (hb.cell (World.block_lt_of_cell? _ _ (hHeld.2.2.2.2.2.2))).trans (hHeld.2.2.2.2.2.2)
    refine ⟨_, rfl, ?_⟩
    replace HO_205000 := rb_ HO_205000 hb
    replace HO_206000 := rb_ HO_206000 hb
    replace BK194 := ab_ BK194 hb
    replace BK195 := ab_ BK195 hb
    replace BK196 := ab_ BK196 hb
    replace BK204 := ab_ BK204 hb
    replace BK205 := ab_ BK205 hb
    replace HB := at_ HB hb
    clear hb
    refine hK.out _ _ ⟨bq5_ BK195 0, bq5_ BK195 1, bq5_ BK195 2, bq5_ BK204 0, HS4_, HS5_, HS6_⟩ (fun hHeld => ?_)
    clear hK K
    refine nz_ 38 ?_
    refine pz_ 12 39 ba9_13 HT_ ?_
    refine done_ (done_of HT_.out (by kernel_rfl)) ?_
    go_wp2
    replace HO_205000 := Aside0.mk (Kd.R_drew HO_205000.out)
    replace HO_206000 := Aside0.mk (Kd.R_drew HO_206000.out)
    replace BK194 := ad_ BK194
    replace BK195 := ad_ BK195
    replace BK196 := ad_ BK196
    replace BK204 := ad_ BK204
    replace BK205 := ad_ BK205
    replace HB := Aside0.mk (below_drew1 HB.out)
    have p219 : 0 ≤ (x9_1 : Int) := oa_
    have q219 : x9_1 < (t201.length : Int) := oa_
    obtain ⟨ad219, e219, hx219_0, hx219_1, hx219_2⟩ := at_T30 (Kd.R_reads' HO_205000.out).2.2 x9_1 p219 q219
    obtain rfl : ad210 = ad219 := (by injection e219)
    obtain ⟨p219, q219⟩ := et_ p219 q219
    refine start_ (n := 11) (S := fun w' => w'.cell? ⟨gb205, 0, none⟩ = some (u206000) ∧ w'.cell? ⟨gb204, 0, none⟩ = some (.slice (some ad210) t201.length co18) ∧ w'.cell? (ad210.add ((x9_1).toNat * 3)) = some (.int .i64 ((rd_T30 t201 x9_1).f0.f0)) ∧ w'.cell? ⟨(ad210.add ((x9_1).toNat * 3)).block, (ad210.add ((x9_1).toNat * 3)).off + 1, none⟩ = some (.int .i64 ((rd_T30 t201 x9_1).f0.f1)) ∧ w'.cell? ⟨(ad210.add ((x9_1).toNat * 3)).block, (ad210.add ((x9_1).toNat * 3)).off + 2, none⟩ = some (.int .i64 ((rd_T30 t201 x9_1).f1))) (ds := [8, 10]) ba9_14 (by kernel_rfl) rfl rfl ⟨bq5_ BK205 0, bq5_ BK204 0, hx219_0, hx219_1, hx219_2⟩ (fun hHeld => ?_); refine with_tabW spec_PutRoute.tab12 spec_PutRoute.bits12 (fun HT_ HW_ => ?_)
    generalize w77.drew = w78 at HO_205000 HO_206000 BK194 BK195 BK196 BK204 BK205 HB hx219_0 hx219_1 hx219_2 hHeld ⊢
    refine pz_ 0 46 ba9_15 HT_ ?_
    refine pz_ 2 48 ba9_16 HT_ ?_
    refine pz_ 4 50 ba9_17 HT_ ?_
    refine pt_ 1 47 ba9_18 HT_ HW_ hHeld ?_
    refine pt_ 3 49 ba9_19 HT_ HW_ hHeld ?_
    refine pz_ 5 51 ba9_20 HT_ ?_
    refine pt_ 6 52 ba9_21 HT_ HW_ hHeld ?_
    refine on_ 7 (some 53) ba9_22 HT_ (fun K hK => ?_)
    refine value_ (w1 := ?_) (v := ?_) (by rfl) rfl ?_ ?_
    rotate_left 2
    ·go_simp
     constructor
     ·rfl
     ·rfl
    refine hK.out _ _ ⟨(blk_cell (blk_alloc BK205.out _) 0).trans rfl, (blk_cell (blk_alloc BK204.out _) 0).trans rfl, (World.cell?_alloc_lt _ _ _ (World.block_lt_of_cell? _ _ (hHeld.2.2.1))).trans (hHeld.2.2.1), (World.cell?_alloc_lt _ _ _ (World.block_lt_of_cell? _ _ (hHeld.2.2.2.1))).trans (hHeld.2.2.2.1), (World.cell?_alloc_lt _ _ _ (World.block_lt_of_cell? _ _ (hHeld.2.2.2.2))).trans (hHeld.2.2.2.2)⟩ (fun hHeld => ?_)
    clear hK K
    refine nz_ 53 ?_
    refine last_ (i := 8) (N := some 54) ba9_23 rfl rfl (one_of HT_.out (by kernel_rfl)) (by decide) (fun K hK => ?_)
    refine Kd.R_append_step k30 (w0 := w) w.heap.size (by rfl) (.tmp 47) (.tmp 53) 24 30 (.agg #[(.int .i64 0), (.int .i64 0), (.int .i64 0)]) 24 rfl Try.underlying24 info30 rfl (by decide) (by omega) u206000 x206000_1 (⟨(⟨(rd_T30 t201 x9_1).f0.f0, (rd_T30 t201 x9_1).f0.f1⟩ : S28), (rd_T30 t201 x9_1).f1⟩ : S30) [.int .i64 ((rd_T30 t201 x9_1).f0.f0), .int .i64 ((rd_T30 t201 x9_1).f0.f1), .int .i64 ((rd_T30 t201 x9_1).f1)] (fun k_ => some k_ ≠ (.slice (some ad210) t201.length co18 : Value).ownBlock ∧ k_ ≠ gb195) (fun _ => False) rfl rfl ?aP (fun _ hk => hk.elim) ?aF ?aO ?aB ?aS ?aL ?_
    (case aP => exact k30_mkM _ _ _ (⟨(⟨(rd_T30 t201 x9_1).f0.f0, (rd_T30 t201 x9_1).f0.f1⟩ : S28), (rd_T30 t201 x9_1).f1⟩ : S30))
    (case aB => exact (bw112_))
    (case aF => exact (fun k_ hk => ⟨Kd.fresh' (Kd.R_lt (hd_ HO_205000)) k_ hk, Kd.freshB (g := gb195) (o := .cells #[.int .i64 a1_0, .int .i64 a1_1, .int .i64 a1_2] 30 (0, 0)) (bx_ BK195) k_ hk⟩))
    (case aO => exact (hd_ HO_206000))
    (case aS => exact (bz_ HB))
    (case aL => have := LMc70.out; omega)
    intro v221 w79 ho hb hg hat
    rw [← Ny220.out] at ho
    have HO222 := Aside0.mk ho
    replace HO_205000 := Aside0.mk (Kd.R_after (ok := (fun k_ => k_ ≠ gb195)) (by (with_reducible repeat (first | apply Kd.R_alloc | apply Kd.R_drewN | apply Kd.R_drew)); exact Kd.R_mono HO_205000.out (fun _ hk => by first | exact ⟨hk.2, hk.1⟩ | grind)) hg hat)
    replace BK194 := Aside0.mk (blk_grown (g := gb194) (o := .cells #[.slice A0_0 l0_0.length c0_0] 26 (0, 0)) (bx_ BK194) hg (Kd.R_ne HO_206000.out BK194.out (by decide)))
    replace BK195 := Aside0.mk (blk_grown (g := gb195) (o := .cells #[.int .i64 a1_0, .int .i64 a1_1, .int .i64 a1_2] 30 (0, 0)) (bx_ BK195) hg (Kd.R_away HO_206000.out (fun _ hk => hk.2)))
    replace BK196 := Aside0.mk (blk_grown (g := gb196) (o := .cells #[.slice none 0 0] 26 (0, 0)) (bx_ BK196) hg (Kd.R_ne HO_206000.out BK196.out (by decide)))
    replace BK204 := Aside0.mk (blk_grown (g := gb204) (o := .cells #[.slice (some ad210) t201.length co18] 26 (0, 0)) (bx_ BK204) hg (Kd.R_ne HO_206000.out BK204.out (by decide)))
    replace BK205 := Aside0.mk (blk_grown (g := gb205) (o := .cells #[u206000] 26 (0, 0)) (bx_ BK205) hg (Kd.R_ne HO_206000.out BK205.out (by decide)))
    replace HB := Aside0.mk (hb)
    clear HO_206000 ho hb hg hat
    obtain ⟨Ao80, co80, eo80⟩ := Kd.R_slice HO222.out
    subst eo80
    refine hK.out _ _ ?_
    clear hK K
    refine nz_ 54 ?_
    refine pz_ 9 55 ba9_24 HT_ ?_
    refine last_ (i := 10) (N := none) ba9_25 rfl rfl (one_of HT_.out (by kernel_rfl)) (by decide) (fun K hK => ?_)
    have hs81 : w79.cell? ⟨gb205, 0, none⟩ = some (u206000) := bq5_ BK205 0
    have hfs81 := fz_ BK205 0
    have hns81_0 := NB194_205.out
    have hns81_1 := NB195_205.out
    have hns81_2 := NB196_205.out
    have hns81_3 := NB204_205.out
    have hms81_0 := NB205_194.out
    have hms81_1 := NB205_195.out
    have hms81_2 := NB205_196.out
    have hms81_3 := NB205_204.out
    refine skip_ (w1 := ?_) (by rfl) rfl ?_ ?_
    rotate_left; · go_simp; rfl
    refine hK.out _ _ ?_
    clear hK K
    refine done_ (done_of HT_.out (by kernel_rfl)) ?_
    go_wp2
    go_roundg k1
    case measure => have := HK1.out; omega
    case rel => exact ⟨(false), (wrap64 (x9_1 + 1)), (y220), (.slice Ao80 y220.length co80), er_, er_, H', ⟨by have := HK1.out; omega⟩, ⟨by (with_reducible repeat (first | apply Kd.R_alloc | apply Kd.R_drewN | apply Kd.R_drew)); exact Kd.R_mono (Kd.R_far (Kd.R_types HO_205000.out BK205.out (by decide)) (fun _ hk => hk.2) _) (fun _ hk => by first | exact ⟨hk.1.2, hk.1.1⟩ | grind)⟩, ⟨by (with_reducible repeat (first | apply Kd.R_alloc | apply Kd.R_drewN | apply Kd.R_drew)); exact Kd.R_mono (Kd.R_far (Kd.R_types HO222.out BK205.out (by decide)) (fun _ hk => hk.2) _) (fun _ hk => by first | exact ⟨hk.1.1, hk.1.2⟩ | grind)⟩, ⟨bc_ BK194⟩, ⟨bc_ BK195⟩, ⟨bc_ BK196⟩, ⟨bc_ BK204⟩, ⟨by refine bd_ ?_; refine blk_put (cs := #[u206000]) ?_ 0 _ rfl; refine bd_ ?_; exact BK205.out⟩, ⟨bw112_⟩⟩
   subst c45
   rw [if_pos rfl] at H
   by_cases c46 : x206000_1.length < 5864062014805
   rotate_left
   ·rw [if_neg c46] at H
    exact absurd H (by simp)
   rw [if_pos c46] at H
   have LMc46 := Aside0.mk c46
   clear c46
   obtain ⟨y212, hy212⟩ : ∃ y_ : List (S30), y_ = (x206000_1 ++ [(⟨(⟨a1_0, a1_1⟩ : S28), a1_2⟩ : S30)]) := ⟨_, rfl⟩
   replace H : (if y212.length < 5864062014805 then (spec_PutRoute.l0 k1 true (wrap64 (x9_1 + 1)) l0_0 a1_0 a1_1 a1_2 t201 (y212 ++ [(⟨(⟨(rd_T30 t201 x9_1).f0.f0, (rd_T30 t201 x9_1).f0.f1⟩ : S28), (rd_T30 t201 x9_1).f1⟩ : S30)])) else (none)) = some (r1, r2) := by first | (rw [hy212]; with_reducible exact H) | (have H2_ := (Option.bind_some _ _).symm.trans H; rw [hy212]; with_reducible exact H2_) | (have H2_ := (Option.bind_some _ _).symm.trans H; with_reducible exact H2_) | with_reducible exact H | (rw [hy212]; exact H) | exact H
   have Ny212 := Aside0.mk hy212
   clear hy212
   by_cases c47 : y212.length < 5864062014805
   rotate_left
   ·rw [if_neg c47] at H
    exact absurd H (by simp)
   rw [if_pos c47] at H
   have LMc47 := Aside0.mk c47
   clear c47
   obtain ⟨y216, hy216⟩ : ∃ y_ : List (S30), y_ = (y212 ++ [(⟨(⟨(rd_T30 t201 x9_1).f0.f0, (rd_T30 t201 x9_1).f0.f1⟩ : S28), (rd_T30 t201 x9_1).f1⟩ : S30)]) := ⟨_, rfl⟩
   replace H : (spec_PutRoute.l0 k1 true (wrap64 (x9_1 + 1)) l0_0 a1_0 a1_1 a1_2 t201 y216) = some (r1, r2) := by first | (rw [hy216]; with_reducible exact H) | (have H2_ := (Option.bind_some _ _).symm.trans H; rw [hy216]; with_reducible exact H2_) | (have H2_ := (Option.bind_some _ _).symm.trans H; with_reducible exact H2_) | with_reducible exact H | (rw [hy216]; exact H) | exact H
   have Ny216 := Aside0.mk hy216
   clear hy216
   have H' := Aside0.mk H
   clear H
   have hnb48 := NB204_194.out
   have hnc48 := NB194_204.out
   have hnb49 := NB204_195.out
   have hnc49 := NB195_204.out
   have hnb50 := NB204_196.out
   have hnc50 := NB196_204.out
   have hnb51 := NB204_205.out
   have hnc51 := NB205_204.out
   have hcz52_0 := cz_ BK204 0 (.slice Ao18 t201.length co18)
   have hfz52_0 := fz_ BK204 0
   go_wp2
   replace HO_205000 := Aside0.mk (Kd.R_drew HO_205000.out)
   replace HO_206000 := Aside0.mk (Kd.R_drew HO_206000.out)
   replace BK194 := ad_ BK194
   replace BK195 := ad_ BK195
   replace BK196 := ad_ BK196
   replace BK204 := ad_ BK204
   replace BK205 := ad_ BK205
   replace HB := Aside0.mk (below_drew1 HB.out)
   have p210 : 0 ≤ (x9_1 : Int) := oa_
   have q210 : x9_1 < (t201.length : Int) := oa_
   obtain ⟨ad210, e210, hx210_0, hx210_1, hx210_2⟩ := at_T30 (Kd.R_reads' HO_205000.out).2.2 x9_1 p210 q210
   cases e210
   obtain ⟨p210, q210⟩ := et_ p210 q210
   refine start_ (n := 13) (S := fun w' => w'.cell? ⟨gb195, 0, none⟩ = some (.int .i64 a1_0) ∧ w'.cell? ⟨gb195, 1, none⟩ = some (.int .i64 a1_1) ∧ w'.cell? ⟨gb195, 2, none⟩ = some (.int .i64 a1_2) ∧ w'.cell? ⟨gb204, 0, none⟩ = some (.slice (some ad210) t201.length co18) ∧ w'.cell? (ad210.add ((x9_1).toNat * 3)) = some (.int .i64 ((rd_T30 t201 x9_1).f0.f0)) ∧ w'.cell? ⟨(ad210.add ((x9_1).toNat * 3)).block, (ad210.add ((x9_1).toNat * 3)).off + 1, none⟩ = some (.int .i64 ((rd_T30 t201 x9_1).f0.f1)) ∧ w'.cell? ⟨(ad210.add ((x9_1).toNat * 3)).block, (ad210.add ((x9_1).toNat * 3)).off + 2, none⟩ = some (.int .i64 ((rd_T30 t201 x9_1).f1))) (ds := []) ba9_0 (by kernel_rfl) rfl rfl ⟨bq5_ BK195 0, bq5_ BK195 1, bq5_ BK195 2, bq5_ BK204 0, hx210_0, hx210_1, hx210_2⟩ (fun hHeld => ?_); refine with_tabW spec_PutRoute.tab9 spec_PutRoute.bits9 (fun HT_ HW_ => ?_)
   generalize wr.drew = w53 at HO_205000 HO_206000 BK194 BK195 BK196 BK204 BK205 HB hx210_0 hx210_1 hx210_2 hHeld ⊢
   refine pz_ 0 27 ba9_1 HT_ ?_
   refine pz_ 1 28 ba9_2 HT_ ?_
   refine pz_ 2 29 ba9_3 HT_ ?_
   refine pz_ 3 30 ba9_4 HT_ ?_
   refine pz_ 5 32 ba9_26 HT_ ?_
   refine pz_ 7 34 ba9_27 HT_ ?_
   refine pt_ 4 31 ba9_28 HT_ HW_ hHeld ?_
   refine pt_ 6 33 ba9_8 HT_ HW_ hHeld ?_
   refine pz_ 8 35 ba9_9 HT_ ?_
   refine pz_ 9 36 ba9_10 HT_ ?_
   refine pt_ 10 37 ba9_11 HT_ HW_ hHeld ?_
   refine on_ 11 (some 38) ba9_12 HT_ (fun K hK => ?_)
   refine gz_ Try.func47 #[.agg #[.int .i64 a1_0, .int .i64 a1_1], .agg #[.int .i64 ((rd_T30 t201 x9_1).f0.f0), .int .i64 ((rd_T30 t201 x9_1).f0.f1)]] ?_
   with_reducible refine (spec_l02Ahead.calls a1_0 a1_1 ((rd_T30 t201 x9_1).f0.f0) ((rd_T30 t201 x9_1).f0.f1) true _ A44.out).mono ?_
   rintro e w54 ⟨rfl, hb⟩
   have HS4_ := (hb.cell (World.block_lt_of_cell? _ _ (hHeld.2.2.2.2.1))).trans (hHeld.2.2.2.2.1)
   have HS5_ := (hb.cell (World.block_lt_of_cell? _ _ (hHeld.2.2.2.2.2.1))).trans (hHeld.2.2.2.2.2.1)
   have HS6_ := (hb.cell (World.block_lt_of_cell? _ _ (hHeld.2.2.2.2.2.2))).trans (hHeld.2.2.2.2.2.2)
   refine ⟨_, rfl, ?_⟩
   replace HO_205000 := rb_ HO_205000 hb
   replace HO_206000 := rb_ HO_206000 hb
   replace BK194 := ab_ BK194 hb
   replace BK195 := ab_ BK195 hb
   replace BK196 := ab_ BK196 hb
   replace BK204 := ab_ BK204 hb
   replace BK205 := ab_ BK205 hb
   replace HB := at_ HB hb
   clear hb
   refine hK.out _ _ ⟨bq5_ BK195 0, bq5_ BK195 1, bq5_ BK195 2, bq5_ BK204 0, HS4_, HS5_, HS6_⟩ (fun hHeld => ?_)
   clear hK K
   refine nz_ 38 ?_
   refine pz_ 12 39 ba9_13 HT_ ?_
   refine done_ (done_of HT_.out (by kernel_rfl)) ?_
   have hnb55 := NB205_194.out
   have hnc55 := NB194_205.out
   have hnb56 := NB205_195.out
   have hnc56 := NB195_205.out
   have hnb57 := NB205_196.out
   have hnc57 := NB196_205.out
   have hcz58_0 := cz_ BK205 0 (u206000)
   have hfz58_0 := fz_ BK205 0
   have hnb59 := NB195_194.out
   have hnc59 := NB194_195.out
   have hnb60 := NB195_196.out
   have hnc60 := NB196_195.out
   have hcz61_0 := cz_ BK195 0 (.int .i64 a1_0)
   have hcz61_1 := cz_ BK195 1 (.int .i64 a1_1)
   have hcz61_2 := cz_ BK195 2 (.int .i64 a1_2)
   have hfz61_0 := fz_ BK195 0
   have hfz61_1 := fz_ BK195 1
   have hfz61_2 := fz_ BK195 2
   try go_wp2_with ((with_reducible refine gate_builtin (b := .append) (xs := #[.tmp 41, .tmp 43]) rfl ?_); at_builtin; refine Kd.R_append k30 (w0 := w) w.heap.size rfl (.tmp 41) (.tmp 43) 24 30 (.agg #[(.int .i64 0), (.int .i64 0), (.int .i64 0)]) 24 rfl Try.underlying24 info30 rfl (by decide) (by omega) u206000 x206000_1 (⟨(⟨a1_0, a1_1⟩ : S28), a1_2⟩ : S30) [.int .i64 a1_0, .int .i64 a1_1, .int .i64 a1_2] (fun k_ => some k_ ≠ (.slice (some ad210) t201.length co18 : Value).ownBlock ∧ k_ ≠ gb195) (fun _ => False) rfl rfl ?aP (fun _ hk => hk.elim) ?aF ?aO ?aB ?aS ?aL ?_; (case aP => exact k30_mkM _ _ _ (⟨(⟨a1_0, a1_1⟩ : S28), a1_2⟩ : S30)); (case aB => exact (bw112_)); (case aF => exact (fun k_ hk => ⟨Kd.fresh' (Kd.R_lt (hd_ HO_205000)) k_ hk, Kd.freshB (g := gb195) (o := .cells #[.int .i64 a1_0, .int .i64 a1_1, .int .i64 a1_2] 30 (0, 0)) (bx_ BK195) k_ hk⟩)); (case aO => exact (hd_ HO_206000)); (case aS => exact (bz_ HB)); (case aL => have := LMc46.out; omega); intro v213 w62 ho hb hg hat; rw [← Ny212.out] at ho; have HO214 := Aside0.mk ho; replace HO_205000 := Aside0.mk (Kd.R_after (ok := (fun k_ => k_ ≠ gb195)) (by (with_reducible repeat (first | apply Kd.R_alloc | apply Kd.R_drewN | apply Kd.R_drew)); exact Kd.R_mono HO_205000.out (fun _ hk => by first | exact ⟨hk.2, hk.1⟩ | grind)) hg hat); replace BK194 := Aside0.mk (blk_grown (g := gb194) (o := .cells #[.slice A0_0 l0_0.length c0_0] 26 (0, 0)) (bx_ BK194) hg (Kd.R_ne HO_206000.out BK194.out (by decide))); replace BK195 := Aside0.mk (blk_grown (g := gb195) (o := .cells #[.int .i64 a1_0, .int .i64 a1_1, .int .i64 a1_2] 30 (0, 0)) (bx_ BK195) hg (Kd.R_away HO_206000.out (fun _ hk => hk.2))); replace BK196 := Aside0.mk (blk_grown (g := gb196) (o := .cells #[.slice none 0 0] 26 (0, 0)) (bx_ BK196) hg (Kd.R_ne HO_206000.out BK196.out (by decide))); replace BK204 := Aside0.mk (blk_grown (g := gb204) (o := .cells #[.slice (some ad210) t201.length co18] 26 (0, 0)) (bx_ BK204) hg (Kd.R_ne HO_206000.out BK204.out (by decide))); replace BK205 := Aside0.mk (blk_grown (g := gb205) (o := .cells #[u206000] 26 (0, 0)) (bx_ BK205) hg (Kd.R_ne HO_206000.out BK205.out (by decide))); replace HB := Aside0.mk (hb); clear HO_206000 ho hb hg hat; obtain ⟨Ao63, co63, eo63⟩ := Kd.R_slice HO214.out; subst eo63; have hcz64_0 := cz_ BK205 0 (u206000); have hfz64_0 := fz_ BK205 0)
   generalize hW_ : (w62.setCell ⟨gb205, 0, none⟩ (.slice Ao63 y212.length co63)) = w65
   have n0_ : Aside0 (Kd.R k30 30 w65 w.heap.size (fun k_ => some k_ ≠ (.slice Ao63 y212.length co63 : Value).ownBlock ∧ k_ ≠ gb195) (.slice (some ad210) t201.length co18) t201) := by subst hW_; exact ⟨by (with_reducible repeat (first | apply Kd.R_alloc | apply Kd.R_drewN | apply Kd.R_drew)); exact Kd.R_mono (Kd.R_far (Kd.R_types HO_205000.out BK205.out (by decide)) (fun _ hk => hk.2) _) (fun _ hk => by first | exact ⟨hk.1.2, hk.1.1⟩ | grind)⟩
   have n1_ : Aside0 (Kd.R k30 30 w65 w.heap.size (fun k_ => some k_ ≠ (.slice (some ad210) t201.length co18 : Value).ownBlock ∧ k_ ≠ gb195) (.slice Ao63 y212.length co63) y212) := by subst hW_; exact ⟨by (with_reducible repeat (first | apply Kd.R_alloc | apply Kd.R_drewN | apply Kd.R_drew)); exact Kd.R_mono (Kd.R_far (Kd.R_types HO214.out BK205.out (by decide)) (fun _ hk => hk.2) _) (fun _ hk => by first | exact ⟨hk.1.1, hk.1.2⟩ | grind)⟩
   have n2_ : Aside0 (w65.heap[gb194]? = some (.cells #[.slice A0_0 l0_0.length c0_0] 26 (0, 0))) := by subst hW_; exact ⟨bc_ BK194⟩
   have n3_ : Aside0 (w65.heap[gb195]? = some (.cells #[.int .i64 a1_0, .int .i64 a1_1, .int .i64 a1_2] 30 (0, 0))) := by subst hW_; exact ⟨bc_ BK195⟩
   have n4_ : Aside0 (w65.heap[gb196]? = some (.cells #[.slice none 0 0] 26 (0, 0))) := by subst hW_; exact ⟨bc_ BK196⟩
   have n5_ : Aside0 (w65.heap[gb204]? = some (.cells #[.slice (some ad210) t201.length co18] 26 (0, 0))) := by subst hW_; exact ⟨bc_ BK204⟩
   have n6_ : Aside0 (w65.heap[gb205]? = some (.cells #[.slice Ao63 y212.length co63] 26 (0, 0))) := by subst hW_; exact ⟨by refine bd_ ?_; refine blk_put (cs := #[u206000]) ?_ 0 _ rfl; refine bd_ ?_; exact BK205.out⟩
   have n7_ : Aside0 (Below w.heap.size w w65) := by subst hW_; exact ⟨bw112_⟩
   clear hW_ HO_205000 HO214 BK194 BK195 BK196 BK204 BK205 HB
   have HO_205000 := n0_
   have HO214 := n1_
   have BK194 := n2_
   have BK195 := n3_
   have BK196 := n4_
   have BK204 := n5_
   have BK205 := n6_
   have HB := n7_
   clear n0_ n1_ n2_ n3_ n4_ n5_ n6_ n7_
   replace HO_205000 := Aside0.mk (Kd.R_drew HO_205000.out)
   replace HO214 := Aside0.mk (Kd.R_drew HO214.out)
   replace BK194 := ad_ BK194
   replace BK195 := ad_ BK195
   replace BK196 := ad_ BK196
   replace BK204 := ad_ BK204
   replace BK205 := ad_ BK205
   replace HB := Aside0.mk (below_drew1 HB.out)
   have p215 : 0 ≤ (x9_1 : Int) := oa_
   have q215 : x9_1 < (t201.length : Int) := oa_
   obtain ⟨ad215, e215, hx215_0, hx215_1, hx215_2⟩ := at_T30 (Kd.R_reads' HO_205000.out).2.2 x9_1 p215 q215
   obtain rfl : ad210 = ad215 := (by injection e215)
   obtain ⟨p215, q215⟩ := et_ p215 q215
   refine start_ (n := 11) (S := fun w' => w'.cell? ⟨gb205, 0, none⟩ = some (.slice Ao63 y212.length co63) ∧ w'.cell? ⟨gb204, 0, none⟩ = some (.slice (some ad210) t201.length co18) ∧ w'.cell? (ad210.add ((x9_1).toNat * 3)) = some (.int .i64 ((rd_T30 t201 x9_1).f0.f0)) ∧ w'.cell? ⟨(ad210.add ((x9_1).toNat * 3)).block, (ad210.add ((x9_1).toNat * 3)).off + 1, none⟩ = some (.int .i64 ((rd_T30 t201 x9_1).f0.f1)) ∧ w'.cell? ⟨(ad210.add ((x9_1).toNat * 3)).block, (ad210.add ((x9_1).toNat * 3)).off + 2, none⟩ = some (.int .i64 ((rd_T30 t201 x9_1).f1))) (ds := [8, 10]) ba9_14 (by kernel_rfl) rfl rfl ⟨bq5_ BK205 0, bq5_ BK204 0, hx215_0, hx215_1, hx215_2⟩ (fun hHeld => ?_); refine with_tabW spec_PutRoute.tab12 spec_PutRoute.bits12 (fun HT_ HW_ => ?_)
   generalize w65.drew = w66 at HO_205000 HO214 BK194 BK195 BK196 BK204 BK205 HB hx215_0 hx215_1 hx215_2 hHeld ⊢
   refine pz_ 0 46 ba9_15 HT_ ?_
   refine pz_ 2 48 ba9_16 HT_ ?_
   refine pz_ 4 50 ba9_17 HT_ ?_
   refine pt_ 1 47 ba9_18 HT_ HW_ hHeld ?_
   refine pt_ 3 49 ba9_19 HT_ HW_ hHeld ?_
   refine pz_ 5 51 ba9_20 HT_ ?_
   refine pt_ 6 52 ba9_21 HT_ HW_ hHeld ?_
   refine on_ 7 (some 53) ba9_22 HT_ (fun K hK => ?_)
   refine value_ (w1 := ?_) (v := ?_) (by rfl) rfl ?_ ?_
   rotate_left 2
   ·go_simp
    constructor
    ·rfl
    ·rfl
   refine hK.out _ _ ⟨(blk_cell (blk_alloc BK205.out _) 0).trans rfl, (blk_cell (blk_alloc BK204.out _) 0).trans rfl, (World.cell?_alloc_lt _ _ _ (World.block_lt_of_cell? _ _ (hHeld.2.2.1))).trans (hHeld.2.2.1), (World.cell?_alloc_lt _ _ _ (World.block_lt_of_cell? _ _ (hHeld.2.2.2.1))).trans (hHeld.2.2.2.1), (World.cell?_alloc_lt _ _ _ (World.block_lt_of_cell? _ _ (hHeld.2.2.2.2))).trans (hHeld.2.2.2.2)⟩ (fun hHeld => ?_)
   clear hK K
   refine nz_ 53 ?_
   refine last_ (i := 8) (N := some 54) ba9_23 rfl rfl (one_of HT_.out (by kernel_rfl)) (by decide) (fun K hK => ?_)
   refine Kd.R_append_step k30 (w0 := w) w.heap.size (by rfl) (.tmp 47) (.tmp 53) 24 30 (.agg #[(.int .i64 0), (.int .i64 0), (.int .i64 0)]) 24 rfl Try.underlying24 info30 rfl (by decide) (by omega) (.slice Ao63 y212.length co63) y212 (⟨(⟨(rd_T30 t201 x9_1).f0.f0, (rd_T30 t201 x9_1).f0.f1⟩ : S28), (rd_T30 t201 x9_1).f1⟩ : S30) [.int .i64 ((rd_T30 t201 x9_1).f0.f0), .int .i64 ((rd_T30 t201 x9_1).f0.f1), .int .i64 ((rd_T30 t201 x9_1).f1)] (fun k_ => some k_ ≠ (.slice (some ad210) t201.length co18 : Value).ownBlock ∧ k_ ≠ gb195) (fun _ => False) rfl rfl ?aP (fun _ hk => hk.elim) ?aF ?aO ?aB ?aS ?aL ?_
   (case aP => exact k30_mkM _ _ _ (⟨(⟨(rd_T30 t201 x9_1).f0.f0, (rd_T30 t201 x9_1).f0.f1⟩ : S28), (rd_T30 t201 x9_1).f1⟩ : S30))
   (case aB => exact (bw112_))
   (case aF => exact (fun k_ hk => ⟨Kd.fresh' (Kd.R_lt (hd_ HO_205000)) k_ hk, Kd.freshB (g := gb195) (o := .cells #[.int .i64 a1_0, .int .i64 a1_1, .int .i64 a1_2] 30 (0, 0)) (bx_ BK195) k_ hk⟩))
   (case aO => exact (hd_ HO214))
   (case aS => exact (bz_ HB))
   (case aL => have := LMc47.out; omega)
   intro v217 w67 ho hb hg hat
   rw [← Ny216.out] at ho
   have HO218 := Aside0.mk ho
   replace HO_205000 := Aside0.mk (Kd.R_after (ok := (fun k_ => k_ ≠ gb195)) (by (with_reducible repeat (first | apply Kd.R_alloc | apply Kd.R_drewN | apply Kd.R_drew)); exact Kd.R_mono HO_205000.out (fun _ hk => by first | exact ⟨hk.2, hk.1⟩ | grind)) hg hat)
   replace BK194 := Aside0.mk (blk_grown (g := gb194) (o := .cells #[.slice A0_0 l0_0.length c0_0] 26 (0, 0)) (bx_ BK194) hg (Kd.R_ne HO214.out BK194.out (by decide)))
   replace BK195 := Aside0.mk (blk_grown (g := gb195) (o := .cells #[.int .i64 a1_0, .int .i64 a1_1, .int .i64 a1_2] 30 (0, 0)) (bx_ BK195) hg (Kd.R_away HO214.out (fun _ hk => hk.2)))
   replace BK196 := Aside0.mk (blk_grown (g := gb196) (o := .cells #[.slice none 0 0] 26 (0, 0)) (bx_ BK196) hg (Kd.R_ne HO214.out BK196.out (by decide)))
   replace BK204 := Aside0.mk (blk_grown (g := gb204) (o := .cells #[.slice (some ad210) t201.length co18] 26 (0, 0)) (bx_ BK204) hg (Kd.R_ne HO214.out BK204.out (by decide)))
   replace BK205 := Aside0.mk (blk_grown (g := gb205) (o := .cells #[.slice Ao63 y212.length co63] 26 (0, 0)) (bx_ BK205) hg (Kd.R_ne HO214.out BK205.out (by decide)))
   replace HB := Aside0.mk (hb)
   clear HO214 ho hb hg hat
   obtain ⟨Ao68, co68, eo68⟩ := Kd.R_slice HO218.out
   subst eo68
   refine hK.out _ _ ?_
   clear hK K
   refine nz_ 54 ?_
   refine pz_ 9 55 ba9_24 HT_ ?_
   refine last_ (i := 10) (N := none) ba9_25 rfl rfl (one_of HT_.out (by kernel_rfl)) (by decide) (fun K hK => ?_)
   have hs69 : w67.cell? ⟨gb205, 0, none⟩ = some (.slice Ao63 y212.length co63) := bq5_ BK205 0
   have hfs69 := fz_ BK205 0
   have hns69_0 := NB194_205.out
   have hns69_1 := NB195_205.out
   have hns69_2 := NB196_205.out
   have hns69_3 := NB204_205.out
   have hms69_0 := NB205_194.out
   have hms69_1 := NB205_195.out
   have hms69_2 := NB205_196.out
   have hms69_3 := NB205_204.out
   refine skip_ (w1 := ?_) (by rfl) rfl ?_ ?_
   rotate_left; · go_simp; rfl
   refine hK.out _ _ ?_
   clear hK K
   refine done_ (done_of HT_.out (by kernel_rfl)) ?_
   go_wp2
   go_roundg k1
   case measure => have := HK1.out; omega
   case rel => exact ⟨(true), (wrap64 (x9_1 + 1)), (y216), (.slice Ao68 y216.length co68), er_, er_, H', ⟨by have := HK1.out; omega⟩, ⟨by (with_reducible repeat (first | apply Kd.R_alloc | apply Kd.R_drewN | apply Kd.R_drew)); exact Kd.R_mono (Kd.R_far (Kd.R_types HO_205000.out BK205.out (by decide)) (fun _ hk => hk.2) _) (fun _ hk => by first | exact ⟨hk.1.2, hk.1.1⟩ | grind)⟩, ⟨by (with_reducible repeat (first | apply Kd.R_alloc | apply Kd.R_drewN | apply Kd.R_drew)); exact Kd.R_mono (Kd.R_far (Kd.R_types HO218.out BK205.out (by decide)) (fun _ hk => hk.2) _) (fun _ hk => by first | exact ⟨hk.1.1, hk.1.2⟩ | grind)⟩, ⟨bc_ BK194⟩, ⟨bc_ BK195⟩, ⟨bc_ BK196⟩, ⟨bc_ BK204⟩, ⟨by refine bd_ ?_; refine blk_put (cs := #[.slice Ao63 y212.length co63]) ?_ 0 _ rfl; refine bd_ ?_; exact BK205.out⟩, ⟨bw112_⟩⟩

/-! ### spec_l01PickInt: function 43 -/
def spec_l01PickInt.f (s0_0 : List Int) (s0_1 : Int) (s0_2 : Int) (l1 : List Int) : Option (Int × Int × Int) := (spec_l01Below.f s0_0 s0_1 s0_2 (l1.length : Int)).bind fun bt230 => (if 0 ≤ bt230.1 then (if bt230.1 < (l1.length : Int) then (some (rd l1 bt230.1, bt230.2.1, bt230.2.2)) else (none)) else (none))
set_option maxHeartbeats 8000000 in
set_option maxRecDepth 100000 in
theorem spec_l01PickInt.calls (g : Nat) (s0_0 : List Int) (s0_1 : Int) (s0_2 : Int) (A1 : Option Addr) (c1 : Nat) (l1 : List Int) (r1 : Int) (r2 : Int) (r3 : Int) (w0 w : World) (hI : IsS112 w0 w g s0_0 s0_1 s0_2) (hB : Below w0.heap.size w0 w) (hr1 : Kd.C (Kd.int .i64) w A1 l1.length l1) (hc1 : l1.length ≤ c1) (hf1 : ∀ ad, A1 = some ad → 0 < l1.length → ad.block ≠ g) (h : spec_l01PickInt.f s0_0 s0_1 s0_2 l1 = some (r1, r2, r3)) :
  Calls Try.prog 43 #[.pointer (some ⟨g, 0, none⟩), .slice A1 l1.length c1] w fun e w' => e = .returned (.int .i64 r1) ∧ IsS112 w0 w' g s0_0 r2 r3 ∧ Below w0.heap.size w0 w' ∧ KeepBut w w' g none := by
 have HR1 := Aside0.mk hr1
 have HC1 := Aside0.mk hc1
 clear hr1 hc1
 have HI0 := Aside0.mk hI
 have HK := Aside0.mk (KeepBut.refl w g none)
 have HL := Aside0.mk hB.size
 clear hI
 have HW0 := Aside0.mk hB.size
 have HB := Aside0.mk hB
 clear hB
 have H : ((spec_l01Below.f s0_0 s0_1 s0_2 (l1.length : Int)).bind fun bt230 => (if 0 ≤ bt230.1 then (if bt230.1 < (l1.length : Int) then (some (rd l1 bt230.1, bt230.2.1, bt230.2.2)) else (none)) else (none))) = some (r1, r2, r3) := h
 clear h
 obtain ⟨⟨t230, t231, t232⟩, A3, H⟩ := ob_ H
 obtain ⟨c4b0, H⟩ := iq_ H
 obtain ⟨c5b0, H⟩ := iq_ H
 simp only [Option.some.injEq, Prod.mk.injEq] at H
 obtain ⟨rfl, rfl, rfl⟩ := H
 go_enter Try.func43, Try.ntmps43
 go_wp2_with ((with_reducible refine gate_callee (f := 44) rfl ?_); refine gl_ (some 9) Try.func44 #[.pointer (some ⟨g, 0, none⟩), .int .i64 (l1.length : Int)] ?_; (with_reducible refine (spec_l01Below.calls g s0_0 s0_1 s0_2 (l1.length : Int) t230 t231 t232 w0 _ ?side1 ?side2 A3.out).mono ?_); (case side1 => exact is112_); (case side2 => exact bw112_); rintro e w6 ⟨rfl, hi, hb, hk⟩; refine ⟨_, rfl, ?_⟩; replace HK := kt_ HK hk; replace HB := Aside0.mk (hb); replace HI0 := Aside0.mk (hi); clear hb hk hi; have p233 : 0 ≤ (t230 : Int) := oa_; have q233 : t230 < (l1.length : Int) := oa_; obtain ⟨ad233, e233, hx233_0⟩ := Kd.at_int HR1.out t230 p233 q233; cases e233; replace hx233_0 := keep_cell HK.out hx233_0 (by first | (rw [add_block]; exact hf1 _ rfl (by omega)) | exact hf1 _ rfl (by omega) | exact hf1 ad233 rfl (by omega)); obtain ⟨p233, q233⟩ := et_ p233 q233)
 go_ret
 exact ⟨by first | rfl | (simp [errW_none, errW_some] <;> rfl) | (simp [*, errW_none, errW_some] <;> rfl), is112_, bw112_, kx_ HK⟩

/-! ### spec_l01Once: function 81 -/
def spec_l01Once.f (s0_0 : List Int) (s0_1 : Int) (s0_2 : Int) (a1 : Int) : Option (Bool × Int × Int) := (spec_l01Below.f s0_0 s0_1 s0_2 a1).bind fun bt234 => (some ((bt234.1 == 0), bt234.2.1, bt234.2.2))
set_option maxHeartbeats 8000000 in
set_option maxRecDepth 100000 in
theorem spec_l01Once.calls (g : Nat) (s0_0 : List Int) (s0_1 : Int) (s0_2 : Int) (a1 : Int) (r1 : Bool) (r2 : Int) (r3 : Int) (w0 w : World) (hI : IsS112 w0 w g s0_0 s0_1 s0_2) (hB : Below w0.heap.size w0 w) (h : spec_l01Once.f s0_0 s0_1 s0_2 a1 = some (r1, r2, r3)) :
  Calls Try.prog 81 #[.pointer (some ⟨g, 0, none⟩), .int .i64 a1] w fun e w' => e = .returned (.bool r1) ∧ IsS112 w0 w' g s0_0 r2 r3 ∧ Below w0.heap.size w0 w' ∧ KeepBut w w' g none := by
 have HI0 := Aside0.mk hI
 have HK := Aside0.mk (KeepBut.refl w g none)
 have HL := Aside0.mk hB.size
 clear hI
 have HW0 := Aside0.mk hB.size
 have HB := Aside0.mk hB
 clear hB
 have H : ((spec_l01Below.f s0_0 s0_1 s0_2 a1).bind fun bt234 => (some ((bt234.1 == 0), bt234.2.1, bt234.2.2))) = some (r1, r2, r3) := h
 clear h
 obtain ⟨⟨t234, t235, t236⟩, A3, H⟩ := ob_ H
 simp only [Option.some.injEq, Prod.mk.injEq] at H
 obtain ⟨rfl, rfl, rfl⟩ := H
 go_enter Try.func81, Try.ntmps81
 go_wp2_with ((with_reducible refine gate_callee (f := 44) rfl ?_); refine gl_ (some 7) Try.func44 #[.pointer (some ⟨g, 0, none⟩), .int .i64 a1] ?_; (with_reducible refine (spec_l01Below.calls g s0_0 s0_1 s0_2 a1 t234 t235 t236 w0 _ ?side1 ?side2 A3.out).mono ?_); (case side1 => exact is112_); (case side2 => exact bw112_); rintro e w4 ⟨rfl, hi, hb, hk⟩; refine ⟨_, rfl, ?_⟩; replace HK := kt_ HK hk; replace HB := Aside0.mk (hb); replace HI0 := Aside0.mk (hi); clear hb hk hi)
 go_ret
 exact ⟨by first | rfl | (simp [errW_none, errW_some] <;> rfl) | (simp [*, errW_none, errW_some] <;> rfl), is112_, bw112_, kx_ HK⟩

end Go.Proofs.Ytjepmdngbafonaa.QFnSqueezed
