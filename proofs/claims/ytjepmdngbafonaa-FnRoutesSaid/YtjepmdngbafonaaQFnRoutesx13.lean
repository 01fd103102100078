/- Contracts of functions that the law reaches: what each call returns and what it leaves in memory. Made by this session over the print of the kit. -/
import Derived.Test.YtjepmdngbafonaaQFnRoutesx0
import Derived.Test.YtjepmdngbafonaaQFnRoutesx2
import Derived.Test.YtjepmdngbafonaaQFnRoutesx11
namespace Go.Proofs.Ytjepmdngbafonaa.QFnRoutes
open Go.RowKit Go.Proofs.YtjepmdngbafonaaR.PrintWords Go.Proofs.YtjepmdngbafonaaR.PrintLast Go.Proofs.YtjepmdngbafonaaR.PrintMore
attribute [local go_sem] max2_int min2_int max_two min_two max_three min_three max_four min_four   -- for this text's walks alone
set_option linter.unusedVariables false
set_option linter.unusedSimpArgs false
def ba13_0 : Array Bool := bs_ 8 0
def ba13_1 : Array Bool := bs_ 8 1
def ba13_2 : Array Bool := bs_ 8 3
def ba13_3 : Array Bool := bs_ 8 7
def ba13_4 : Array Bool := bs_ 8 15
def ba13_5 : Array Bool := bs_ 8 31
def ba13_6 : Array Bool := bs_ 8 63
def ba13_7 : Array Bool := bs_ 8 127
def ba13_8 : Array Bool := bs_ 8 255
def ba13_9 : Array Bool := bs_ 16 0
def ba13_10 : Array Bool := bs_ 16 1
def ba13_11 : Array Bool := bs_ 16 3
def ba13_12 : Array Bool := bs_ 16 7
def ba13_13 : Array Bool := bs_ 16 15
def ba13_14 : Array Bool := bs_ 16 31
def ba13_15 : Array Bool := bs_ 16 63
def ba13_16 : Array Bool := bs_ 16 127
def ba13_17 : Array Bool := bs_ 16 255
def ba13_18 : Array Bool := bs_ 16 511
def ba13_19 : Array Bool := bs_ 16 1023
def ba13_20 : Array Bool := bs_ 16 2047
def ba13_21 : Array Bool := bs_ 16 4095
def ba13_22 : Array Bool := bs_ 16 8191
def ba13_23 : Array Bool := bs_ 16 16383
def ba13_24 : Array Bool := bs_ 16 32767
def ba13_25 : Array Bool := bs_ 16 65535

/-! ### slices_Clone_impl_Route_impl_Route: function 89 -/
theorem nilq24 (w : World) (a : Option Addr) (n c n' c' : Nat) : (binOp .eql 24 (.slice a n c) (.slice none n' c')).run Try.prog w = .ok (.bool a.isNone) w := Lib.run_eql_slice_nil w _ _ a n c n' c' Try.underlying24
attribute [local go_sem] nilq24
def slices_Clone_impl_Route_impl_Route.f (l0 : List S30) : Option (List S30) := if l0.length ≤ 1048576 then some l0 else none
set_option maxHeartbeats 1000000 in
set_option maxRecDepth 100000 in
theorem slices_Clone_impl_Route_impl_Route.calls (A0 : Option Addr) (c0 : Nat) (l0 : List S30) (r : List S30) (w : World) (hr0 : Kd.C k30 w A0 l0.length l0) (hc0 : l0.length ≤ c0) (h : slices_Clone_impl_Route_impl_Route.f l0 = some r) :
  Calls Try.prog 89 #[.slice A0 l0.length c0] w fun e w' => ∃ v0_ : Value, e = .returned (v0_) ∧ Kd.R k30 30 w' w.heap.size (fun _ => True) v0_ r ∧ Below w.heap.size w w' := by
 unfold slices_Clone_impl_Route_impl_Route.f at h
 by_cases hl : l0.length ≤ 1048576
 rotate_left
 ·rw [if_neg hl] at h; cases h
 rw [if_pos hl] at h
 obtain rfl := Option.some.inj h
 have HB := Aside0.mk (Below.refl w.heap.size w)
 rcases A0 with _ | ad
 ·have h0 : l0.length = 0 := by
   rcases Nat.eq_zero_or_pos l0.length with h0 | h0
   ·exact h0
   ·obtain ⟨ad, c, e, _⟩ := Kd.C_get hr0 z30 0 (by omega) (by omega)
    cases e
  obtain rfl : l0 = [] := List.eq_nil_of_length_eq_zero h0
  go_enter Try.func89, Try.ntmps89
  go_wp2
  go_ret
  exact ⟨_, rfl, Kd.R_nil _ _ _ _ _, HB.out⟩
 ·have HR0 := Aside0.mk hr0
  go_enter Try.func89, Try.ntmps89
  go_wp2_with (first | ((with_reducible refine gate_dst (N := 5) rfl ?_); refine Kd.R_lit k30 (w0 := w) w.heap.size 30 ?hg (N := 5) ?hd (xs := ([] : List S30)) (inner := []) (ok := fun _ => True) (okp := fun _ => True) ?hr ?hp (fun _ hk => hk) trivial (Below.refl _ _) (Nat.le_refl _) (by simp) ?_; (case hd => rfl); (case hg => rfl); (case hr => first | (go_simp; done) | (go_simp; rfl)); (case hp => exact (Reps.none _ _)); intro v1 w1 ho1 hb1 hg_ hnew_; clear hg_ hnew_; have HO1 := Aside0.mk ho1; have HB1 := Aside0.mk hb1; clear ho1 hb1 HB) | ((with_reducible refine gate_builtin (b := .append) (xs := #[.tmp 5, .tmp 6]) rfl ?_); at_builtin; refine Kd.R_append_rows k30 (w0 := w) w.heap.size rfl (.tmp 5) (.tmp 6) 24 30 (.agg #[(.int .i64 0), (.int .i64 0), (.int .i64 0)]) 24 rfl Try.underlying24 info30 rfl (by decide) (by omega) v1 [] l0 _ _ _ (fun _ => True) (fun _ => False) rfl rfl ?aO ?aR (fun _ _ h => h) (fun _ h => h.elim) ?aF ?aB ?aS ?aL ?_; (case aR => exact Kd.C_below HR0.out HB1.out); (case aB => exact HB1.out); (case aF => exact (fun _ _ => trivial)); (case aO => exact HO1.out); (case aS => exact below_size HB1.out); (case aL => simp; omega); intro v2 w2 ho2 hb2 hg hat; have HO2 := Aside0.mk ho2; have HB2 := Aside0.mk hb2; clear ho2 hb2 hg hat))
  go_ret
  exact ⟨_, rfl, HO2.out, HB2.out⟩

/-! ### impl_ownTable: function 50 -/
def impl_ownTable.f (l0_0 : List (S30)) : Option ((List (S30))) := (slices_Clone_impl_Route_impl_Route.f l0_0).bind fun t403 => (some t403)
set_option maxHeartbeats 8000000 in
set_option maxRecDepth 100000 in
theorem impl_ownTable.calls (A0_0 : Option Addr) (c0_0 : Nat) (l0_0 : List (S30)) (r : List (S30)) (w : World) (hr0_0 : Kd.C k30 w A0_0 l0_0.length l0_0) (hc0_0 : l0_0.length ≤ c0_0) (h : impl_ownTable.f l0_0 = some r) :
  Calls Try.prog 50 #[.agg #[.slice A0_0 l0_0.length c0_0]] w fun e w' => ∃ v0_ : Value, e = .returned (.agg #[v0_]) ∧ Kd.R k30 30 w' w.heap.size (fun _ => True) v0_ r ∧ Below w.heap.size w w' := by
 have hu26 := Try.underlying26
 have HR0_0 := Aside0.mk hr0_0
 have HC0_0 := Aside0.mk hc0_0
 clear hr0_0 hc0_0
 have HB := Aside0.mk (Below.refl w.heap.size w)
 have H : ((slices_Clone_impl_Route_impl_Route.f l0_0).bind fun t403 => (some t403)) = some r := h
 clear h
 replace H := Option.bind_eq_some_iff.mp H
 obtain ⟨t403, A20, H⟩ := H
 have A2 := Aside0.mk A20
 clear A20
 obtain rfl := Option.some.inj H
 go_enter Try.func50, Try.ntmps50
 go_wp2_with (first | ((with_reducible refine gate_dst (N := 1) rfl ?_); refine box_event ?hg (N := 1) ?hd (cs := #[.slice A0_0 l0_0.length c0_0]) (t := 26) ?hr ?_; (case hd => rfl); (case hg => rfl); (case hr => first | (go_simp; done) | (go_simp; rfl)); intro gb401 hg w3 hbox hb; have BK401 := Aside0.mk hbox; have GW401 := ge_ HB hg; have GE401 := ge_ HB hg; replace HB := at_ HB hb; clear hb hbox hg) | ((with_reducible refine gate_dst (N := 2) rfl ?_); refine box_event ?hg (N := 2) ?hd (cs := #[.slice none 0 0]) (t := 26) ?hr ?_; (case hd => rfl); (case hg => rfl); (case hr => first | (go_simp; done) | (go_simp; rfl)); intro gb402 hg w4 hbox hb; have BK402 := Aside0.mk hbox; have GW402 := ge_ HB hg; have GE402 := ge_ HB hg; have NB401_402 := nl_ BK401 hg; have NB402_401 := ng_ BK401 hg; replace HB := at_ HB hb; replace BK401 := ab_ BK401 hb; clear hb hbox hg; have hnb5 := NB401_402.out; have hnc5 := NB402_401.out; have hcz6_0 := cz_ BK401 0 (.slice A0_0 l0_0.length c0_0); have hfz6_0 := fz_ BK401 0) | ((with_reducible refine gate_callee (f := 89) rfl ?_); refine gl_ (some 5) Try.func89 #[.slice A0_0 l0_0.length c0_0] ?_; (with_reducible refine (slices_Clone_impl_Route_impl_Route.calls _ _ l0_0 t403 _ ?side1 ?side2 A2.out).mono ?_); (case side1 => exact cb_ HR0_0 HB); (case side2 => exact HC0_0.out); rintro e w7 ⟨v404, rfl, ho0, hb⟩; refine ⟨_, rfl, ?_⟩; have HO405 := Aside0.mk (Kd.R_lower ho0 (bz_ HB)); replace BK401 := ab_ BK401 hb; replace BK402 := ab_ BK402 hb; replace HB := at_ HB hb; (try clear hb); (try clear hb2); (try clear hk); (try clear hi); (try clear ho0); obtain ⟨Ao8, co8, eo8⟩ := Kd.R_slice HO405.out; subst eo8; have hcz9_0 := cz_ BK402 0 (.slice none 0 0); have hfz9_0 := fz_ BK402 0))
 refine bodyPost_ret (results_cell_row rfl _ _ gb402 26 #[.slice Ao8 t403.length co8] (0, 0) _ rfl (by refine bd_ ?_; refine blk_put (cs := #[.slice none 0 0]) ?_ 0 _ rfl; refine bd_ ?_; exact BK402.out) Try.underlying26 rfl (by kernel_rfl)) rfl ?_
 exact ⟨_, by first | rfl | (simp [errW_none, errW_some] <;> rfl) | (simp [*, errW_none, errW_some] <;> rfl), by (with_reducible repeat (first | apply Kd.R_alloc | apply Kd.R_drewN | apply Kd.R_drew)); exact Kd.R_mono (Kd.R_far (p := ⟨gb402, 0, none⟩) (Kd.R_types HO405.out BK402.out (by decide)) (fun _ hk => hk.2) (.slice Ao8 t403.length co8)) (fun _ hk => trivial), bw112_⟩

/-! ### impl_findRoute_1: function 91 -/
def impl_findRoute_1.f (a0_0 : Int) (a0_1 : Int) (a0_2 : Int) (a1_0 : Int) (a1_1 : Int) : Option (Int) := (impl_comparePrefixes.f a0_0 a0_1 a1_0 a1_1).bind fun t408 => (some t408)
set_option maxHeartbeats 8000000 in
set_option maxRecDepth 100000 in
theorem impl_findRoute_1.calls (a0_0 : Int) (a0_1 : Int) (a0_2 : Int) (a1_0 : Int) (a1_1 : Int) (r : Int) (w : World) (h : impl_findRoute_1.f a0_0 a0_1 a0_2 a1_0 a1_1 = some r) :
  Calls Try.prog 91 #[.agg #[.int .i64 a0_0, .int .i64 a0_1, .int .i64 a0_2], .agg #[.int .i64 a1_0, .int .i64 a1_1]] w fun e w' => e = .returned (.int .i64 r) ∧ Below w.heap.size w w' := by
 have hu30 := Try.underlying30
 have hu28 := Try.underlying28
 have HB := Aside0.mk (Below.refl w.heap.size w)
 have H : ((impl_comparePrefixes.f a0_0 a0_1 a1_0 a1_1).bind fun t408 => (some t408)) = some r := h
 clear h
 replace H := Option.bind_eq_some_iff.mp H
 obtain ⟨t408, A30, H⟩ := H
 have A3 := Aside0.mk A30
 clear A30
 obtain rfl := Option.some.inj H
 go_enter Try.func91, Try.ntmps91
 go_wp2_with (first | ((with_reducible refine gate_dst (N := 2) rfl ?_); refine box_event ?hg (N := 2) ?hd (cs := #[.int .i64 a0_0, .int .i64 a0_1, .int .i64 a0_2]) (t := 30) ?hr ?_; (case hd => rfl); (case hg => rfl); (case hr => first | (go_simp; done) | (go_simp; rfl)); intro gb406 hg w4 hbox hb; have BK406 := Aside0.mk hbox; have GW406 := ge_ HB hg; have GE406 := ge_ HB hg; replace HB := at_ HB hb; clear hb hbox hg) | ((with_reducible refine gate_dst (N := 3) rfl ?_); refine box_event ?hg (N := 3) ?hd (cs := #[.int .i64 a1_0, .int .i64 a1_1]) (t := 28) ?hr ?_; (case hd => rfl); (case hg => rfl); (case hr => first | (go_simp; done) | (go_simp; rfl)); intro gb407 hg w5 hbox hb; have BK407 := Aside0.mk hbox; have GW407 := ge_ HB hg; have GE407 := ge_ HB hg; have NB406_407 := nl_ BK406 hg; have NB407_406 := ng_ BK406 hg; replace HB := at_ HB hb; replace BK406 := ab_ BK406 hb; clear hb hbox hg; have hnb6 := NB406_407.out; have hnc6 := NB407_406.out; have hcz7_0 := cz_ BK406 0 (.int .i64 a0_0); have hcz7_1 := cz_ BK406 1 (.int .i64 a0_1); have hcz7_2 := cz_ BK406 2 (.int .i64 a0_2); have hfz7_0 := fz_ BK406 0; have hfz7_1 := fz_ BK406 1; have hfz7_2 := fz_ BK406 2; have hcz8_0 := cz_ BK407 0 (.int .i64 a1_0); have hcz8_1 := cz_ BK407 1 (.int .i64 a1_1); have hfz8_0 := fz_ BK407 0; have hfz8_1 := fz_ BK407 1) | ((with_reducible refine gate_callee (f := 77) rfl ?_); refine gl_ (some 8) Try.func77 #[.agg #[.int .i64 a0_0, .int .i64 a0_1], .agg #[.int .i64 a1_0, .int .i64 a1_1]] ?_; (with_reducible refine (impl_comparePrefixes.calls a0_0 a0_1 a1_0 a1_1 t408 _ A3.out).mono ?_); rintro e w9 ⟨rfl, hb⟩; refine ⟨_, rfl, ?_⟩; replace BK406 := ab_ BK406 hb; replace BK407 := ab_ BK407 hb; replace HB := at_ HB hb; (try clear hb); (try clear hb2); (try clear hk); (try clear hi)))
 go_ret
 exact ⟨by first | rfl | (simp [errW_none, errW_some] <;> rfl) | (simp [*, errW_none, errW_some] <;> rfl), bw112_⟩

/-! ### slices_BinarySearchFunc_impl_Route_impl_Route_impl_Prefix: function 90 -/
def slices_BinarySearchFunc_impl_Route_impl_Route_impl_Prefix.l0 : Nat → List (S30) → Int → Int → Int → Int → Int → Option (Int × Bool)
 | 0, _, _, _, _, _, _ => none
 | k + 1, x0, x8, x9, x10, x410000, x410001 => if x9 < x10 then (if 0 ≤ (wrap64 ((IntKind.u64.wrap (wrap64 (x9 + x10))) / 2)) then (if (wrap64 ((IntKind.u64.wrap (wrap64 (x9 + x10))) / 2)) < (x0.length : Int) then ((impl_findRoute_1.f ((rd_T30 x0 (wrap64 ((IntKind.u64.wrap (wrap64 (x9 + x10))) / 2))).f0.f0) ((rd_T30 x0 (wrap64 ((IntKind.u64.wrap (wrap64 (x9 + x10))) / 2))).f0.f1) ((rd_T30 x0 (wrap64 ((IntKind.u64.wrap (wrap64 (x9 + x10))) / 2))).f1) x410000 x410001).bind fun t411 => (if t411 < 0 then (slices_BinarySearchFunc_impl_Route_impl_Route_impl_Prefix.l0 k x0 x8 (wrap64 ((wrap64 ((IntKind.u64.wrap (wrap64 (x9 + x10))) / 2)) + 1)) x10 x410000 x410001) else (slices_BinarySearchFunc_impl_Route_impl_Route_impl_Prefix.l0 k x0 x8 x9 (wrap64 ((IntKind.u64.wrap (wrap64 (x9 + x10))) / 2)) x410000 x410001))) else (none)) else (none)) else (if x9 < x8 then (if 0 ≤ x9 then (if x9 < (x0.length : Int) then ((impl_findRoute_1.f ((rd_T30 x0 x9).f0.f0) ((rd_T30 x0 x9).f0.f1) ((rd_T30 x0 x9).f1) x410000 x410001).bind fun t413 => (some (x9, (t413 == 0)))) else (none)) else (none)) else (some (x9, false)))
def slices_BinarySearchFunc_impl_Route_impl_Route_impl_Prefix.f (k : Nat) (l0 : List (S30)) (a1_0 : Int) (a1_1 : Int)  : Option (Int × Bool) := slices_BinarySearchFunc_impl_Route_impl_Route_impl_Prefix.l0 k l0 (l0.length : Int) 0 (l0.length : Int) a1_0 a1_1
theorem slices_BinarySearchFunc_impl_Route_impl_Route_impl_Prefix.mono_l : ∀ k, (∀ y0 y1 y2 y3 y4 y5, LeO (slices_BinarySearchFunc_impl_Route_impl_Route_impl_Prefix.l0 k y0 y1 y2 y3 y4 y5) (slices_BinarySearchFunc_impl_Route_impl_Route_impl_Prefix.l0 (k + 1) y0 y1 y2 y3 y4 y5))
 | 0 => fun _ _ _ _ _ _ r h => by simp [slices_BinarySearchFunc_impl_Route_impl_Route_impl_Prefix.l0] at h
 | k + 1 => by
  have ih0 := slices_BinarySearchFunc_impl_Route_impl_Route_impl_Prefix.mono_l k
  ·intro y0 y1 y2 y3 y4 y5
   unfold slices_BinarySearchFunc_impl_Route_impl_Route_impl_Prefix.l0
   repeat' first | (with_reducible first | exact ih0 _ _ _ _ _ _ | exact LeO.refl _ | exact LeO.none _ | refine LeO.ite ?_ ?_ | refine LeO.bind ?_ (fun _ => ?_)) | exact ih0 _ _ _ _ _ _ | exact LeO.none _ | refine LeO.ite ?_ ?_ | refine LeO.bind ?_ (fun _ => ?_)
theorem slices_BinarySearchFunc_impl_Route_impl_Route_impl_Prefix.mono : ∀ a0 a1 a2 k, LeO (slices_BinarySearchFunc_impl_Route_impl_Route_impl_Prefix.f k a0 a1 a2) (slices_BinarySearchFunc_impl_Route_impl_Route_impl_Prefix.f (k + 1) a0 a1 a2) := by
 intro a0 a1 a2 k
 have ih0 := slices_BinarySearchFunc_impl_Route_impl_Route_impl_Prefix.mono_l k
 unfold slices_BinarySearchFunc_impl_Route_impl_Route_impl_Prefix.f
 repeat' first | (with_reducible first | exact ih0 _ _ _ _ _ _ | exact LeO.refl _ | exact LeO.none _ | refine LeO.ite ?_ ?_ | refine LeO.bind ?_ (fun _ => ?_)) | exact ih0 _ _ _ _ _ _ | exact LeO.none _ | refine LeO.ite ?_ ?_ | refine LeO.bind ?_ (fun _ => ?_)
def slices_BinarySearchFunc_impl_Route_impl_Route_impl_Prefix.T5 : Bool × List (List Nat × List Nat) := (true, [([], []), ([], []), ([], []), ([1, 2], [1, 2]), ([3], [3]), ([], []), ([0, 4, 5], [0, 4, 5]), ([6], [6])])
def slices_BinarySearchFunc_impl_Route_impl_Route_impl_Prefix.B5 : List Nat := [0, 0, 0, 6, 14, 0, 63, 127]
theorem slices_BinarySearchFunc_impl_Route_impl_Route_impl_Prefix.tab5 : rtab .any (opsOf Try.f90 5) = slices_BinarySearchFunc_impl_Route_impl_Route_impl_Prefix.T5 := by kernel_rfl
theorem slices_BinarySearchFunc_impl_Route_impl_Route_impl_Prefix.bits5 : waitsOk slices_BinarySearchFunc_impl_Route_impl_Route_impl_Prefix.T5.2 slices_BinarySearchFunc_impl_Route_impl_Route_impl_Prefix.B5 = true := by kernel_rfl
def slices_BinarySearchFunc_impl_Route_impl_Route_impl_Prefix.T8 : Bool × List (List Nat × List Nat) := (true, [([], []), ([], []), ([], []), ([1, 2], [1, 2]), ([3], [3]), ([4], [4]), ([4], [4]), ([4], [4]), ([6, 7, 4], [4, 6, 7]), ([8, 4], [4, 8]), ([4], [4]), ([5, 9, 10, 4, 4], [4, 5, 9, 10]), ([11, 4], [4, 11]), ([4, 12], [4, 12]), ([0, 11, 0], [0]), ([13, 14, 0, 1, 2, 3, 4, 5, 6, 7, 8, 9, 10, 11, 12, 13, 14], [13])])
def slices_BinarySearchFunc_impl_Route_impl_Route_impl_Prefix.B8 : List Nat := [0, 0, 0, 6, 14, 30, 30, 30, 222, 478, 30, 2046, 4094, 8190, 4095, 32767]
theorem slices_BinarySearchFunc_impl_Route_impl_Route_impl_Prefix.tab8 : rtab .any (opsOf Try.f90 8) = slices_BinarySearchFunc_impl_Route_impl_Route_impl_Prefix.T8 := by kernel_rfl
theorem slices_BinarySearchFunc_impl_Route_impl_Route_impl_Prefix.bits8 : waitsOk slices_BinarySearchFunc_impl_Route_impl_Route_impl_Prefix.T8.2 slices_BinarySearchFunc_impl_Route_impl_Route_impl_Prefix.B8 = true := by kernel_rfl
set_option maxHeartbeats 8000000 in
set_option maxRecDepth 100000 in
theorem slices_BinarySearchFunc_impl_Route_impl_Route_impl_Prefix.calls (k : Nat) (A0 : Option Addr) (c0 : Nat) (l0 : List (S30)) (a1_0 : Int) (a1_1 : Int)  (r1 : Int) (r2 : Bool) (w : World) (hr0 : Kd.C k30 w A0 l0.length l0) (hc0 : l0.length ≤ c0) (h : slices_BinarySearchFunc_impl_Route_impl_Route_impl_Prefix.f k l0 a1_0 a1_1 = some (r1, r2)) :
  Calls Try.prog 90 #[.slice A0 l0.length c0, .agg #[.int .i64 a1_0, .int .i64 a1_1], .func (.func 91) #[] #[]] w fun e w' => e = .returned (.tuple #[.int .i64 r1, .bool r2]) ∧ Below w.heap.size w w' := by
 have hu28 := Try.underlying28
 have hu30 := Try.underlying30
 have HR0 := Aside0.mk hr0
 have HC0 := Aside0.mk hc0
 clear hr0 hc0
 have HB := Aside0.mk (Below.refl w.heap.size w)
 have H : (slices_BinarySearchFunc_impl_Route_impl_Route_impl_Prefix.l0 k l0 (l0.length : Int) 0 (l0.length : Int) a1_0 a1_1) = some (r1, r2) := h
 clear h
 have H' := Aside0.mk H
 clear H
 go_enter Try.func90, Try.ntmps90
 go_wp2_with ((with_reducible refine gate_dst (N := 4) rfl ?_); refine box_event ?hg (N := 4) ?hd (cs := #[.int .i64 a1_0, .int .i64 a1_1]) (t := 28) ?hr ?_; (case hd => rfl); (case hg => rfl); (case hr => first | (go_simp; done) | (go_simp; rfl)); intro gb409 hg w4 hbox hb; have BK409 := Aside0.mk hbox; have GW409 := ge_ HB hg; have GE409 := ge_ HB hg; replace HB := at_ HB hb; clear hb hbox hg)
 go_loopg [9, 10] k (fun kq v9 v10 w' => ∃ (x9_1 : Int) (x10_1 : Int), v9 = .int .i64 x9_1 ∧ v10 = .int .i64 x10_1 ∧ Aside0 (slices_BinarySearchFunc_impl_Route_impl_Route_impl_Prefix.l0 kq l0 (l0.length : Int) x9_1 x10_1 a1_0 a1_1 = some (r1, r2)) ∧ Aside0 (kq ≤ k) ∧ Aside0 (w'.heap[gb409]? = some (.cells #[.int .i64 a1_0, .int .i64 a1_1] 28 (0, 0))) ∧ Aside0 (Below w.heap.size w w'))
 case atStart => exact ⟨(0), ((l0.length : Int)), er_, er_, H', ⟨Nat.le_refl _⟩, ⟨bx_ BK409⟩, ⟨bw112_⟩⟩
 case round =>
  clear H'
  try clear p2
  obtain ⟨x9_1, x10_1, rfl, rfl, HA, HK1, BK409, HB⟩ := hrel
  cases gk with
  | zero => exact absurd HA.out (by simp [slices_BinarySearchFunc_impl_Route_impl_Route_impl_Prefix.l0])
  | succ k1 =>
   have H := HA.out
   clear HA
   simp only [slices_BinarySearchFunc_impl_Route_impl_Route_impl_Prefix.l0] at H
   by_cases c5 : x9_1 < x10_1
   ·rw [if_pos c5] at H
    have c5b0 : decide (x9_1 < x10_1) = true := decide_eq_true c5
    clear c5
    obtain ⟨ji6, hji6⟩ : ∃ j_ : Int, (wrap64 ((IntKind.u64.wrap (wrap64 (x9_1 + x10_1))) / 2)) = j_ := ⟨_, rfl⟩
    first | rw [hji6] at H | simp only [hji6] at H
    have hji6w : (IntKind.i64.wrap ((IntKind.u64.wrap (wrap64 (x9_1 + x10_1))) / 2)) = ji6 := (i64_w _).trans hji6
    obtain ⟨c7b0, H⟩ := iq_ H
    obtain ⟨c8b0, H⟩ := iq_ H
    replace H := Option.bind_eq_some_iff.mp H
    obtain ⟨t411, A90, H⟩ := H
    have A9 := Aside0.mk A90
    clear A90
    have Hh_ := Aside0.mk H
    clear H
    try go_wp2
    replace BK409 := ad_ BK409
    replace HB := Aside0.mk (below_drew1 HB.out)
    have p410 : 0 ≤ ((ji6) : Int) := oa_
    have q410 : (ji6) < (l0.length : Int) := oa_
    obtain ⟨ad410, e410, hx410_0, hx410_1, hx410_2⟩ := at_T30 HR0.out (ji6) p410 q410
    have hw410_2 := hx410_2
    have hw410_1 := hx410_1
    have hw410_0 := hx410_0
    cases e410
    replace hx410_0 := (HB.out.cell (World.block_lt_of_cell? w _ hx410_0)).trans hx410_0
    replace hx410_1 := (HB.out.cell (World.block_lt_of_cell? w _ hx410_1)).trans hx410_1
    replace hx410_2 := (HB.out.cell (World.block_lt_of_cell? w _ hx410_2)).trans hx410_2
    replace p410 := eq_true p410
    replace q410 := eq_true q410
    refine start_ (n := 8) (S := fun w' => w'.cell? ⟨gb409, 0, none⟩ = some (.int .i64 a1_0) ∧ w'.cell? ⟨gb409, 1, none⟩ = some (.int .i64 a1_1) ∧ w'.cell? (ad410.add (((ji6)).toNat * 3)) = some (.int .i64 ((rd_T30 l0 (ji6)).f0.f0)) ∧ w'.cell? ⟨(ad410.add (((ji6)).toNat * 3)).block, (ad410.add (((ji6)).toNat * 3)).off + 1, none⟩ = some (.int .i64 ((rd_T30 l0 (ji6)).f0.f1)) ∧ w'.cell? ⟨(ad410.add (((ji6)).toNat * 3)).block, (ad410.add (((ji6)).toNat * 3)).off + 2, none⟩ = some (.int .i64 ((rd_T30 l0 (ji6)).f1))) (ds := []) ba13_0 (by kernel_rfl) rfl rfl ⟨(blk_cell BK409.out 0).trans rfl, (blk_cell BK409.out 1).trans rfl, (hc_ HB hw410_0), (hc_ HB hw410_1), (hc_ HB hw410_2)⟩ (fun hHeld => ?_); refine with_tabW slices_BinarySearchFunc_impl_Route_impl_Route_impl_Prefix.tab5 slices_BinarySearchFunc_impl_Route_impl_Route_impl_Prefix.bits5 (fun HT_ HW_ => ?_)
    generalize wr.drew = w11 at BK409 HB hx410_0 hx410_1 hx410_2 hHeld ⊢
    refine pz_ 0 24 ba13_1 HT_ ?_
    refine pz_ 1 25 ba13_2 HT_ ?_
    refine pz_ 2 26 ba13_3 HT_ ?_
    refine pz_ 3 27 ba13_4 HT_ ?_
    refine pt_ 4 28 ba13_5 HT_ HW_ hHeld ?_
    refine pt_ 5 29 ba13_6 HT_ HW_ hHeld ?_
    refine one_ (i := 6) (N := some 30) ba13_7 rfl rfl (one_of HT_.out (by kernel_rfl)) (by decide) (fun K hK => ?_)
    refine goesU_ Try.func91 (by kernel_rfl) rfl #[.agg #[.int .i64 ((rd_T30 l0 (ji6)).f0.f0), .int .i64 ((rd_T30 l0 (ji6)).f0.f1), .int .i64 ((rd_T30 l0 (ji6)).f1)], .agg #[.int .i64 a1_0, .int .i64 a1_1]] (by rfl) rfl rfl (by (try simp only [List.map_toArray, List.map_cons, List.map_nil]); first | done | (simp only [hji6]; rfl) | rfl | (simp only [List.length_drop, List.length_take]; rfl)) ?_
    with_reducible refine (impl_findRoute_1.calls ((rd_T30 l0 (ji6)).f0.f0) ((rd_T30 l0 (ji6)).f0.f1) ((rd_T30 l0 (ji6)).f1) a1_0 a1_1 t411 _ A9.out).mono ?_
    rintro e w12 ⟨rfl, hb⟩
    refine ⟨_, rfl, ?_⟩
    replace BK409 := ab_ BK409 hb
    replace HB := at_ HB hb
    (try clear hb)
    (try clear hb2)
    (try clear hk)
    (try clear hi)
    refine hK.out _ _ ⟨(blk_cell BK409.out 0).trans rfl, (blk_cell BK409.out 1).trans rfl, (hc_ HB hw410_0), (hc_ HB hw410_1), (hc_ HB hw410_2)⟩ (fun hHeld => ?_)
    clear hK K
    refine nz_ 30 ?_
    have H := Hh_.out
    clear Hh_
    by_cases c10 : t411 < 0
    ·rw [if_pos c10] at H
     have c10b0 : decide (t411 < 0) = true := decide_eq_true c10
     clear c10
     have H' := Aside0.mk H
     clear H
     refine pz_ 7 31 ba13_8 HT_ ?_
     refine done_ (done_of HT_.out (by kernel_rfl)) ?_
     try go_wp2
     go_roundg k1
     case measure => have := HK1.out; omega
     case rel => exact ⟨(wrap64 ((ji6) + 1)), (x10_1), (by first | rfl | (simp; done) | (simp only [← hji6] <;> (first | rfl | simp)) | (simp [*]; done)), er_, H', ⟨by have := HK1.out; omega⟩, ⟨bx_ BK409⟩, ⟨bw112_⟩⟩
    rw [if_neg c10] at H
    have c10b0 : decide (t411 < 0) = false := decide_eq_false c10
    clear c10
    have H' := Aside0.mk H
    clear H
    refine pz_ 7 31 ba13_8 HT_ ?_
    refine done_ (done_of HT_.out (by kernel_rfl)) ?_
    try go_wp2
    go_roundg k1
    case measure => have := HK1.out; omega
    case rel => exact ⟨(x9_1), (ji6), er_, (by first | rfl | (simp; done) | (simp only [← hji6] <;> (first | rfl | simp)) | (simp [*]; done)), H', ⟨by have := HK1.out; omega⟩, ⟨bx_ BK409⟩, ⟨bw112_⟩⟩
   rw [if_neg c5] at H
   have c5b0 : decide (x9_1 < x10_1) = false := decide_eq_false c5
   clear c5
   by_cases c15 : x9_1 < (l0.length : Int)
   rotate_left
   ·rw [if_neg c15] at H
    have c15b0 : decide (x9_1 < (l0.length : Int)) = false := decide_eq_false c15
    clear c15
    simp only [Option.some.injEq, Prod.mk.injEq] at H
    obtain ⟨rfl, rfl⟩ := H
    try go_wp2
    replace BK409 := ad_ BK409
    replace HB := Aside0.mk (below_drew1 HB.out)
    refine start_ (n := 16) (S := fun w' => True) (ds := []) ba13_9 (by kernel_rfl) rfl rfl trivial (fun hHeld => ?_); refine with_tabW slices_BinarySearchFunc_impl_Route_impl_Route_impl_Prefix.tab8 slices_BinarySearchFunc_impl_Route_impl_Route_impl_Prefix.bits8 (fun HT_ HW_ => ?_)
    generalize wr.drew = w21 at BK409 HB hHeld ⊢
    refine pz_ 0 35 ba13_10 HT_ ?_
    refine pz_ 1 36 ba13_11 HT_ ?_
    refine pz_ 2 37 ba13_12 HT_ ?_
    refine pz_ 3 38 ba13_13 HT_ ?_
    refine pz_ 4 39 ba13_14 HT_ ?_
    refine pu_ 5 40 ba13_15 HT_ ?_
    refine pu_ 6 41 ba13_16 HT_ ?_
    refine pu_ 7 42 ba13_17 HT_ ?_
    refine pu_ 8 43 ba13_18 HT_ ?_
    refine pu_ 9 44 ba13_19 HT_ ?_
    refine pu_ 10 45 ba13_20 HT_ ?_
    refine pu_ 11 46 ba13_21 HT_ ?_
    refine pu_ 12 47 ba13_22 HT_ ?_
    refine pz_ 13 48 ba13_23 HT_ ?_
    refine pz_ 14 6 ba13_24 HT_ ?_
    refine pz_ 15 7 ba13_25 HT_ ?_
    refine done_ (done_of HT_.out (by kernel_rfl)) ?_
    try go_wp2
    go_ret2
    exact ⟨by first | rfl | (simp [errW_none, errW_some] <;> rfl) | (simp [*, errW_none, errW_some] <;> rfl), bw112_⟩
   rw [if_pos c15] at H
   have c15b0 : decide (x9_1 < (l0.length : Int)) = true := decide_eq_true c15
   clear c15
   obtain ⟨c16b0, H⟩ := iq_ H
   obtain ⟨c17b0, H⟩ := iq_ H
   replace H := Option.bind_eq_some_iff.mp H
   obtain ⟨t413, A180, H⟩ := H
   have A18 := Aside0.mk A180
   clear A180
   simp only [Option.some.injEq, Prod.mk.injEq] at H
   obtain ⟨rfl, rfl⟩ := H
   try go_wp2
   replace BK409 := ad_ BK409
   replace HB := Aside0.mk (below_drew1 HB.out)
   have p412 : 0 ≤ (x9_1 : Int) := oa_
   have q412 : x9_1 < (l0.length : Int) := oa_
   obtain ⟨ad412, e412, hx412_0, hx412_1, hx412_2⟩ := at_T30 HR0.out x9_1 p412 q412
   have hw412_2 := hx412_2
   have hw412_1 := hx412_1
   have hw412_0 := hx412_0
   cases e412
   replace hx412_0 := (HB.out.cell (World.block_lt_of_cell? w _ hx412_0)).trans hx412_0
   replace hx412_1 := (HB.out.cell (World.block_lt_of_cell? w _ hx412_1)).trans hx412_1
   replace hx412_2 := (HB.out.cell (World.block_lt_of_cell? w _ hx412_2)).trans hx412_2
   replace p412 := eq_true p412
   replace q412 := eq_true q412
   refine start_ (n := 16) (S := fun w' => w'.cell? ⟨gb409, 0, none⟩ = some (.int .i64 a1_0) ∧ w'.cell? ⟨gb409, 1, none⟩ = some (.int .i64 a1_1) ∧ w'.cell? (ad412.add ((x9_1).toNat * 3)) = some (.int .i64 ((rd_T30 l0 x9_1).f0.f0)) ∧ w'.cell? ⟨(ad412.add ((x9_1).toNat * 3)).block, (ad412.add ((x9_1).toNat * 3)).off + 1, none⟩ = some (.int .i64 ((rd_T30 l0 x9_1).f0.f1)) ∧ w'.cell? ⟨(ad412.add ((x9_1).toNat * 3)).block, (ad412.add ((x9_1).toNat * 3)).off + 2, none⟩ = some (.int .i64 ((rd_T30 l0 x9_1).f1))) (ds := []) ba13_9 (by kernel_rfl) rfl rfl ⟨(blk_cell BK409.out 0).trans rfl, (blk_cell BK409.out 1).trans rfl, (hc_ HB hw412_0), (hc_ HB hw412_1), (hc_ HB hw412_2)⟩ (fun hHeld => ?_); refine with_tabW slices_BinarySearchFunc_impl_Route_impl_Route_impl_Prefix.tab8 slices_BinarySearchFunc_impl_Route_impl_Route_impl_Prefix.bits8 (fun HT_ HW_ => ?_)
   generalize wr.drew = w19 at BK409 HB hx412_0 hx412_1 hx412_2 hHeld ⊢
   refine pz_ 0 35 ba13_10 HT_ ?_
   refine pz_ 1 36 ba13_11 HT_ ?_
   refine pz_ 2 37 ba13_12 HT_ ?_
   refine pz_ 3 38 ba13_13 HT_ ?_
   refine pz_ 4 39 ba13_14 HT_ ?_
   refine pz_ 5 40 ba13_15 HT_ ?_
   refine pz_ 6 41 ba13_16 HT_ ?_
   refine pz_ 7 42 ba13_17 HT_ ?_
   refine pz_ 8 43 ba13_18 HT_ ?_
   refine pt_ 9 44 ba13_19 HT_ HW_ hHeld ?_
   refine pt_ 10 45 ba13_20 HT_ HW_ hHeld ?_
   refine one_ (i := 11) (N := some 46) ba13_21 rfl rfl (one_of HT_.out (by kernel_rfl)) (by decide) (fun K hK => ?_)
   refine goesU_ Try.func91 (by kernel_rfl) rfl #[.agg #[.int .i64 ((rd_T30 l0 x9_1).f0.f0), .int .i64 ((rd_T30 l0 x9_1).f0.f1), .int .i64 ((rd_T30 l0 x9_1).f1)], .agg #[.int .i64 a1_0, .int .i64 a1_1]] (by rfl) rfl rfl (by (try simp only [List.map_toArray, List.map_cons, List.map_nil]); first | done | rfl | (simp only [List.length_drop, List.length_take]; rfl)) ?_
   with_reducible refine (impl_findRoute_1.calls ((rd_T30 l0 x9_1).f0.f0) ((rd_T30 l0 x9_1).f0.f1) ((rd_T30 l0 x9_1).f1) a1_0 a1_1 t413 _ A18.out).mono ?_
   rintro e w20 ⟨rfl, hb⟩
   refine ⟨_, rfl, ?_⟩
   replace BK409 := ab_ BK409 hb
   replace HB := at_ HB hb
   (try clear hb)
   (try clear hb2)
   (try clear hk)
   (try clear hi)
   refine hK.out _ _ ⟨(blk_cell BK409.out 0).trans rfl, (blk_cell BK409.out 1).trans rfl, (hc_ HB hw412_0), (hc_ HB hw412_1), (hc_ HB hw412_2)⟩ (fun hHeld => ?_)
   clear hK K
   refine nz_ 46 ?_
   refine pz_ 12 47 ba13_22 HT_ ?_
   refine pz_ 13 48 ba13_23 HT_ ?_
   refine pz_ 14 6 ba13_24 HT_ ?_
   refine pz_ 15 7 ba13_25 HT_ ?_
   refine done_ (done_of HT_.out (by kernel_rfl)) ?_
   try go_wp2
   go_ret2
   exact ⟨by first | rfl | (simp [errW_none, errW_some] <;> rfl) | (simp [*, errW_none, errW_some] <;> rfl), bw112_⟩

/-! ### impl_findRoute: function 51 -/
def impl_findRoute.f (k : Nat) (l0 : List (S30)) (a1_0 : Int) (a1_1 : Int) : Option (Int × Bool) := (slices_BinarySearchFunc_impl_Route_impl_Route_impl_Prefix.f k l0 a1_0 a1_1).bind fun bt415 => (some (bt415.1, bt415.2))
theorem impl_findRoute.mono : ∀ a0 a1 a2 k, LeO (impl_findRoute.f k a0 a1 a2) (impl_findRoute.f (k + 1) a0 a1 a2) := by
 intro a0 a1 a2 k
 unfold impl_findRoute.f
 repeat' first | (with_reducible first | exact slices_BinarySearchFunc_impl_Route_impl_Route_impl_Prefix.mono _ _ _ _ | exact LeO.refl _ | exact LeO.none _ | refine LeO.ite ?_ ?_ | refine LeO.bind ?_ (fun _ => ?_)) | exact slices_BinarySearchFunc_impl_Route_impl_Route_impl_Prefix.mono _ _ _ _ | exact LeO.none _ | refine LeO.ite ?_ ?_ | refine LeO.bind ?_ (fun _ => ?_)
set_option maxHeartbeats 8000000 in
set_option maxRecDepth 100000 in
theorem impl_findRoute.calls (k : Nat) (A0 : Option Addr) (c0 : Nat) (l0 : List (S30)) (a1_0 : Int) (a1_1 : Int) (r1 : Int) (r2 : Bool) (w : World) (hr0 : Kd.C k30 w A0 l0.length l0) (hc0 : l0.length ≤ c0) (h : impl_findRoute.f k l0 a1_0 a1_1 = some (r1, r2)) :
  Calls Try.prog 51 #[.slice A0 l0.length c0, .agg #[.int .i64 a1_0, .int .i64 a1_1]] w fun e w' => e = .returned (.tuple #[.int .i64 r1, .bool r2]) ∧ Below w.heap.size w w' := by
 have hu28 := Try.underlying28
 have HR0 := Aside0.mk hr0
 have HC0 := Aside0.mk hc0
 clear hr0 hc0
 have HB := Aside0.mk (Below.refl w.heap.size w)
 have H : ((slices_BinarySearchFunc_impl_Route_impl_Route_impl_Prefix.f k l0 a1_0 a1_1).bind fun bt415 => (some (bt415.1, bt415.2))) = some (r1, r2) := h
 clear h
 replace H := Option.bind_eq_some_iff.mp H
 obtain ⟨⟨t415, t416⟩, A30, H⟩ := H
 have A3 := Aside0.mk A30
 clear A30
 simp only [Option.some.injEq, Prod.mk.injEq] at H
 obtain ⟨rfl, rfl⟩ := H
 go_enter Try.func51, Try.ntmps51
 go_wp2_with (first | ((with_reducible refine gate_dst (N := 3) rfl ?_); refine box_event ?hg (N := 3) ?hd (cs := #[.int .i64 a1_0, .int .i64 a1_1]) (t := 28) ?hr ?_; (case hd => rfl); (case hg => rfl); (case hr => first | (go_simp; done) | (go_simp; rfl)); intro gb414 hg w4 hbox hb; have BK414 := Aside0.mk hbox; have GW414 := ge_ HB hg; have GE414 := ge_ HB hg; replace HB := at_ HB hb; clear hb hbox hg; have hcz5_0 := cz_ BK414 0 (.int .i64 a1_0); have hcz5_1 := cz_ BK414 1 (.int .i64 a1_1); have hfz5_0 := fz_ BK414 0; have hfz5_1 := fz_ BK414 1) | ((with_reducible refine gate_callee (f := 90) rfl ?_); refine gl_ (some 8) Try.func90 #[.slice A0 l0.length c0, .agg #[.int .i64 a1_0, .int .i64 a1_1], .func (.func 91) #[] #[]] ?_; (with_reducible refine (slices_BinarySearchFunc_impl_Route_impl_Route_impl_Prefix.calls k _ _ l0 a1_0 a1_1  t415 t416 _ ?side1 ?side2 A3.out).mono ?_); (case side1 => exact cb_ HR0 HB); (case side2 => exact HC0.out); rintro e w6 ⟨rfl, hb⟩; refine ⟨_, rfl, ?_⟩; replace BK414 := ab_ BK414 hb; replace HB := at_ HB hb; (try clear hb); (try clear hb2); (try clear hk); (try clear hi)))
 go_ret2
 exact ⟨by first | rfl | (simp [errW_none, errW_some] <;> rfl) | (simp [*, errW_none, errW_some] <;> rfl), bw112_⟩

-- NOT PRINTED: function 92 (slices_overlaps_impl_Route)

end Go.Proofs.Ytjepmdngbafonaa.QFnRoutes
