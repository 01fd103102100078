/- Contracts of functions that the law reaches: what each call returns and what it leaves in memory. Made by this session over the print of the kit. -/
import Derived.Test.YtjepmdngbafonaaQFnSqueezedx0
import Derived.Test.YtjepmdngbafonaaQFnSqueezedx3
namespace Go.Proofs.Ytjepmdngbafonaa.QFnSqueezed
open Go.RowKit Go.Proofs.YtjepmdngbafonaaZ.PrintWords Go.Proofs.YtjepmdngbafonaaZ.PrintLast Go.Proofs.YtjepmdngbafonaaZ.PrintMore
attribute [local go_sem] max2_int min2_int max_two min_two max_three min_three max_four min_four   -- for this text's walks alone
set_option linter.unusedVariables false
set_option linter.unusedSimpArgs false
def ba5_0 := bs_ 8 0
def ba5_1 := bs_ 8 1
def ba5_2 := bs_ 8 3
def ba5_3 := bs_ 8 7
def ba5_4 := bs_ 8 15
def ba5_5 := bs_ 8 31
def ba5_6 := bs_ 8 63
def ba5_7 := bs_ 8 127
def ba5_8 := bs_ 8 255
def ba5_9 := bs_ 16 0
def ba5_10 := bs_ 16 1
def ba5_11 := bs_ 16 3
def ba5_12 := bs_ 16 7
def ba5_13 := bs_ 16 15
def ba5_14 := bs_ 16 31
def ba5_15 := bs_ 16 63
def ba5_16 := bs_ 16 127
def ba5_17 := bs_ 16 255
def ba5_18 := bs_ 16 511
def ba5_19 := bs_ 16 1023
def ba5_20 := bs_ 16 2047
def ba5_21 := bs_ 16 4095
def ba5_22 := bs_ 16 8191
def ba5_23 := bs_ 16 16383
def ba5_24 := bs_ 16 32767
def ba5_25 := bs_ 16 65535

/-! ### slices_Clone_impl_Route_impl_Route: function 89 -/
theorem nilq24 (w : World) (a : Option Addr) (n c n' c' : Nat) : (binOp .eql 24 (.slice a n c) (.slice none n' c')).run Try.prog w = .ok (.bool a.isNone) w := Lib.run_eql_slice_nil w _ _ a n c n' c' Try.underlying24
attribute [local go_sem] nilq24
def slices_Clone_impl_Route_impl_Route.f (l0 : List S30) : Option (List S30) := if l0.length ≤ 1048576 then some l0 else none
set_option maxHeartbeats 1000000 in
set_option maxRecDepth 100000 in
theorem slices_Clone_impl_Route_impl_Route.calls (A0 : Option Addr) (c0 : Nat) (l0 : List S30) (r : List S30) (w : World) (hr0 : Kd.C k30 w A0 l0.length l0) (hc0 : l0.length ≤ c0) (h : slices_Clone_impl_Route_impl_Route.f l0 = some r) :
  Calls Try.prog 89 #[.slice A0 l0.length c0] w fun e w' => ∃ v0_ : Value, e = .returned (v0_) ∧ Kd.R k30 30 w' w.heap.size (fun _ => True) v0_ r ∧ Below w.heap.size w w' := by
 unfold slices_Clone_impl_Route_impl_Route.f at h
 by_cases hl : l0.length ≤ 1048576
 rotate_left
 ·rw [if_neg hl] at h; cases h
 rw [if_pos hl] at h
 obtain rfl := Option.some.inj h
 have HB := Aside0.mk (Below.refl w.heap.size w)
 rcases A0 with _ | ad
 ·have h0 : l0.length = 0 := by
   rcases Nat.eq_zero_or_pos l0.length with h0 | h0
   ·exact h0
   ·obtain ⟨ad, c, e, _⟩ := Kd.C_get hr0 z30 0 (by omega) (by omega)
    cases e
  obtain rfl : l0 = [] := List.eq_nil_of_length_eq_zero h0
  go_enter Try.func89, Try.ntmps89
  go_wp2
  go_ret
  exact ⟨_, rfl, Kd.R_nil _ _ _ _ _, HB.out⟩
 ·have HR0 := Aside0.mk hr0
  go_enter Try.func89, Try.ntmps89
  go_wp2_with (first | ((with_reducible refine gate_dst (N := 5) rfl ?_); refine Kd.R_lit k30 (w0 := w) w.heap.size 30 ?hg (N := 5) ?hd (xs := ([] : List S30)) (inner := []) (ok := fun _ => True) (okp := fun _ => True) ?hr ?hp (fun _ hk => hk) trivial (Below.refl _ _) (Nat.le_refl _) (by simp) ?_; (case hd => rfl); (case hg => rfl); (case hr => first | (go_simp; done) | (go_simp; rfl)); (case hp => exact (Reps.none _ _)); intro v1 w1 ho1 hb1 hg_ hnew_; clear hg_ hnew_; have HO1 := Aside0.mk ho1; have HB1 := Aside0.mk hb1; clear ho1 hb1 HB) | ((with_reducible refine gate_builtin (b := .append) (xs := #[.tmp 5, .tmp 6]) rfl ?_); at_builtin; refine Kd.R_append_rows k30 (w0 := w) w.heap.size rfl (.tmp 5) (.tmp 6) 24 30 (.agg #[(.int .i64 0), (.int .i64 0), (.int .i64 0)]) 24 rfl Try.underlying24 info30 rfl (by decide) (by omega) v1 [] l0 _ _ _ (fun _ => True) (fun _ => False) rfl rfl ?aO ?aR (fun _ _ h => h) (fun _ h => h.elim) ?aF ?aB ?aS ?aL ?_; (case aR => exact Kd.C_below HR0.out HB1.out); (case aB => exact HB1.out); (case aF => exact (fun _ _ => trivial)); (case aO => exact HO1.out); (case aS => exact below_size HB1.out); (case aL => simp; omega); intro v2 w2 ho2 hb2 hg hat; have HO2 := Aside0.mk ho2; have HB2 := Aside0.mk hb2; clear ho2 hb2 hg hat))
  go_ret
  exact ⟨_, rfl, HO2.out, HB2.out⟩

/-! ### impl_ownTable: function 50 -/
def impl_ownTable.f (l0_0 : List (S30)) : Option ((List (S30))) := (slices_Clone_impl_Route_impl_Route.f l0_0).bind fun t120 => (some t120)
set_option maxHeartbeats 8000000 in
set_option maxRecDepth 100000 in
theorem impl_ownTable.calls (A0_0 : Option Addr) (c0_0 : Nat) (l0_0 : List (S30)) (r : List (S30)) (w : World) (hr0_0 : Kd.C k30 w A0_0 l0_0.length l0_0) (hc0_0 : l0_0.length ≤ c0_0) (h : impl_ownTable.f l0_0 = some r) :
  Calls Try.prog 50 #[.agg #[.slice A0_0 l0_0.length c0_0]] w fun e w' => ∃ v0_ : Value, e = .returned (.agg #[v0_]) ∧ Kd.R k30 30 w' w.heap.size (fun _ => True) v0_ r ∧ Below w.heap.size w w' := by
 have hu26 := Try.underlying26
 have HR0_0 := Aside0.mk hr0_0
 have HC0_0 := Aside0.mk hc0_0
 clear hr0_0 hc0_0
 have HB := Aside0.mk (Below.refl w.heap.size w)
 have H : ((slices_Clone_impl_Route_impl_Route.f l0_0).bind fun t120 => (some t120)) = some r := h
 clear h
 obtain ⟨t120, A2, H⟩ := ob_ H
 obtain rfl := Option.some.inj H
 go_enter Try.func50, Try.ntmps50
 go_wp2_with (first | ((with_reducible refine gate_dst (N := 1) rfl ?_); refine be_ 1 #[.slice A0_0 l0_0.length c0_0] 26 ?_; intro gb118 hg w3 BK118 hb; have GW118 := ge_ HB hg; have GE118 := ge_ HB hg; replace HB := at_ HB hb; clear hb hg) | ((with_reducible refine gate_dst (N := 2) rfl ?_); refine be_ 2 #[.slice none 0 0] 26 ?_; intro gb119 hg w4 BK119 hb; have GW119 := ge_ HB hg; have GE119 := ge_ HB hg; have NB118_119 := nl_ BK118 hg; have NB119_118 := ng_ BK118 hg; replace HB := at_ HB hb; replace BK118 := ab_ BK118 hb; clear hb hg; have hnb5 := NB118_119.out; have hnc5 := NB119_118.out; have hcz6_0 := cz_ BK118 0 (.slice A0_0 l0_0.length c0_0); have hfz6_0 := fz_ BK118 0) | ((with_reducible refine gate_callee (f := 89) rfl ?_); refine gl_ (some 5) Try.func89 #[.slice A0_0 l0_0.length c0_0] ?_; (with_reducible refine (slices_Clone_impl_Route_impl_Route.calls _ _ l0_0 t120 _ ?side1 ?side2 A2.out).mono ?_); (case side1 => exact cb_ HR0_0 HB); (case side2 => exact HC0_0.out); rintro e w7 ⟨v121, rfl, ho0, hb⟩; refine ⟨_, rfl, ?_⟩; have HO122 := Aside0.mk (Kd.R_lower ho0 (bz_ HB)); replace BK118 := ab_ BK118 hb; replace BK119 := ab_ BK119 hb; replace HB := at_ HB hb; clear hb ho0; obtain ⟨Ao8, co8, eo8⟩ := Kd.R_slice HO122.out; subst eo8; have hcz9_0 := cz_ BK119 0 (.slice none 0 0); have hfz9_0 := fz_ BK119 0))
 refine bodyPost_ret (results_cell_row rfl _ _ gb119 26 #[.slice Ao8 t120.length co8] (0, 0) _ rfl (by refine bd_ ?_; refine blk_put (cs := #[.slice none 0 0]) ?_ 0 _ rfl; refine bd_ ?_; exact BK119.out) Try.underlying26 rfl (by kernel_rfl)) rfl ?_
 exact ⟨_, by first | rfl | (simp [errW_none, errW_some] <;> rfl) | (simp [*, errW_none, errW_some] <;> rfl), by (with_reducible repeat (first | apply Kd.R_alloc | apply Kd.R_drewN | apply Kd.R_drew)); exact Kd.R_mono (Kd.R_far (Kd.R_types HO122.out BK119.out (by decide)) (fun _ hk => hk.2) _) (fun _ hk => trivial), bw_⟩

/-! ### impl_findRoute_1: function 91 -/
def impl_findRoute_1.f (a0_0 : Int) (a0_1 : Int) (a0_2 : Int) (a1_0 : Int) (a1_1 : Int) : Option (Int) := (impl_comparePrefixes.f a0_0 a0_1 a1_0 a1_1).bind fun t125 => (some t125)
set_option maxHeartbeats 8000000 in
set_option maxRecDepth 100000 in
theorem impl_findRoute_1.calls (a0_0 : Int) (a0_1 : Int) (a0_2 : Int) (a1_0 : Int) (a1_1 : Int) (r : Int) (w : World) (h : impl_findRoute_1.f a0_0 a0_1 a0_2 a1_0 a1_1 = some r) :
  Calls Try.prog 91 #[.agg #[.int .i64 a0_0, .int .i64 a0_1, .int .i64 a0_2], .agg #[.int .i64 a1_0, .int .i64 a1_1]] w fun e w' => e = .returned (.int .i64 r) ∧ Below w.heap.size w w' := by
 have hu30 := Try.underlying30
 have hu28 := Try.underlying28
 have HB := Aside0.mk (Below.refl w.heap.size w)
 have H : ((impl_comparePrefixes.f a0_0 a0_1 a1_0 a1_1).bind fun t125 => (some t125)) = some r := h
 clear h
 obtain ⟨t125, A3, H⟩ := ob_ H
 obtain rfl := Option.some.inj H
 go_enter Try.func91, Try.ntmps91
 go_wp2_with (first | ((with_reducible refine gate_dst (N := 2) rfl ?_); refine be_ 2 #[.int .i64 a0_0, .int .i64 a0_1, .int .i64 a0_2] 30 ?_; intro gb123 hg w4 BK123 hb; have GW123 := ge_ HB hg; have GE123 := ge_ HB hg; replace HB := at_ HB hb; clear hb hg) | ((with_reducible refine gate_dst (N := 3) rfl ?_); refine be_ 3 #[.int .i64 a1_0, .int .i64 a1_1] 28 ?_; intro gb124 hg w5 BK124 hb; have GW124 := ge_ HB hg; have GE124 := ge_ HB hg; have NB123_124 := nl_ BK123 hg; have NB124_123 := ng_ BK123 hg; replace HB := at_ HB hb; replace BK123 := ab_ BK123 hb; clear hb hg; have hnb6 := NB123_124.out; have hnc6 := NB124_123.out; have hcz7_0 := cz_ BK123 0 (.int .i64 a0_0); have hcz7_1 := cz_ BK123 1 (.int .i64 a0_1); have hcz7_2 := cz_ BK123 2 (.int .i64 a0_2); have hfz7_0 := fz_ BK123 0; have hfz7_1 := fz_ BK123 1; have hfz7_2 := fz_ BK123 2; have hcz8_0 := cz_ BK124 0 (.int .i64 a1_0); have hcz8_1 := cz_ BK124 1 (.int .i64 a1_1); have hfz8_0 := fz_ BK124 0; have hfz8_1 := fz_ BK124 1) | ((with_reducible refine gate_callee (f := 77) rfl ?_); refine gl_ (some 8) Try.func77 #[.agg #[.int .i64 a0_0, .int .i64 a0_1], .agg #[.int .i64 a1_0, .int .i64 a1_1]] ?_; (with_reducible refine (impl_comparePrefixes.calls a0_0 a0_1 a1_0 a1_1 t125 _ A3.out).mono ?_); rintro e w9 ⟨rfl, hb⟩; refine ⟨_, rfl, ?_⟩; replace BK123 := ab_ BK123 hb; replace BK124 := ab_ BK124 hb; replace HB := at_ HB hb; clear hb))
 go_ret
 exact ⟨by first | rfl | (simp [errW_none, errW_some] <;> rfl) | (simp [*, errW_none, errW_some] <;> rfl), bw_⟩

/-! ### slices_BinarySearchFunc_impl_Route_impl_Route_impl_Prefix: function 90 -/
def slices_BinarySearchFunc_impl_Route_impl_Route_impl_Prefix.l0 : Nat → List (S30) → Int → Int → Int → Int → Int → Option (Int × Bool)
 | 0, _, _, _, _, _, _ => none
 | k + 1, x0, x8, x9, x10, x127000, x127001 => if x9 < x10 then (if 0 ≤ (wrap64 ((IntKind.u64.wrap (wrap64 (x9 + x10))) / 2)) then (if (wrap64 ((IntKind.u64.wrap (wrap64 (x9 + x10))) / 2)) < (x0.length : Int) then ((impl_findRoute_1.f ((rd_T30 x0 (wrap64 ((IntKind.u64.wrap (wrap64 (x9 + x10))) / 2))).f0.f0) ((rd_T30 x0 (wrap64 ((IntKind.u64.wrap (wrap64 (x9 + x10))) / 2))).f0.f1) ((rd_T30 x0 (wrap64 ((IntKind.u64.wrap (wrap64 (x9 + x10))) / 2))).f1) x127000 x127001).bind fun t128 => (if t128 < 0 then (slices_BinarySearchFunc_impl_Route_impl_Route_impl_Prefix.l0 k x0 x8 (wrap64 ((wrap64 ((IntKind.u64.wrap (wrap64 (x9 + x10))) / 2)) + 1)) x10 x127000 x127001) else (slices_BinarySearchFunc_impl_Route_impl_Route_impl_Prefix.l0 k x0 x8 x9 (wrap64 ((IntKind.u64.wrap (wrap64 (x9 + x10))) / 2)) x127000 x127001))) else (none)) else (none)) else (if x9 < x8 then (if 0 ≤ x9 then (if x9 < (x0.length : Int) then ((impl_findRoute_1.f ((rd_T30 x0 x9).f0.f0) ((rd_T30 x0 x9).f0.f1) ((rd_T30 x0 x9).f1) x127000 x127001).bind fun t130 => (some (x9, (t130 == 0)))) else (none)) else (none)) else (some (x9, false)))
def slices_BinarySearchFunc_impl_Route_impl_Route_impl_Prefix.f (k : Nat) (l0 : List (S30)) (a1_0 : Int) (a1_1 : Int)  : Option (Int × Bool) := slices_BinarySearchFunc_impl_Route_impl_Route_impl_Prefix.l0 k l0 (l0.length : Int) 0 (l0.length : Int) a1_0 a1_1
def slices_BinarySearchFunc_impl_Route_impl_Route_impl_Prefix.T5 : Bool × List (List Nat × List Nat) := (true, [([], []), ([], []), ([], []), ([1, 2], [1, 2]), ([3], [3]), ([], []), ([0, 4, 5], [0, 4, 5]), ([6], [6])])
def slices_BinarySearchFunc_impl_Route_impl_Route_impl_Prefix.B5 : List Nat := [0, 0, 0, 6, 14, 0, 63, 127]
theorem slices_BinarySearchFunc_impl_Route_impl_Route_impl_Prefix.tab5 : rtab .any (opsOf Try.f90 5) = slices_BinarySearchFunc_impl_Route_impl_Route_impl_Prefix.T5 := by kernel_rfl
theorem slices_BinarySearchFunc_impl_Route_impl_Route_impl_Prefix.bits5 : waitsOk slices_BinarySearchFunc_impl_Route_impl_Route_impl_Prefix.T5.2 slices_BinarySearchFunc_impl_Route_impl_Route_impl_Prefix.B5 = true := by kernel_rfl
def slices_BinarySearchFunc_impl_Route_impl_Route_impl_Prefix.T8 : Bool × List (List Nat × List Nat) := (true, [([], []), ([], []), ([], []), ([1, 2], [1, 2]), ([3], [3]), ([4], [4]), ([4], [4]), ([4], [4]), ([6, 7, 4], [4, 6, 7]), ([8, 4], [4, 8]), ([4], [4]), ([5, 9, 10, 4, 4], [4, 5, 9, 10]), ([11, 4], [4, 11]), ([4, 12], [4, 12]), ([0, 11, 0], [0]), ([13, 14, 0, 1, 2, 3, 4, 5, 6, 7, 8, 9, 10, 11, 12, 13, 14], [13])])
def slices_BinarySearchFunc_impl_Route_impl_Route_impl_Prefix.B8 : List Nat := [0, 0, 0, 6, 14, 30, 30, 30, 222, 478, 30, 2046, 4094, 8190, 4095, 32767]
theorem slices_BinarySearchFunc_impl_Route_impl_Route_impl_Prefix.tab8 : rtab .any (opsOf Try.f90 8) = slices_BinarySearchFunc_impl_Route_impl_Route_impl_Prefix.T8 := by kernel_rfl
theorem slices_BinarySearchFunc_impl_Route_impl_Route_impl_Prefix.bits8 : waitsOk slices_BinarySearchFunc_impl_Route_impl_Route_impl_Prefix.T8.2 slices_BinarySearchFunc_impl_Route_impl_Route_impl_Prefix.B8 = true := by kernel_rfl
set_option maxHeartbeats 8000000 in
set_option maxRecDepth 100000 in
theorem slices_BinarySearchFunc_impl_Route_impl_Route_impl_Prefix.calls (k : Nat) (A0 : Option Addr) (c0 : Nat) (l0 : List (S30)) (a1_0 : Int) (a1_1 : Int)  (r1 : Int) (r2 : Bool) (w : World) (hr0 : Kd.C k30 w A0 l0.length l0) (hc0 : l0.length ≤ c0) (h : slices_BinarySearchFunc_impl_Route_impl_Route_impl_Prefix.f k l0 a1_0 a1_1 = some (r1, r2)) :
  Calls Try.prog 90 #[.slice A0 l0.length c0, .agg #[.int .i64 a1_0, .int .i64 a1_1], .func (.func 91) #[] #[]] w fun e w' => e = .returned (.tuple #[.int .i64 r1, .bool r2]) ∧ Below w.heap.size w w' := by
 have hu28 := Try.underlying28
 have hu30 := Try.underlying30
 have HR0 := Aside0.mk hr0
 have HC0 := Aside0.mk hc0
 clear hr0 hc0
 have HB := Aside0.mk (Below.refl w.heap.size w)
 have H : (slices_BinarySearchFunc_impl_Route_impl_Route_impl_Prefix.l0 k l0 (l0.length : Int) 0 (l0.length : Int) a1_0 a1_1) = some (r1, r2) := h
 clear h
 have H' := Aside0.mk H
 clear H
 go_enter Try.func90, Try.ntmps90
 go_wp2_with ((with_reducible refine gate_dst (N := 4) rfl ?_); refine be_ 4 #[.int .i64 a1_0, .int .i64 a1_1] 28 ?_; intro gb126 hg w4 BK126 hb; have GW126 := ge_ HB hg; have GE126 := ge_ HB hg; replace HB := at_ HB hb; clear hb hg)
 go_loopg [9, 10] k (fun kq v9 v10 w' => ∃ (x9_1 : Int) (x10_1 : Int), v9 = .int .i64 x9_1 ∧ v10 = .int .i64 x10_1 ∧ Aside0 (slices_BinarySearchFunc_impl_Route_impl_Route_impl_Prefix.l0 kq l0 (l0.length : Int) x9_1 x10_1 a1_0 a1_1 = some (r1, r2)) ∧ Aside0 (kq ≤ k) ∧ Aside0 (w'.heap[gb126]? = some (.cells #[.int .i64 a1_0, .int .i64 a1_1] 28 (0, 0))) ∧ Aside0 (Below w.heap.size w w'))
 case atStart => exact ⟨(0), ((l0.length : Int)), er_, er_, H', ⟨Nat.le_refl _⟩, ⟨bx_ BK126⟩, ⟨bw_⟩⟩
 case round =>
  clear H'
  obtain ⟨x9_1, x10_1, rfl, rfl, HA, HK1, BK126, HB⟩ := hrel
  cases gk with
  | zero => exact absurd HA.out (by simp [slices_BinarySearchFunc_impl_Route_impl_Route_impl_Prefix.l0])
  | succ k1 =>
   have H := HA.out
   clear HA
   simp only [slices_BinarySearchFunc_impl_Route_impl_Route_impl_Prefix.l0] at H
   by_cases c5 : x9_1 < x10_1
   ·rw [if_pos c5] at H
    have c5b0 : decide (x9_1 < x10_1) = true := decide_eq_true c5
    clear c5
    obtain ⟨ji6, hji6⟩ : ∃ j_ : Int, (wrap64 ((IntKind.u64.wrap (wrap64 (x9_1 + x10_1))) / 2)) = j_ := ⟨_, rfl⟩
    first | rw [hji6] at H | simp only [hji6] at H
    have hji6w : (IntKind.i64.wrap ((IntKind.u64.wrap (wrap64 (x9_1 + x10_1))) / 2)) = ji6 := (i64_w _).trans hji6
    obtain ⟨c7b0, H⟩ := iq_ H
    obtain ⟨c8b0, H⟩ := iq_ H
    obtain ⟨t128, A9, H⟩ := ob_ H
    have Hh_ := Aside0.mk H
    clear H
    go_wp2
    replace BK126 := ad_ BK126
    replace HB := Aside0.mk (below_drew1 HB.out)
    have p127 : 0 ≤ ((ji6) : Int) := oa_
    have q127 : (ji6) < (l0.length : Int) := oa_
    obtain ⟨ad127, e127, hx127_0, hx127_1, hx127_2⟩ := at_T30 HR0.out (ji6) p127 q127
    have hw127_2 := hx127_2
    have hw127_1 := hx127_1
    have hw127_0 := hx127_0
    cases e127
    replace hx127_0 := hc5_ HB hx127_0
    replace hx127_1 := hc5_ HB hx127_1
    replace hx127_2 := hc5_ HB hx127_2
    obtain ⟨p127, q127⟩ := et_ p127 q127
    refine start_ (n := 8) (S := fun w' => w'.cell? ⟨gb126, 0, none⟩ = some (.int .i64 a1_0) ∧ w'.cell? ⟨gb126, 1, none⟩ = some (.int .i64 a1_1) ∧ w'.cell? (ad127.add (((ji6)).toNat * 3)) = some (.int .i64 ((rd_T30 l0 (ji6)).f0.f0)) ∧ w'.cell? ⟨(ad127.add (((ji6)).toNat * 3)).block, (ad127.add (((ji6)).toNat * 3)).off + 1, none⟩ = some (.int .i64 ((rd_T30 l0 (ji6)).f0.f1)) ∧ w'.cell? ⟨(ad127.add (((ji6)).toNat * 3)).block, (ad127.add (((ji6)).toNat * 3)).off + 2, none⟩ = some (.int .i64 ((rd_T30 l0 (ji6)).f1))) (ds := []) ba5_0 (by kernel_rfl) rfl rfl ⟨bq5_ BK126 0, bq5_ BK126 1, (hc_ HB hw127_0), (hc_ HB hw127_1), (hc_ HB hw127_2)⟩ (fun hHeld => ?_); refine with_tabW slices_BinarySearchFunc_impl_Route_impl_Route_impl_Prefix.tab5 slices_BinarySearchFunc_impl_Route_impl_Route_impl_Prefix.bits5 (fun HT_ HW_ => ?_)
    generalize wr.drew = w11 at BK126 HB hx127_0 hx127_1 hx127_2 hHeld ⊢
    refine pz_ 0 24 ba5_1 HT_ ?_
    refine pz_ 1 25 ba5_2 HT_ ?_
    refine pz_ 2 26 ba5_3 HT_ ?_
    refine pz_ 3 27 ba5_4 HT_ ?_
    refine pt_ 4 28 ba5_5 HT_ HW_ hHeld ?_
    refine pt_ 5 29 ba5_6 HT_ HW_ hHeld ?_
    refine on_ 6 (some 30) ba5_7 HT_ (fun K hK => ?_)
    refine goesU_ Try.func91 (by kernel_rfl) rfl #[.agg #[.int .i64 ((rd_T30 l0 (ji6)).f0.f0), .int .i64 ((rd_T30 l0 (ji6)).f0.f1), .int .i64 ((rd_T30 l0 (ji6)).f1)], .agg #[.int .i64 a1_0, .int .i64 a1_1]] (by rfl) rfl rfl (by (try simp only [List.map_toArray, List.map_cons, List.map_nil]); first | done | (simp only [hji6]; rfl) | rfl | (simp only [List.length_drop, List.length_take]; rfl)) ?_
    with_reducible refine (impl_findRoute_1.calls ((rd_T30 l0 (ji6)).f0.f0) ((rd_T30 l0 (ji6)).f0.f1) ((rd_T30 l0 (ji6)).f1) a1_0 a1_1 t128 _ A9.out).mono ?_
    rintro e w12 ⟨rfl, hb⟩
    refine ⟨_, rfl, ?_⟩
    replace BK126 := ab_ BK126 hb
    replace HB := at_ HB hb
    clear hb
    refine hK.out _ _ ⟨bq5_ BK126 0, bq5_ BK126 1, (hc_ HB hw127_0), (hc_ HB hw127_1), (hc_ HB hw127_2)⟩ (fun hHeld => ?_)
    clear hK K
    refine nz_ 30 ?_
    have H := Hh_.out
    clear Hh_
    by_cases c10 : t128 < 0
    ·rw [if_pos c10] at H
     have c10b0 : decide (t128 < 0) = true := decide_eq_true c10
     clear c10
     have H' := Aside0.mk H
     clear H
     refine pz_ 7 31 ba5_8 HT_ ?_
     refine done_ (done_of HT_.out (by kernel_rfl)) ?_
     go_wp2
     go_roundg k1
     case measure => have := HK1.out; omega
     case rel => exact ⟨(wrap64 ((ji6) + 1)), (x10_1), (by first | rfl | (simp; done) | (simp only [← hji6] <;> (first | rfl | simp)) | (simp [*]; done)), er_, H', ⟨by have := HK1.out; omega⟩, ⟨bx_ BK126⟩, ⟨bw_⟩⟩
    rw [if_neg c10] at H
    have c10b0 : decide (t128 < 0) = false := decide_eq_false c10
    clear c10
    have H' := Aside0.mk H
    clear H
    refine pz_ 7 31 ba5_8 HT_ ?_
    refine done_ (done_of HT_.out (by kernel_rfl)) ?_
    go_wp2
    go_roundg k1
    case measure => have := HK1.out; omega
    case rel => exact ⟨(x9_1), (ji6), er_, (by first | rfl | (simp; done) | (simp only [← hji6] <;> (first | rfl | simp)) | (simp [*]; done)), H', ⟨by have := HK1.out; omega⟩, ⟨bx_ BK126⟩, ⟨bw_⟩⟩
   rw [if_neg c5] at H
   have c5b0 : decide (x9_1 < x10_1) = false := decide_eq_false c5
   clear c5
   by_cases c15 : x9_1 < (l0.length : Int)
   rotate_left
   ·rw [if_neg c15] at H
    have c15b0 : decide (x9_1 < (l0.length : Int)) = false := decide_eq_false c15
    clear c15
    simp only [Option.some.injEq, Prod.mk.injEq] at H
    obtain ⟨rfl, rfl⟩ := H
    go_wp2
    replace BK126 := ad_ BK126
    replace HB := Aside0.mk (below_drew1 HB.out)
    refine start_ (n := 16) (S := fun w' => True) (ds := []) ba5_9 (by kernel_rfl) rfl rfl trivial (fun hHeld => ?_); refine with_tabW slices_BinarySearchFunc_impl_Route_impl_Route_impl_Prefix.tab8 slices_BinarySearchFunc_impl_Route_impl_Route_impl_Prefix.bits8 (fun HT_ HW_ => ?_)
    generalize wr.drew = w21 at BK126 HB hHeld ⊢
    refine pz_ 0 35 ba5_10 HT_ ?_
    refine pz_ 1 36 ba5_11 HT_ ?_
    refine pz_ 2 37 ba5_12 HT_ ?_
    refine pz_ 3 38 ba5_13 HT_ ?_
    refine pz_ 4 39 ba5_14 HT_ ?_
    refine pu_ 5 40 ba5_15 HT_ ?_
    refine pu_ 6 41 ba5_16 HT_ ?_
    refine pu_ 7 42 ba5_17 HT_ ?_
    refine pu_ 8 43 ba5_18 HT_ ?_
    refine pu_ 9 44 ba5_19 HT_ ?_
    refine pu_ 10 45 ba5_20 HT_ ?_
    refine pu_ 11 46 ba5_21 HT_ ?_
    refine pu_ 12 47 ba5_22 HT_ ?_
    refine pz_ 13 48 ba5_23 HT_ ?_
    refine pz_ 14 6 ba5_24 HT_ ?_
    refine pz_ 15 7 ba5_25 HT_ ?_
    refine done_ (done_of HT_.out (by kernel_rfl)) ?_
    go_wp2
    go_ret2
    exact ⟨by first | rfl | (simp [errW_none, errW_some] <;> rfl) | (simp [*, errW_none, errW_some] <;> rfl), bw_⟩
   rw [if_pos c15] at H
   have c15b0 : decide (x9_1 < (l0.length : Int)) = true := decide_eq_true c15
   clear c15
   obtain ⟨c16b0, H⟩ := iq_ H
   obtain ⟨c17b0, H⟩ := iq_ H
   obtain ⟨t130, A18, H⟩ := ob_ H
   simp only [Option.some.injEq, Prod.mk.injEq] at H
   obtain ⟨rfl, rfl⟩ := H
   go_wp2
   replace BK126 := ad_ BK126
   replace HB := Aside0.mk (below_drew1 HB.out)
   have p129 : 0 ≤ (x9_1 : Int) := oa_
   have q129 : x9_1 < (l0.length : Int) := oa_
   obtain ⟨ad129, e129, hx129_0, hx129_1, hx129_2⟩ := at_T30 HR0.out x9_1 p129 q129
   have hw129_2 := hx129_2
   have hw129_1 := hx129_1
   have hw129_0 := hx129_0
   cases e129
   replace hx129_0 := hc5_ HB hx129_0
   replace hx129_1 := hc5_ HB hx129_1
   replace hx129_2 := hc5_ HB hx129_2
   obtain ⟨p129, q129⟩ := et_ p129 q129
   refine start_ (n := 16) (S := fun w' => w'.cell? ⟨gb126, 0, none⟩ = some (.int .i64 a1_0) ∧ w'.cell? ⟨gb126, 1, none⟩ = some (.int .i64 a1_1) ∧ w'.cell? (ad129.add ((x9_1).toNat * 3)) = some (.int .i64 ((rd_T30 l0 x9_1).f0.f0)) ∧ w'.cell? ⟨(ad129.add ((x9_1).toNat * 3)).block, (ad129.add ((x9_1).toNat * 3)).off + 1, none⟩ = some (.int .i64 ((rd_T30 l0 x9_1).f0.f1)) ∧ w'.cell? ⟨(ad129.add ((x9_1).toNat * 3)).block, (ad129.add ((x9_1).toNat * 3)).off + 2, none⟩ = some (.int .i64 ((rd_T30 l0 x9_1).f1))) (ds := []) ba5_9 (by kernel_rfl) rfl rfl ⟨bq5_ BK126 0, bq5_ BK126 1, (hc_ HB hw129_0), (hc_ HB hw129_1), (hc_ HB hw129_2)⟩ (fun hHeld => ?_); refine with_tabW slices_BinarySearchFunc_impl_Route_impl_Route_impl_Prefix.tab8 slices_BinarySearchFunc_impl_Route_impl_Route_impl_Prefix.bits8 (fun HT_ HW_ => ?_)
   generalize wr.drew = w19 at BK126 HB hx129_0 hx129_1 hx129_2 hHeld ⊢
   refine pz_ 0 35 ba5_10 HT_ ?_
   refine pz_ 1 36 ba5_11 HT_ ?_
   refine pz_ 2 37 ba5_12 HT_ ?_
   refine pz_ 3 38 ba5_13 HT_ ?_
   refine pz_ 4 39 ba5_14 HT_ ?_
   refine pz_ 5 40 ba5_15 HT_ ?_
   refine pz_ 6 41 ba5_16 HT_ ?_
   refine pz_ 7 42 ba5_17 HT_ ?_
   refine pz_ 8 43 ba5_18 HT_ ?_
   refine pt_ 9 44 ba5_19 HT_ HW_ hHeld ?_
   refine pt_ 10 45 ba5_20 HT_ HW_ hHeld ?_
   refine on_ 11 (some 46) ba5_21 HT_ (fun K hK => ?_)
   refine goesU_ Try.func91 (by kernel_rfl) rfl #[.agg #[.int .i64 ((rd_T30 l0 x9_1).f0.f0), .int .i64 ((rd_T30 l0 x9_1).f0.f1), .int .i64 ((rd_T30 l0 x9_1).f1)], .agg #[.int .i64 a1_0, .int .i64 a1_1]] (by rfl) rfl rfl (by (try simp only [List.map_toArray, List.map_cons, List.map_nil]); first | done | rfl | (simp only [List.length_drop, List.length_take]; rfl)) ?_
   with_reducible refine (impl_findRoute_1.calls ((rd_T30 l0 x9_1).f0.f0) ((rd_T30 l0 x9_1).f0.f1) ((rd_T30 l0 x9_1).f1) a1_0 a1_1 t130 _ A18.out).mono ?_
   rintro e w20 ⟨rfl, hb⟩
   refine ⟨_, rfl, ?_⟩
   replace BK126 := ab_ BK126 hb
   replace HB := at_ HB hb
   clear hb
   refine hK.out _ _ ⟨bq5_ BK126 0, bq5_ BK126 1, (hc_ HB hw129_0), (hc_ HB hw129_1), (hc_ HB hw129_2)⟩ (fun hHeld => ?_)
   clear hK K
   refine nz_ 46 ?_
   refine pz_ 12 47 ba5_22 HT_ ?_
   refine pz_ 13 48 ba5_23 HT_ ?_
   refine pz_ 14 6 ba5_24 HT_ ?_
   refine pz_ 15 7 ba5_25 HT_ ?_
   refine done_ (done_of HT_.out (by kernel_rfl)) ?_
   go_wp2
   go_ret2
   exact ⟨by first | rfl | (simp [errW_none, errW_some] <;> rfl) | (simp [*, errW_none, errW_some] <;> rfl), bw_⟩

/-! ### impl_findRoute: function 51 -/
def impl_findRoute.f (k : Nat) (l0 : List (S30)) (a1_0 : Int) (a1_1 : Int) : Option (Int × Bool) := (slices_BinarySearchFunc_impl_Route_impl_Route_impl_Prefix.f k l0 a1_0 a1_1).bind fun bt132 => (some (bt132.1, bt132.2))
set_option maxHeartbeats 8000000 in
set_option maxRecDepth 100000 in
theorem impl_findRoute.calls (k : Nat) (A0 : Option Addr) (c0 : Nat) (l0 : List (S30)) (a1_0 : Int) (a1_1 : Int) (r1 : Int) (r2 : Bool) (w : World) (hr0 : Kd.C k30 w A0 l0.length l0) (hc0 : l0.length ≤ c0) (h : impl_findRoute.f k l0 a1_0 a1_1 = some (r1, r2)) :
  Calls Try.prog 51 #[.slice A0 l0.length c0, .agg #[.int .i64 a1_0, .int .i64 a1_1]] w fun e w' => e = .returned (.tuple #[.int .i64 r1, .bool r2]) ∧ Below w.heap.size w w' := by
 have hu28 := Try.underlying28
 have HR0 := Aside0.mk hr0
 have HC0 := Aside0.mk hc0
 clear hr0 hc0
 have HB := Aside0.mk (Below.refl w.heap.size w)
 have H : ((slices_BinarySearchFunc_impl_Route_impl_Route_impl_Prefix.f k l0 a1_0 a1_1).bind fun bt132 => (some (bt132.1, bt132.2))) = some (r1, r2) := h
 clear h
 obtain ⟨⟨t132, t133⟩, A3, H⟩ := ob_ H
 simp only [Option.some.injEq, Prod.mk.injEq] at H
 obtain ⟨rfl, rfl⟩ := H
 go_enter Try.func51, Try.ntmps51
 go_wp2_with (first | ((with_reducible refine gate_dst (N := 3) rfl ?_); refine be_ 3 #[.int .i64 a1_0, .int .i64 a1_1] 28 ?_; intro gb131 hg w4 BK131 hb; have GW131 := ge_ HB hg; have GE131 := ge_ HB hg; replace HB := at_ HB hb; clear hb hg; have hcz5_0 := cz_ BK131 0 (.int .i64 a1_0); have hcz5_1 := cz_ BK131 1 (.int .i64 a1_1); have hfz5_0 := fz_ BK131 0; have hfz5_1 := fz_ BK131 1) | ((with_reducible refine gate_callee (f := 90) rfl ?_); refine gl_ (some 8) Try.func90 #[.slice A0 l0.length c0, .agg #[.int .i64 a1_0, .int .i64 a1_1], .func (.func 91) #[] #[]] ?_; (with_reducible refine (slices_BinarySearchFunc_impl_Route_impl_Route_impl_Prefix.calls k _ _ l0 a1_0 a1_1  t132 t133 _ ?side1 ?side2 A3.out).mono ?_); (case side1 => exact cb_ HR0 HB); (case side2 => exact HC0.out); rintro e w6 ⟨rfl, hb⟩; refine ⟨_, rfl, ?_⟩; replace BK131 := ab_ BK131 hb; replace HB := at_ HB hb; clear hb))
 go_ret2
 exact ⟨by first | rfl | (simp [errW_none, errW_some] <;> rfl) | (simp [*, errW_none, errW_some] <;> rfl), bw_⟩

end Go.Proofs.Ytjepmdngbafonaa.QFnSqueezed
