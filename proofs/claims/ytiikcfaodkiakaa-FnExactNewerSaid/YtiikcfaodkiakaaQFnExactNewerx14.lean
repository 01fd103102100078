/- Contracts of functions that the law reaches: what each call returns and what it leaves in memory. Made by this session over the print of the kit. -/
import Derived.Test.YtiikcfaodkiakaaQFnExactNewerx0
import Derived.Test.YtiikcfaodkiakaaQFnExactNewerx13
namespace Go.Proofs.Ytiikcfaodkiakaa.QFnExactNewer
open Go.RowKit Go.Proofs.YtiikcfaodkiakaaY.PrintWords Go.Proofs.YtiikcfaodkiakaaY.PrintLast Go.Proofs.YtiikcfaodkiakaaY.PrintMore
attribute [local go_sem] max2_int min2_int max_two min_two max_three min_three max_four min_four   -- for this text's walks alone
set_option linter.unusedVariables false
set_option linter.unusedSimpArgs false
def ba14_0 : Array Bool := #[false, false, false, false, false, false, false, false, false, false]
def ba14_1 : Array Bool := #[true, false, false, false, false, false, false, false, false, false]
def ba14_2 : Array Bool := #[true, true, false, false, false, false, false, false, false, false]
def ba14_3 : Array Bool := #[true, true, false, false, false, false, true, false, false, false]
def ba14_4 : Array Bool := #[true, true, true, false, false, false, true, false, false, false]
def ba14_5 : Array Bool := #[true, true, true, true, false, false, true, false, false, false]
def ba14_6 : Array Bool := #[true, true, true, true, false, false, true, true, false, false]
def ba14_7 : Array Bool := #[true, true, true, true, true, false, true, true, false, false]
def ba14_8 : Array Bool := #[true, true, true, true, true, true, true, true, false, false]
def ba14_9 : Array Bool := #[true, true, true, true, true, true, true, true, true, false]
def ba14_10 : Array Bool := #[true, true, true, true, true, true, true, true, true, true]
def ba14_11 : Array Bool := #[false, false, false, false, false, false, false, false, false, false, false]
def ba14_12 : Array Bool := #[true, false, false, false, false, false, false, false, false, false, false]
def ba14_13 : Array Bool := #[true, true, false, false, false, false, false, false, false, false, false]
def ba14_14 : Array Bool := #[true, true, true, false, false, false, false, false, false, false, false]
def ba14_15 : Array Bool := #[true, true, true, false, false, false, false, true, false, false, false]
def ba14_16 : Array Bool := #[true, true, true, true, false, false, false, true, false, false, false]
def ba14_17 : Array Bool := #[true, true, true, true, true, false, false, true, false, false, false]
def ba14_18 : Array Bool := #[true, true, true, true, true, false, false, true, true, false, false]
def ba14_19 : Array Bool := #[true, true, true, true, true, true, false, true, true, false, false]
def ba14_20 : Array Bool := #[true, true, true, true, true, true, true, true, true, false, false]
def ba14_21 : Array Bool := #[true, true, true, true, true, true, true, true, true, true, false]
def ba14_22 : Array Bool := #[true, true, true, true, true, true, true, true, true, true, true]

/-! ### impl_Lsa_bytes: function 77 -/
mutual
def impl_Lsa_bytes.l0 : Nat → List Int → List (S70) → Int → Int → Int → Int → Int → List (S70) → List (S74) → Option (List Int)
 | 0, _, _, _, _, _, _, _, _, _ => none
 | k + 1, x3, x23, x24, x25, x303000, x303001, x303002, x303003, x303004 => if x25 < x24 then (if 0 ≤ x25 then (if x25 < (x23.length : Int) then (if x3.length < 140737488355328 then ((impl_big.f k (x3 ++ [((rd_T70 x23 x25).f0) % 256]) ((rd_T70 x23 x25).f1) 2).bind fun t317 => (impl_Lsa_bytes.l0 k t317 x23 x24 (wrap64 (x25 + 1)) x303000 x303001 x303002 x303003 x303004)) else (none)) else (none)) else (none)) else (if x3.length < 140737488355328 then (impl_Lsa_bytes.l1 k (x3 ++ [((x303004.length : Int)) % 256]) x303004 (x303004.length : Int) 0) else (none))
def impl_Lsa_bytes.l1 : Nat → List Int → List (S74) → Int → Int → Option (List Int)
 | 0, _, _, _, _ => none
 | k + 1, x3, x47, x48, x49 => if x49 < x48 then (if 0 ≤ x49 then (if x49 < (x47.length : Int) then ((impl_big.f k x3 ((rd_T74 x47 x49).f0.f0) 2).bind fun t325 => (if t325.length < 140737488355328 then ((impl_big.f k (t325 ++ [((rd_T74 x47 x49).f0.f1) % 256]) ((rd_T74 x47 x49).f1) 2).bind fun t331 => (impl_Lsa_bytes.l1 k t331 x47 x48 (wrap64 (x49 + 1)))) else (none))) else (none)) else (none)) else (some x3)
end
def impl_Lsa_bytes.f (k : Nat) (a0_0 : Int) (a0_1 : Int) (a0_2 : Int) (l0_3 : List (S70)) (l0_4 : List (S74)) : Option (List Int) := (impl_big.f k (([(a0_0) % 256] : List Int)) a0_1 3).bind fun t306 => (if t306.length < 140737488355328 then (impl_Lsa_bytes.l0 k (t306 ++ [((l0_3.length : Int)) % 256]) l0_3 (l0_3.length : Int) 0 a0_0 a0_1 a0_2 l0_3 l0_4) else (none))
theorem impl_Lsa_bytes.mono_l : ∀ k, (∀ y0 y1 y2 y3 y4 y5 y6 y7 y8, LeO (impl_Lsa_bytes.l0 k y0 y1 y2 y3 y4 y5 y6 y7 y8) (impl_Lsa_bytes.l0 (k + 1) y0 y1 y2 y3 y4 y5 y6 y7 y8)) ∧ (∀ y0 y1 y2 y3, LeO (impl_Lsa_bytes.l1 k y0 y1 y2 y3) (impl_Lsa_bytes.l1 (k + 1) y0 y1 y2 y3))
 | 0 => ⟨fun _ _ _ _ _ _ _ _ _ r h => by simp [impl_Lsa_bytes.l0] at h, fun _ _ _ _ r h => by simp [impl_Lsa_bytes.l1] at h⟩
 | k + 1 => by
  obtain ⟨ih0, ih1⟩ := impl_Lsa_bytes.mono_l k
  refine ⟨?_, ?_⟩
  ·intro y0 y1 y2 y3 y4 y5 y6 y7 y8
   unfold impl_Lsa_bytes.l0
   repeat' first
   | (with_reducible exact ih0 _ _ _ _ _ _ _ _ _)
   | (with_reducible exact ih1 _ _ _ _)
   | (with_reducible exact impl_big.mono _ _ _ _)
   | (with_reducible exact LeO.refl _)
   | (with_reducible exact LeO.none _)
   | (with_reducible refine LeO.ite ?_ ?_)
   | (with_reducible refine LeO.bind ?_ (fun _ => ?_))
   | exact ih0 _ _ _ _ _ _ _ _ _
   | exact ih1 _ _ _ _
   | exact impl_big.mono _ _ _ _
   | exact LeO.none _
   | refine LeO.ite ?_ ?_
   | refine LeO.bind ?_ (fun _ => ?_)
  ·intro y0 y1 y2 y3
   unfold impl_Lsa_bytes.l1
   repeat' first
   | (with_reducible exact ih0 _ _ _ _ _ _ _ _ _)
   | (with_reducible exact ih1 _ _ _ _)
   | (with_reducible exact impl_big.mono _ _ _ _)
   | (with_reducible exact LeO.refl _)
   | (with_reducible exact LeO.none _)
   | (with_reducible refine LeO.ite ?_ ?_)
   | (with_reducible refine LeO.bind ?_ (fun _ => ?_))
   | exact ih0 _ _ _ _ _ _ _ _ _
   | exact ih1 _ _ _ _
   | exact impl_big.mono _ _ _ _
   | exact LeO.none _
   | refine LeO.ite ?_ ?_
   | refine LeO.bind ?_ (fun _ => ?_)
theorem impl_Lsa_bytes.mono : ∀ a0 a1 a2 a3 a4 k, LeO (impl_Lsa_bytes.f k a0 a1 a2 a3 a4) (impl_Lsa_bytes.f (k + 1) a0 a1 a2 a3 a4) := by
 intro a0 a1 a2 a3 a4 k
 obtain ⟨ih0, ih1⟩ := impl_Lsa_bytes.mono_l k
 unfold impl_Lsa_bytes.f
 repeat' first
   | (with_reducible exact ih0 _ _ _ _ _ _ _ _ _)
   | (with_reducible exact ih1 _ _ _ _)
   | (with_reducible exact impl_big.mono _ _ _ _)
   | (with_reducible exact LeO.refl _)
   | (with_reducible exact LeO.none _)
   | (with_reducible refine LeO.ite ?_ ?_)
   | (with_reducible refine LeO.bind ?_ (fun _ => ?_))
   | exact ih0 _ _ _ _ _ _ _ _ _
   | exact ih1 _ _ _ _
   | exact impl_big.mono _ _ _ _
   | exact LeO.none _
   | refine LeO.ite ?_ ?_
   | refine LeO.bind ?_ (fun _ => ?_)
def impl_Lsa_bytes.T6 : Bool × List (List Nat × List Nat) := (true, [([], []), ([], []), ([1], [1]), ([2], [2]), ([3], [3]), ([0, 4], [0, 4]), ([], []), ([6], [6]), ([5, 7, 5], [5, 7]), ([8, 8, 0, 1, 2, 3, 4, 5, 6, 7, 8], [0, 8])])
def impl_Lsa_bytes.B6 : List Nat := [0, 0, 2, 6, 14, 31, 0, 64, 255, 511]
theorem impl_Lsa_bytes.tab6 : rtab .any (opsOf Try.f77 6) = impl_Lsa_bytes.T6 := by kernel_rfl
theorem impl_Lsa_bytes.bits6 : waitsOk impl_Lsa_bytes.T6.2 impl_Lsa_bytes.B6 = true := by kernel_rfl
def impl_Lsa_bytes.T13 : Bool × List (List Nat × List Nat) := (true, [([], []), ([], []), ([1], [1]), ([2], [2]), ([3], [3]), ([4], [4]), ([0, 5], [0, 5]), ([], []), ([7], [7]), ([6, 8, 6], [6, 8]), ([9, 9, 0, 1, 2, 3, 4, 5, 6, 7, 8, 9], [0, 9])])
def impl_Lsa_bytes.B13 : List Nat := [0, 0, 2, 6, 14, 30, 63, 0, 128, 511, 1023]
theorem impl_Lsa_bytes.tab13 : rtab .any (opsOf Try.f77 13) = impl_Lsa_bytes.T13 := by kernel_rfl
theorem impl_Lsa_bytes.bits13 : waitsOk impl_Lsa_bytes.T13.2 impl_Lsa_bytes.B13 = true := by kernel_rfl
set_option maxHeartbeats 8000000 in
set_option maxRecDepth 100000 in
theorem impl_Lsa_bytes.calls (k : Nat) (a0_0 : Int) (a0_1 : Int) (a0_2 : Int) (A0_3 : Option Addr) (c0_3 : Nat) (l0_3 : List (S70)) (A0_4 : Option Addr) (c0_4 : Nat) (l0_4 : List (S74)) (r : List Int) (w : World) (hr0_3 : Kd.C k70 w A0_3 l0_3.length l0_3) (hc0_3 : l0_3.length ≤ c0_3) (hr0_4 : Kd.C k74 w A0_4 l0_4.length l0_4) (hc0_4 : l0_4.length ≤ c0_4) (h : impl_Lsa_bytes.f k a0_0 a0_1 a0_2 l0_3 l0_4 = some r) :
  Calls Try.prog 77 #[.agg #[.int .i64 a0_0, .int .i64 a0_1, .int .i64 a0_2, .slice A0_3 l0_3.length c0_3, .slice A0_4 l0_4.length c0_4]] w fun e w' => ∃ v0_ : Value, e = .returned (v0_) ∧ Kd.R (Kd.int .u8) 5 w' w.heap.size (fun _ => True) v0_ r ∧ Below w.heap.size w w' := by
 have hu31 := Try.underlying31
 have hu70 := Try.underlying70
 have hu74 := Try.underlying74
 have HR0_3 := Aside0.mk hr0_3
 have HC0_3 := Aside0.mk hc0_3
 clear hr0_3 hc0_3
 have HR0_4 := Aside0.mk hr0_4
 have HC0_4 := Aside0.mk hc0_4
 clear hr0_4 hc0_4
 have HB := Aside0.mk (Below.refl w.heap.size w)
 have H : ((impl_big.f k (([(a0_0) % 256] : List Int)) a0_1 3).bind fun t306 => (if t306.length < 140737488355328 then (impl_Lsa_bytes.l0 k (t306 ++ [((l0_3.length : Int)) % 256]) l0_3 (l0_3.length : Int) 0 a0_0 a0_1 a0_2 l0_3 l0_4) else (none))) = some r := h
 clear h
 obtain ⟨y303, hy303⟩ : ∃ y_ : List Int, y_ = (([(a0_0) % 256] : List Int)) := ⟨_, rfl⟩
 replace H : ((impl_big.f k y303 a0_1 3).bind fun t306 => (if t306.length < 140737488355328 then (impl_Lsa_bytes.l0 k (t306 ++ [((l0_3.length : Int)) % 256]) l0_3 (l0_3.length : Int) 0 a0_0 a0_1 a0_2 l0_3 l0_4) else (none))) = some r := by first | (rw [hy303]; with_reducible exact H) | (have H2_ := (Option.bind_some _ _).symm.trans H; rw [hy303]; with_reducible exact H2_) | (have H2_ := (Option.bind_some _ _).symm.trans H; with_reducible exact H2_) | with_reducible exact H | (rw [hy303]; exact H) | exact H
 have Ny303 := Aside0.mk hy303
 clear hy303
 replace H := Option.bind_eq_some_iff.mp H
 obtain ⟨t306, A20, H⟩ := H
 have A2 := Aside0.mk A20
 clear A20
 by_cases c3 : t306.length < 140737488355328
 ·rw [if_pos c3] at H
  have LMc3 := Aside0.mk c3
  clear c3
  obtain ⟨y309, hy309⟩ : ∃ y_ : List Int, y_ = (t306 ++ [((l0_3.length : Int)) % 256]) := ⟨_, rfl⟩
  replace H : (impl_Lsa_bytes.l0 k y309 l0_3 (l0_3.length : Int) 0 a0_0 a0_1 a0_2 l0_3 l0_4) = some r := by first | (rw [hy309]; with_reducible exact H) | (have H2_ := (Option.bind_some _ _).symm.trans H; rw [hy309]; with_reducible exact H2_) | (have H2_ := (Option.bind_some _ _).symm.trans H; with_reducible exact H2_) | with_reducible exact H | (rw [hy309]; exact H) | exact H
  have Ny309 := Aside0.mk hy309
  clear hy309
  have H' := Aside0.mk H
  clear H
  go_enter Try.func77, Try.ntmps77
  go_wp2_with (first | ((with_reducible refine gate_dst (N := 1) rfl ?_); refine box_event ?hg (N := 1) ?hd (cs := #[.int .i64 a0_0, .int .i64 a0_1, .int .i64 a0_2, .slice A0_3 l0_3.length c0_3, .slice A0_4 l0_4.length c0_4]) (t := 31) ?hr ?_; (case hd => rfl); (case hg => rfl); (case hr => first | (go_simp; done) | (go_simp; rfl)); intro gb302 hg w4 hbox hb; have BK302 := Aside0.mk hbox; have GW302 := ge_ HB hg; have GE302 := ge_ HB hg; replace HB := Aside0.mk (bt_ HB hb); clear hb hbox hg; have hcz5_0 := cz_ BK302 0 (.int .i64 a0_0); have hcz5_1 := cz_ BK302 1 (.int .i64 a0_1); have hcz5_2 := cz_ BK302 2 (.int .i64 a0_2); have hcz5_3 := cz_ BK302 3 (.slice A0_3 l0_3.length c0_3); have hcz5_4 := cz_ BK302 4 (.slice A0_4 l0_4.length c0_4); have hfz5_0 := blk_frozen BK302.out 0; have hfz5_1 := blk_frozen BK302.out 1; have hfz5_2 := blk_frozen BK302.out 2; have hfz5_3 := blk_frozen BK302.out 3; have hfz5_4 := blk_frozen BK302.out 4) | ((with_reducible refine gate_dst (N := 11) rfl ?_); refine Kd.R_lit (Kd.int .u8) _ 5 ?hg (N := 11) ?hd (xs := ([(a0_0) % 256] : List Int)) (inner := [.int .u8 ((a0_0) % 256)]) (ok := fun _ => True) (okp := fun _ => True) ?hr ?hp (fun _ hk => hk) trivial (Below.refl _ _) (Nat.le_refl _) (by simp) ?_; (case hd => rfl); (case hg => rfl); (case hr => first | (go_simp; done) | (go_simp; rfl)); (case hp => exact (Reps.one (show Kd.M (Kd.int .u8) _ _ _ ((a0_0) % 256) [.int .u8 ((a0_0) % 256)] from rfl) (Reps.none _ _))); intro v304 w6 ho7 hb hg_ hnew_; clear hg_ hnew_; (first | rw [← Ny303.out] at ho7 | (simp only [Int.reduceToNat] at ho7; rw [← Ny303.out] at ho7)); have HO305 := Aside0.mk (Kd.R_lower ho7 (bz_ HB)); replace BK302 := Aside0.mk (bb_ BK302 hb); replace HB := Aside0.mk (bt_ HB hb); clear hb ho7; have hcz8_0 := cz_ BK302 0 (.int .i64 a0_0); have hcz8_1 := cz_ BK302 1 (.int .i64 a0_1); have hcz8_2 := cz_ BK302 2 (.int .i64 a0_2); have hcz8_3 := cz_ BK302 3 (.slice A0_3 l0_3.length c0_3); have hcz8_4 := cz_ BK302 4 (.slice A0_4 l0_4.length c0_4); have hfz8_0 := blk_frozen BK302.out 0; have hfz8_1 := blk_frozen BK302.out 1; have hfz8_2 := blk_frozen BK302.out 2; have hfz8_3 := blk_frozen BK302.out 3; have hfz8_4 := blk_frozen BK302.out 4; obtain ⟨Ao9, co9, eo9⟩ := Kd.R_slice HO305.out; subst eo9) | ((with_reducible refine gate_callee (f := 78) rfl ?_); refine gl_ (some 14) Try.func78 #[.slice Ao9 y303.length co9, .int .i64 a0_1, .int .i64 3] ?_; (with_reducible refine (impl_big.calls k (fun k_ => some k_ = (.slice Ao9 y303.length co9 : Value).ownBlock) (.slice Ao9 y303.length co9) y303 a0_1 3 t306 w _ ?side1 ?side2 A2.out).mono ?_); (case side1 => exact by_ HB); (case side2 => exact Kd.R_tight rfl HO305.out); rintro e w10 ⟨v307, rfl, ho0, hb, hkp⟩; refine ⟨_, rfl, ?_⟩; have HO308 := Aside0.mk (Kd.R_mono (ok' := fun k_ => True) ho0 (fun k_ hk_ => trivial)); replace BK302 := bk_ BK302 hkp (fun hs_ => (Kd.R_ne HO305.out BK302.out (by decide)) hs_); replace HB := Aside0.mk (hb); clear HO305; (try clear hb); (try clear hkp); (try clear ho0); have hcz11_0 := cz_ BK302 0 (.int .i64 a0_0); have hcz11_1 := cz_ BK302 1 (.int .i64 a0_1); have hcz11_2 := cz_ BK302 2 (.int .i64 a0_2); have hcz11_3 := cz_ BK302 3 (.slice A0_3 l0_3.length c0_3); have hcz11_4 := cz_ BK302 4 (.slice A0_4 l0_4.length c0_4); have hfz11_0 := blk_frozen BK302.out 0; have hfz11_1 := blk_frozen BK302.out 1; have hfz11_2 := blk_frozen BK302.out 2; have hfz11_3 := blk_frozen BK302.out 3; have hfz11_4 := blk_frozen BK302.out 4) | ((with_reducible refine gate_builtin (b := .append) (xs := #[.tmp 15, .tmp 20]) rfl ?_); at_builtin; refine Kd.R_append (Kd.int .u8) (w0 := w) w.heap.size rfl (.tmp 15) (.tmp 20) 62 5 (.int .u8 0) 1 rfl Try.underlying62 info5 rfl (by decide) (by omega) v307 t306 (((l0_3.length : Int)) % 256) [.int .u8 (((l0_3.length : Int)) % 256)] (fun _ => True) (fun _ => False) rfl rfl ?aP (fun _ hk => hk.elim) ?aF ?aO ?aB ?aS ?aL ?_; (case aP => exact rfl); (case aB => exact (by repeat (first | (with_reducible first | exact HB.out | apply below_alloc | apply pw_below_drewN | apply below_drew1 | refine below_set ?_ GE302.out) | exact HB.out))); (case aF => exact (fun _ _ => trivial)); (case aO => exact (hd_ HO308)); (case aS => exact (bz_ HB)); (case aL => have := LMc3.out; omega); intro v310 w12 ho hb hg hat; rw [← Ny309.out] at ho; have HO311 := Aside0.mk ho; replace BK302 := Aside0.mk (blk_grown (g := gb302) (o := .cells #[.int .i64 a0_0, .int .i64 a0_1, .int .i64 a0_2, .slice A0_3 l0_3.length c0_3, .slice A0_4 l0_4.length c0_4] 31 (0, 0)) (by (with_reducible repeat (first | refine blk_drewN ?_ _ | refine blk_drew ?_ | refine blk_alloc ?_ _)); exact BK302.out) hg (Kd.R_ne HO308.out BK302.out (by decide))); replace HB := Aside0.mk (hb); clear HO308; clear ho hb hg hat; have hcz13_0 := cz_ BK302 0 (.int .i64 a0_0); have hcz13_1 := cz_ BK302 1 (.int .i64 a0_1); have hcz13_2 := cz_ BK302 2 (.int .i64 a0_2); have hcz13_3 := cz_ BK302 3 (.slice A0_3 l0_3.length c0_3); have hcz13_4 := cz_ BK302 4 (.slice A0_4 l0_4.length c0_4); have hfz13_0 := blk_frozen BK302.out 0; have hfz13_1 := blk_frozen BK302.out 1; have hfz13_2 := blk_frozen BK302.out 2; have hfz13_3 := blk_frozen BK302.out 3; have hfz13_4 := blk_frozen BK302.out 4))
  go_loopg [3, 25] k (fun kq v3 v25 w' => ∃ (x3_1 : List Int) (x25_1 : Int), v25 = .int .i64 x25_1 ∧ Aside0 (impl_Lsa_bytes.l0 kq x3_1 l0_3 (l0_3.length : Int) x25_1 a0_0 a0_1 a0_2 l0_3 l0_4 = some r) ∧ Aside0 (kq ≤ k) ∧ Aside0 (Kd.R (Kd.int .u8) 5 w' w.heap.size (fun _ => True) v3 x3_1) ∧ Aside0 (w'.heap[gb302]? = some (.cells #[.int .i64 a0_0, .int .i64 a0_1, .int .i64 a0_2, (.slice A0_3 l0_3.length c0_3), (.slice A0_4 l0_4.length c0_4)] 31 (0, 0))) ∧ Aside0 (Below w.heap.size w w'))
  case atStart => exact ⟨(y309), (0), (by first | rfl | (simp; done) | (simp [*]; done)), H', ⟨Nat.le_refl _⟩, ⟨by (with_reducible repeat (first | apply Kd.R_alloc | apply Kd.R_drewN | apply Kd.R_drew)); exact HO311.out⟩, ⟨by (with_reducible repeat (first | refine blk_drewN ?_ _ | refine blk_drew ?_ | refine blk_alloc ?_ _)); exact BK302.out⟩, ⟨by repeat (first | (with_reducible first | exact HB.out | apply below_alloc | apply pw_below_drewN | apply below_drew1 | refine below_set ?_ GE302.out) | exact HB.out)⟩⟩
  case round =>
   clear H'
   try clear p2
   try clear c3
   try clear c7
   try clear hcz11_0
   try clear hcz11_1
   try clear hcz11_2
   try clear hcz11_3
   try clear hcz11_4
   try clear hcz13_0
   try clear hcz13_1
   try clear hcz13_2
   try clear hcz13_3
   try clear hcz13_4
   try clear hcz5_0
   try clear hcz5_1
   try clear hcz5_2
   try clear hcz5_3
   try clear hcz5_4
   try clear hcz8_0
   try clear hcz8_1
   try clear hcz8_2
   try clear hcz8_3
   try clear hcz8_4
   try clear hfz11_0
   try clear hfz11_1
   try clear hfz11_2
   try clear hfz11_3
   try clear hfz11_4
   try clear hfz13_0
   try clear hfz13_1
   try clear hfz13_2
   try clear hfz13_3
   try clear hfz13_4
   try clear hfz5_0
   try clear hfz5_1
   try clear hfz5_2
   try clear hfz5_3
   try clear hfz5_4
   try clear hfz8_0
   try clear hfz8_1
   try clear hfz8_2
   try clear hfz8_3
   try clear hfz8_4
   obtain ⟨x3_1, x25_1, rfl, HA, HK1, HO_3, BK302, HB⟩ := hrel
   cases gk with
   | zero => exact absurd HA.out (by simp [impl_Lsa_bytes.l0])
   | succ k1 =>
    have H := HA.out
    clear HA
    simp only [impl_Lsa_bytes.l0] at H
    by_cases c14 : x25_1 < (l0_3.length : Int)
    ·rw [if_pos c14] at H
     have c14b0 : decide (x25_1 < (l0_3.length : Int)) = true := decide_eq_true c14
     clear c14
     by_cases c15 : 0 ≤ x25_1
     ·rw [if_pos c15] at H
      have c15b0 : decide (0 ≤ x25_1) = true := decide_eq_true c15
      clear c15
      by_cases c16 : x25_1 < (l0_3.length : Int)
      ·rw [if_pos c16] at H
       have c16b0 : decide (x25_1 < (l0_3.length : Int)) = true := decide_eq_true c16
       clear c16
       by_cases c17 : x3_1.length < 140737488355328
       ·rw [if_pos c17] at H
        have LMc17 := Aside0.mk c17
        clear c17
        obtain ⟨y314, hy314⟩ : ∃ y_ : List Int, y_ = (x3_1 ++ [((rd_T70 l0_3 x25_1).f0) % 256]) := ⟨_, rfl⟩
        replace H : ((impl_big.f k1 y314 ((rd_T70 l0_3 x25_1).f1) 2).bind fun t317 => (impl_Lsa_bytes.l0 k1 t317 l0_3 (l0_3.length : Int) (wrap64 (x25_1 + 1)) a0_0 a0_1 a0_2 l0_3 l0_4)) = some r := by first | (rw [hy314]; with_reducible exact H) | (have H2_ := (Option.bind_some _ _).symm.trans H; rw [hy314]; with_reducible exact H2_) | (have H2_ := (Option.bind_some _ _).symm.trans H; with_reducible exact H2_) | with_reducible exact H | (rw [hy314]; exact H) | exact H
        have Ny314 := Aside0.mk hy314
        clear hy314
        replace H := Option.bind_eq_some_iff.mp H
        obtain ⟨t317, A180, H⟩ := H
        have A18 := Aside0.mk A180
        clear A180
        have H' := Aside0.mk H
        clear H
        have p312 : 0 ≤ (x25_1 : Int) := of_decide_eq_true (by first | (with_reducible assumption) | assumption)
        have q312 : x25_1 < (l0_3.length : Int) := of_decide_eq_true (by first | (with_reducible assumption) | assumption)
        obtain ⟨ad312, e312, hx312_0, hx312_1⟩ := at_T70 HR0_3.out x25_1 p312 q312
        cases e312
        replace hx312_0 := (HB.out.cell (World.block_lt_of_cell? w _ hx312_0)).trans hx312_0
        replace hx312_1 := (HB.out.cell (World.block_lt_of_cell? w _ hx312_1)).trans hx312_1
        replace p312 := eq_true p312
        replace q312 := eq_true q312
        try go_wp2_with (first | ((with_reducible refine gate_dst (N := 5) rfl ?_); refine box_event ?hg (N := 5) ?hd (cs := #[.int .i64 0, .int .i64 0]) (t := 70) ?hr ?_; (case hd => rfl); (case hg => rfl); (case hr => first | (go_simp; done) | (go_simp; rfl)); intro gb313 hg w19 hbox hb; have BK313 := Aside0.mk hbox; have GW313 := ge_ HB hg; have GE313 := ge_ HB hg; have NB302_313 := nl_ BK302 hg; have NB313_302 := ng_ BK302 hg; replace HO_3 := rb_ HO_3 hb; replace HB := Aside0.mk (bt_ HB hb); replace BK302 := Aside0.mk (bb_ BK302 hb); clear hb hbox hg; have hnb20 := NB313_302.out; have hnc20 := NB302_313.out; have hcz21_0 := cz_ BK313 0 (.int .i64 0); have hcz21_1 := cz_ BK313 1 (.int .i64 0); have hfz21_0 := blk_frozen BK313.out 0; have hfz21_1 := blk_frozen BK313.out 1))
        have n0_ : Aside0 (Kd.R (Kd.int .u8) 5 ((w19.setCell ⟨gb313, 0, none⟩ (.int .i64 ((rd_T70 l0_3 x25_1).f0))).setCell ⟨gb313, 1, none⟩ (.int .i64 ((rd_T70 l0_3 x25_1).f1))) w.heap.size (fun _ => True) u3 x3_1) := ⟨by (with_reducible repeat (first | apply Kd.R_alloc | apply Kd.R_drewN | apply Kd.R_drew)); exact Kd.R_mono (Kd.R_far (p := ⟨gb313, 1, none⟩) (Kd.R_far (p := ⟨gb313, 0, none⟩) (Kd.R_types HO_3.out BK313.out (by decide)) (fun _ hk => hk.2) (.int .i64 ((rd_T70 l0_3 x25_1).f0))) (fun _ hk => hk.2) (.int .i64 ((rd_T70 l0_3 x25_1).f1))) (fun _ hk => trivial)⟩
        have n1_ : Aside0 (((w19.setCell ⟨gb313, 0, none⟩ (.int .i64 ((rd_T70 l0_3 x25_1).f0))).setCell ⟨gb313, 1, none⟩ (.int .i64 ((rd_T70 l0_3 x25_1).f1))).heap[gb302]? = some (.cells #[.int .i64 a0_0, .int .i64 a0_1, .int .i64 a0_2, .slice (some ad312) l0_3.length c0_3, .slice A0_4 l0_4.length c0_4] 31 (0, 0))) := ⟨by (with_reducible repeat (first | refine blk_drewN ?_ _ | refine blk_drew ?_ | refine blk_alloc ?_ _)); refine blk_far ?_ NB302_313.out _; (with_reducible repeat (first | refine blk_drewN ?_ _ | refine blk_drew ?_ | refine blk_alloc ?_ _)); refine blk_far ?_ NB302_313.out _; (with_reducible repeat (first | refine blk_drewN ?_ _ | refine blk_drew ?_ | refine blk_alloc ?_ _)); exact BK302.out⟩
        have n2_ : Aside0 (((w19.setCell ⟨gb313, 0, none⟩ (.int .i64 ((rd_T70 l0_3 x25_1).f0))).setCell ⟨gb313, 1, none⟩ (.int .i64 ((rd_T70 l0_3 x25_1).f1))).heap[gb313]? = some (.cells #[.int .i64 ((rd_T70 l0_3 x25_1).f0), .int .i64 ((rd_T70 l0_3 x25_1).f1)] 70 (0, 0))) := ⟨by (with_reducible repeat (first | refine blk_drewN ?_ _ | refine blk_drew ?_ | refine blk_alloc ?_ _)); refine blk_put (cs := #[.int .i64 ((rd_T70 l0_3 x25_1).f0), .int .i64 0]) ?_ 1 _ rfl; (with_reducible repeat (first | refine blk_drewN ?_ _ | refine blk_drew ?_ | refine blk_alloc ?_ _)); refine blk_put (cs := #[.int .i64 0, .int .i64 0]) ?_ 0 _ rfl; (with_reducible repeat (first | refine blk_drewN ?_ _ | refine blk_drew ?_ | refine blk_alloc ?_ _)); exact BK313.out⟩
        have n3_ : Aside0 (Below w.heap.size w ((w19.setCell ⟨gb313, 0, none⟩ (.int .i64 ((rd_T70 l0_3 x25_1).f0))).setCell ⟨gb313, 1, none⟩ (.int .i64 ((rd_T70 l0_3 x25_1).f1)))) := ⟨by repeat (first | (with_reducible first | exact HB.out | apply below_alloc | apply pw_below_drewN | apply below_drew1 | refine below_set ?_ GE302.out | refine below_set ?_ GE313.out) | exact HB.out)⟩
        (try clear HO_3)
        (try clear BK302)
        (try clear BK313)
        (try clear HB)
        generalize ((w19.setCell ⟨gb313, 0, none⟩ (.int .i64 ((rd_T70 l0_3 x25_1).f0))).setCell ⟨gb313, 1, none⟩ (.int .i64 ((rd_T70 l0_3 x25_1).f1))) = w22 at n0_ n1_ n2_ n3_ ⊢
        have HO_3 := n0_
        have BK302 := n1_
        have BK313 := n2_
        have HB := n3_
        clear n0_ n1_ n2_ n3_
        replace HO_3 := Aside0.mk (Kd.R_drew HO_3.out)
        replace BK302 := Aside0.mk (blk_drew BK302.out)
        replace BK313 := Aside0.mk (blk_drew BK313.out)
        replace HB := Aside0.mk (below_drew1 HB.out)
        refine start_ (n := 10) (S := fun w' => w'.cell? ⟨gb313, 0, none⟩ = some (.int .i64 ((rd_T70 l0_3 x25_1).f0)) ∧ w'.cell? ⟨gb313, 1, none⟩ = some (.int .i64 ((rd_T70 l0_3 x25_1).f1))) (ds := []) ba14_0 (by kernel_rfl) rfl rfl ⟨(blk_cell BK313.out 0).trans rfl, (blk_cell BK313.out 1).trans rfl⟩ (fun hHeld => ?_); refine with_tabW impl_Lsa_bytes.tab6 impl_Lsa_bytes.bits6 (fun HT_ HW_ => ?_)
        generalize w22.drew = w23 at HO_3 BK302 BK313 HB hHeld ⊢
        refine pz_ 0 29 ba14_1 HT_ ?_
        refine pz_ 1 30 ba14_2 HT_ ?_
        refine pz_ 6 35 ba14_3 HT_ ?_
        refine pt_ 2 31 ba14_4 HT_ HW_ hHeld ?_
        refine pz_ 3 32 ba14_5 HT_ ?_
        refine pt_ 7 36 ba14_6 HT_ HW_ hHeld ?_
        refine one_ (i := 4) (N := some 33) ba14_7 rfl rfl (one_of HT_.out (by kernel_rfl)) (by decide) (fun K hK => ?_)
        refine value_ (w1 := ?_) (v := ?_) (by rfl) rfl ?_ ?_
        rotate_left 2
        ·go_simp
         constructor
         ·rfl
         ·rfl
        refine hK.out _ _ ⟨(blk_cell (blk_alloc BK313.out _) 0).trans rfl, (blk_cell (blk_alloc BK313.out _) 1).trans rfl⟩ (fun hHeld => ?_)
        clear hK K
        refine nz_ 33 ?_
        refine one_ (i := 5) (N := some 34) ba14_8 rfl rfl (one_of HT_.out (by kernel_rfl)) (by decide) (fun K hK => ?_)
        refine Kd.R_append_step (Kd.int .u8) (w0 := w) w.heap.size (by rfl) (.tmp 29) (.tmp 33) 62 5 (.int .u8 0) 1 rfl Try.underlying62 info5 rfl (by decide) (by omega) u3 x3_1 (((rd_T70 l0_3 x25_1).f0) % 256) [.int .u8 (((rd_T70 l0_3 x25_1).f0) % 256)] (fun _ => True) (fun _ => False) rfl rfl ?aP (fun _ hk => hk.elim) ?aF ?aO ?aB ?aS ?aL ?_
        (case aP => exact rfl)
        (case aB => exact (by repeat (first | (with_reducible first | exact HB.out | apply below_alloc | apply pw_below_drewN | apply below_drew1 | refine below_set ?_ GE302.out | refine below_set ?_ GE313.out) | exact HB.out)))
        (case aF => exact (fun _ _ => trivial))
        (case aO => exact (hd_ HO_3))
        (case aS => exact (bz_ HB))
        (case aL => have := LMc17.out; omega)
        intro v315 w24 ho hb hg hat
        rw [← Ny314.out] at ho
        have HO316 := Aside0.mk ho
        replace BK302 := Aside0.mk (blk_grown (g := gb302) (o := .cells #[.int .i64 a0_0, .int .i64 a0_1, .int .i64 a0_2, .slice (some ad312) l0_3.length c0_3, .slice A0_4 l0_4.length c0_4] 31 (0, 0)) (by (with_reducible repeat (first | refine blk_drewN ?_ _ | refine blk_drew ?_ | refine blk_alloc ?_ _)); exact BK302.out) hg (Kd.R_ne HO_3.out BK302.out (by decide)))
        replace BK313 := Aside0.mk (blk_grown (g := gb313) (o := .cells #[.int .i64 ((rd_T70 l0_3 x25_1).f0), .int .i64 ((rd_T70 l0_3 x25_1).f1)] 70 (0, 0)) (by (with_reducible repeat (first | refine blk_drewN ?_ _ | refine blk_drew ?_ | refine blk_alloc ?_ _)); exact BK313.out) hg (Kd.R_ne HO_3.out BK313.out (by decide)))
        replace HB := Aside0.mk (hb)
        clear HO_3
        clear ho hb hg hat
        obtain ⟨Ao25, co25, eo25⟩ := Kd.R_slice HO316.out
        (first | subst eo25 | (injection eo25 with f1_ f2_ f3_; have f4_ := f1_.symm; have f5_ := f3_.symm; clear f1_ f2_ f3_; subst f4_; subst f5_))
        refine hK.out _ _ ⟨(blk_cell BK313.out 0).trans rfl, (blk_cell BK313.out 1).trans rfl⟩ (fun hHeld => ?_)
        clear hK K
        refine nz_ 34 ?_
        refine one_ (i := 8) (N := some 37) ba14_9 rfl rfl (one_of HT_.out (by kernel_rfl)) (by decide) (fun K hK => ?_)
        refine gz_ Try.func78 #[.slice Ao25 y314.length co25, .int .i64 ((rd_T70 l0_3 x25_1).f1), .int .i64 2] ?_
        with_reducible refine (impl_big.calls k1 (fun k_ => some k_ = (.slice Ao25 y314.length co25 : Value).ownBlock) (.slice Ao25 y314.length co25) y314 ((rd_T70 l0_3 x25_1).f1) 2 t317 w _ ?side1 ?side2 A18.out).mono ?_
        (case side1 => exact by_ HB)
        (case side2 => exact Kd.R_tight rfl HO316.out)
        rintro e w26 ⟨v318, rfl, ho0, hb, hkp⟩
        refine ⟨_, rfl, ?_⟩
        have HO319 := Aside0.mk (Kd.R_mono (ok' := fun k_ => True) ho0 (fun k_ hk_ => trivial))
        replace BK302 := bk_ BK302 hkp (fun hs_ => (Kd.R_ne HO316.out BK302.out (by decide)) hs_)
        replace BK313 := bk_ BK313 hkp (fun hs_ => (Kd.R_ne HO316.out BK313.out (by decide)) hs_)
        replace HB := Aside0.mk (hb)
        clear HO316
        (try clear hb)
        (try clear hkp)
        (try clear ho0)
        refine hK.out _ _ ⟨(blk_cell BK313.out 0).trans rfl, (blk_cell BK313.out 1).trans rfl⟩ (fun hHeld => ?_)
        clear hK K
        refine nz_ 37 ?_
        refine pz_ 9 3 ba14_10 HT_ ?_
        refine done_ (done_of HT_.out (by kernel_rfl)) ?_
        try go_wp2
        go_roundg k1
        case measure => have := HK1.out; omega
        case rel => exact ⟨(t317), (wrap64 (x25_1 + 1)), (by first | rfl | (simp; done) | (simp [*]; done)), H', ⟨by have := HK1.out; omega⟩, ⟨by (with_reducible repeat (first | apply Kd.R_alloc | apply Kd.R_drewN | apply Kd.R_drew)); exact HO319.out⟩, ⟨by (with_reducible repeat (first | refine blk_drewN ?_ _ | refine blk_drew ?_ | refine blk_alloc ?_ _)); exact BK302.out⟩, ⟨by repeat (first | (with_reducible first | exact HB.out | apply below_alloc | apply pw_below_drewN | apply below_drew1 | refine below_set ?_ GE302.out | refine below_set ?_ GE313.out) | exact HB.out)⟩⟩
       ·rw [if_neg c17] at H
        exact absurd H (by simp)
      ·rw [if_neg c16] at H
       exact absurd H (by simp)
     ·rw [if_neg c15] at H
      exact absurd H (by simp)
    ·rw [if_neg c14] at H
     have c14b0 : decide (x25_1 < (l0_3.length : Int)) = false := decide_eq_false c14
     clear c14
     by_cases c27 : x3_1.length < 140737488355328
     ·rw [if_pos c27] at H
      have LMc27 := Aside0.mk c27
      clear c27
      obtain ⟨y320, hy320⟩ : ∃ y_ : List Int, y_ = (x3_1 ++ [((l0_4.length : Int)) % 256]) := ⟨_, rfl⟩
      replace H : (impl_Lsa_bytes.l1 k1 y320 l0_4 (l0_4.length : Int) 0) = some r := by first | (rw [hy320]; with_reducible exact H) | (have H2_ := (Option.bind_some _ _).symm.trans H; rw [hy320]; with_reducible exact H2_) | (have H2_ := (Option.bind_some _ _).symm.trans H; with_reducible exact H2_) | with_reducible exact H | (rw [hy320]; exact H) | exact H
      have Ny320 := Aside0.mk hy320
      clear hy320
      have H' := Aside0.mk H
      clear H
      have hcz28_0 := cz_ BK302 0 (.int .i64 a0_0)
      have hcz28_1 := cz_ BK302 1 (.int .i64 a0_1)
      have hcz28_2 := cz_ BK302 2 (.int .i64 a0_2)
      have hcz28_3 := cz_ BK302 3 (.slice A0_3 l0_3.length c0_3)
      have hcz28_4 := cz_ BK302 4 (.slice A0_4 l0_4.length c0_4)
      have hfz28_0 := blk_frozen BK302.out 0
      have hfz28_1 := blk_frozen BK302.out 1
      have hfz28_2 := blk_frozen BK302.out 2
      have hfz28_3 := blk_frozen BK302.out 3
      have hfz28_4 := blk_frozen BK302.out 4
      go_wp2_with (first | ((with_reducible refine gate_builtin (b := .append) (xs := #[.tmp 39, .tmp 44]) rfl ?_); at_builtin; refine Kd.R_append (Kd.int .u8) (w0 := w) w.heap.size rfl (.tmp 39) (.tmp 44) 62 5 (.int .u8 0) 1 rfl Try.underlying62 info5 rfl (by decide) (by omega) u3 x3_1 (((l0_4.length : Int)) % 256) [.int .u8 (((l0_4.length : Int)) % 256)] (fun _ => True) (fun _ => False) rfl rfl ?aP (fun _ hk => hk.elim) ?aF ?aO ?aB ?aS ?aL ?_; (case aP => exact rfl); (case aB => exact (by repeat (first | (with_reducible first | exact HB.out | apply below_alloc | apply pw_below_drewN | apply below_drew1 | refine below_set ?_ GE302.out) | exact HB.out))); (case aF => exact (fun _ _ => trivial)); (case aO => exact (hd_ HO_3)); (case aS => exact (bz_ HB)); (case aL => have := LMc27.out; omega); intro v321 w29 ho hb hg hat; rw [← Ny320.out] at ho; have HO322 := Aside0.mk ho; replace BK302 := Aside0.mk (blk_grown (g := gb302) (o := .cells #[.int .i64 a0_0, .int .i64 a0_1, .int .i64 a0_2, .slice A0_3 l0_3.length c0_3, .slice A0_4 l0_4.length c0_4] 31 (0, 0)) (by (with_reducible repeat (first | refine blk_drewN ?_ _ | refine blk_drew ?_ | refine blk_alloc ?_ _)); exact BK302.out) hg (Kd.R_ne HO_3.out BK302.out (by decide))); replace HB := Aside0.mk (hb); clear HO_3; clear ho hb hg hat; have hcz30_0 := cz_ BK302 0 (.int .i64 a0_0); have hcz30_1 := cz_ BK302 1 (.int .i64 a0_1); have hcz30_2 := cz_ BK302 2 (.int .i64 a0_2); have hcz30_3 := cz_ BK302 3 (.slice A0_3 l0_3.length c0_3); have hcz30_4 := cz_ BK302 4 (.slice A0_4 l0_4.length c0_4); have hfz30_0 := blk_frozen BK302.out 0; have hfz30_1 := blk_frozen BK302.out 1; have hfz30_2 := blk_frozen BK302.out 2; have hfz30_3 := blk_frozen BK302.out 3; have hfz30_4 := blk_frozen BK302.out 4))
      go_loopg [3, 49] k1 (fun kq v3 v49 w' => ∃ (x3_2 : List Int) (x49_2 : Int), v49 = .int .i64 x49_2 ∧ Aside0 (impl_Lsa_bytes.l1 kq x3_2 l0_4 (l0_4.length : Int) x49_2 = some r) ∧ Aside0 (kq ≤ k1) ∧ Aside0 (Kd.R (Kd.int .u8) 5 w' w.heap.size (fun _ => True) v3 x3_2) ∧ Aside0 (w'.heap[gb302]? = some (.cells #[.int .i64 a0_0, .int .i64 a0_1, .int .i64 a0_2, (.slice A0_3 l0_3.length c0_3), (.slice A0_4 l0_4.length c0_4)] 31 (0, 0))) ∧ Aside0 (Below w.heap.size w w'))
      case atStart => exact ⟨(y320), (0), (by first | rfl | (simp; done) | (simp [*]; done)), H', ⟨Nat.le_refl _⟩, ⟨by (with_reducible repeat (first | apply Kd.R_alloc | apply Kd.R_drewN | apply Kd.R_drew)); exact HO322.out⟩, ⟨by (with_reducible repeat (first | refine blk_drewN ?_ _ | refine blk_drew ?_ | refine blk_alloc ?_ _)); exact BK302.out⟩, ⟨by repeat (first | (with_reducible first | exact HB.out | apply below_alloc | apply pw_below_drewN | apply below_drew1 | refine below_set ?_ GE302.out) | exact HB.out)⟩⟩
      case round =>
       clear H'
       try clear c1
       try clear c2
       try clear p2
       try clear c3
       try clear p3
       try clear q3
       try clear hx3
       try clear p6
       try clear c7
       try clear c14
       try clear c14b0
       try clear c15
       try clear c15b0
       try clear c16
       try clear c16b0
       try clear c17
       try clear c20
       try clear c27
       try clear hcz11_0
       try clear hcz11_1
       try clear hcz11_2
       try clear hcz11_3
       try clear hcz11_4
       try clear hcz13_0
       try clear hcz13_1
       try clear hcz13_2
       try clear hcz13_3
       try clear hcz13_4
       try clear hcz21_0
       try clear hcz21_1
       try clear hcz28_0
       try clear hcz28_1
       try clear hcz28_2
       try clear hcz28_3
       try clear hcz28_4
       try clear hcz30_0
       try clear hcz30_1
       try clear hcz30_2
       try clear hcz30_3
       try clear hcz30_4
       try clear hcz5_0
       try clear hcz5_1
       try clear hcz5_2
       try clear hcz5_3
       try clear hcz5_4
       try clear hcz8_0
       try clear hcz8_1
       try clear hcz8_2
       try clear hcz8_3
       try clear hcz8_4
       try clear hfz11_0
       try clear hfz11_1
       try clear hfz11_2
       try clear hfz11_3
       try clear hfz11_4
       try clear hfz13_0
       try clear hfz13_1
       try clear hfz13_2
       try clear hfz13_3
       try clear hfz13_4
       try clear hfz21_0
       try clear hfz21_1
       try clear hfz28_0
       try clear hfz28_1
       try clear hfz28_2
       try clear hfz28_3
       try clear hfz28_4
       try clear hfz30_0
       try clear hfz30_1
       try clear hfz30_2
       try clear hfz30_3
       try clear hfz30_4
       try clear hfz5_0
       try clear hfz5_1
       try clear hfz5_2
       try clear hfz5_3
       try clear hfz5_4
       try clear hfz8_0
       try clear hfz8_1
       try clear hfz8_2
       try clear hfz8_3
       try clear hfz8_4
       try clear hx312_0
       try clear hx312_1
       try clear p2
       try clear p312
       try clear q312
       obtain ⟨x3_2, x49_2, rfl, HA, HK2, HO_3, BK302, HB⟩ := hrel
       cases gk with
       | zero => exact absurd HA.out (by simp [impl_Lsa_bytes.l1])
       | succ k2 =>
        have H := HA.out
        clear HA
        simp only [impl_Lsa_bytes.l1] at H
        by_cases c31 : x49_2 < (l0_4.length : Int)
        ·rw [if_pos c31] at H
         have c31b0 : decide (x49_2 < (l0_4.length : Int)) = true := decide_eq_true c31
         clear c31
         by_cases c32 : 0 ≤ x49_2
         ·rw [if_pos c32] at H
          have c32b0 : decide (0 ≤ x49_2) = true := decide_eq_true c32
          clear c32
          by_cases c33 : x49_2 < (l0_4.length : Int)
          ·rw [if_pos c33] at H
           have c33b0 : decide (x49_2 < (l0_4.length : Int)) = true := decide_eq_true c33
           clear c33
           replace H := Option.bind_eq_some_iff.mp H
           obtain ⟨t325, A340, H⟩ := H
           have A34 := Aside0.mk A340
           clear A340
           by_cases c35 : t325.length < 140737488355328
           ·rw [if_pos c35] at H
            have LMc35 := Aside0.mk c35
            clear c35
            obtain ⟨y328, hy328⟩ : ∃ y_ : List Int, y_ = (t325 ++ [((rd_T74 l0_4 x49_2).f0.f1) % 256]) := ⟨_, rfl⟩
            replace H : ((impl_big.f k2 y328 ((rd_T74 l0_4 x49_2).f1) 2).bind fun t331 => (impl_Lsa_bytes.l1 k2 t331 l0_4 (l0_4.length : Int) (wrap64 (x49_2 + 1)))) = some r := by first | (rw [hy328]; with_reducible exact H) | (have H2_ := (Option.bind_some _ _).symm.trans H; rw [hy328]; with_reducible exact H2_) | (have H2_ := (Option.bind_some _ _).symm.trans H; with_reducible exact H2_) | with_reducible exact H | (rw [hy328]; exact H) | exact H
            have Ny328 := Aside0.mk hy328
            clear hy328
            replace H := Option.bind_eq_some_iff.mp H
            obtain ⟨t331, A360, H⟩ := H
            have A36 := Aside0.mk A360
            clear A360
            have H' := Aside0.mk H
            clear H
            have p323 : 0 ≤ (x49_2 : Int) := of_decide_eq_true (by first | (with_reducible assumption) | assumption)
            have q323 : x49_2 < (l0_4.length : Int) := of_decide_eq_true (by first | (with_reducible assumption) | assumption)
            obtain ⟨ad323, e323, hx323_0, hx323_1, hx323_2⟩ := at_T74 HR0_4.out x49_2 p323 q323
            cases e323
            replace hx323_0 := (HB.out.cell (World.block_lt_of_cell? w _ hx323_0)).trans hx323_0
            replace hx323_1 := (HB.out.cell (World.block_lt_of_cell? w _ hx323_1)).trans hx323_1
            replace hx323_2 := (HB.out.cell (World.block_lt_of_cell? w _ hx323_2)).trans hx323_2
            replace p323 := eq_true p323
            replace q323 := eq_true q323
            try go_wp2_with (first | ((with_reducible refine gate_dst (N := 7) rfl ?_); refine box_event ?hg (N := 7) ?hd (cs := #[.int .i64 0, .int .i64 0, .int .i64 0]) (t := 74) ?hr ?_; (case hd => rfl); (case hg => rfl); (case hr => first | (go_simp; done) | (go_simp; rfl)); intro gb324 hg w37 hbox hb; have BK324 := Aside0.mk hbox; have GW324 := ge_ HB hg; have GE324 := ge_ HB hg; have NB302_324 := nl_ BK302 hg; have NB324_302 := ng_ BK302 hg; replace HO_3 := rb_ HO_3 hb; replace HB := Aside0.mk (bt_ HB hb); replace BK302 := Aside0.mk (bb_ BK302 hb); clear hb hbox hg; have hnb38 := NB324_302.out; have hnc38 := NB302_324.out; have hcz39_0 := cz_ BK324 0 (.int .i64 0); have hcz39_1 := cz_ BK324 1 (.int .i64 0); have hcz39_2 := cz_ BK324 2 (.int .i64 0); have hfz39_0 := blk_frozen BK324.out 0; have hfz39_1 := blk_frozen BK324.out 1; have hfz39_2 := blk_frozen BK324.out 2) | ((with_reducible refine gate_store (t := 74) (p := 7) rfl ?_); refine store_event (t := 74) (p := 7) (v := ?vo_w40) (w1 := (((w37.setCell ⟨gb324, 0, none⟩ (.int .i64 ((rd_T74 l0_4 x49_2).f0.f0))).setCell ⟨gb324, 1, none⟩ (.int .i64 ((rd_T74 l0_4 x49_2).f0.f1))).setCell ⟨gb324, 2, none⟩ (.int .i64 ((rd_T74 l0_4 x49_2).f1)))) ?hg ?ho ?hn ?hr ?_; (case ho => rfl); (case hg => rfl); (case hn => rfl); (case hr => first | (go_simp; done) | (go_simp; rfl)); intro w40 hw; replace HO_3 : Aside0 (Kd.R (Kd.int .u8) 5 w40 w.heap.size (fun _ => True) u3 x3_2) := ⟨(by rw [hw]; exact (by (with_reducible repeat (first | apply Kd.R_alloc | apply Kd.R_drewN | apply Kd.R_drew)); exact Kd.R_mono (Kd.R_far (p := ⟨gb324, 2, none⟩) (Kd.R_far (p := ⟨gb324, 1, none⟩) (Kd.R_far (p := ⟨gb324, 0, none⟩) (Kd.R_types HO_3.out BK324.out (by decide)) (fun _ hk => hk.2) (.int .i64 ((rd_T74 l0_4 x49_2).f0.f0))) (fun _ hk => hk.2) (.int .i64 ((rd_T74 l0_4 x49_2).f0.f1))) (fun _ hk => hk.2) (.int .i64 ((rd_T74 l0_4 x49_2).f1))) (fun _ hk => trivial)))⟩; replace BK302 : Aside0 (w40.heap[gb302]? = some (.cells #[.int .i64 a0_0, .int .i64 a0_1, .int .i64 a0_2, .slice A0_3 l0_3.length c0_3, .slice (some ad323) l0_4.length c0_4] 31 (0, 0))) := ⟨(by rw [hw]; exact (by (with_reducible repeat (first | refine blk_drewN ?_ _ | refine blk_drew ?_ | refine blk_alloc ?_ _)); refine blk_far ?_ NB302_324.out _; (with_reducible repeat (first | refine blk_drewN ?_ _ | refine blk_drew ?_ | refine blk_alloc ?_ _)); refine blk_far ?_ NB302_324.out _; (with_reducible repeat (first | refine blk_drewN ?_ _ | refine blk_drew ?_ | refine blk_alloc ?_ _)); refine blk_far ?_ NB302_324.out _; (with_reducible repeat (first | refine blk_drewN ?_ _ | refine blk_drew ?_ | refine blk_alloc ?_ _)); exact BK302.out))⟩; replace BK324 : Aside0 (w40.heap[gb324]? = some (.cells #[.int .i64 ((rd_T74 l0_4 x49_2).f0.f0), .int .i64 ((rd_T74 l0_4 x49_2).f0.f1), .int .i64 ((rd_T74 l0_4 x49_2).f1)] 74 (0, 0))) := ⟨(by rw [hw]; exact (by (with_reducible repeat (first | refine blk_drewN ?_ _ | refine blk_drew ?_ | refine blk_alloc ?_ _)); refine blk_put (cs := #[.int .i64 ((rd_T74 l0_4 x49_2).f0.f0), .int .i64 ((rd_T74 l0_4 x49_2).f0.f1), .int .i64 0]) ?_ 2 _ rfl; (with_reducible repeat (first | refine blk_drewN ?_ _ | refine blk_drew ?_ | refine blk_alloc ?_ _)); refine blk_put (cs := #[.int .i64 ((rd_T74 l0_4 x49_2).f0.f0), .int .i64 0, .int .i64 0]) ?_ 1 _ rfl; (with_reducible repeat (first | refine blk_drewN ?_ _ | refine blk_drew ?_ | refine blk_alloc ?_ _)); refine blk_put (cs := #[.int .i64 0, .int .i64 0, .int .i64 0]) ?_ 0 _ rfl; (with_reducible repeat (first | refine blk_drewN ?_ _ | refine blk_drew ?_ | refine blk_alloc ?_ _)); exact BK324.out))⟩; replace HB : Aside0 (Below w.heap.size w w40) := ⟨(by rw [hw]; exact (by repeat (first | (with_reducible first | exact HB.out | apply below_alloc | apply pw_below_drewN | apply below_drew1 | refine below_set ?_ GE302.out | refine below_set ?_ GE324.out) | exact HB.out)))⟩; clear hw; have hcz41_0 := cz_ BK324 0 (.int .i64 ((rd_T74 l0_4 x49_2).f0.f0)); have hcz41_1 := cz_ BK324 1 (.int .i64 ((rd_T74 l0_4 x49_2).f0.f1)); have hcz41_2 := cz_ BK324 2 (.int .i64 ((rd_T74 l0_4 x49_2).f1)); have hfz41_0 := blk_frozen BK324.out 0; have hfz41_1 := blk_frozen BK324.out 1; have hfz41_2 := blk_frozen BK324.out 2; obtain ⟨Ao42, co42, eo42⟩ := Kd.R_slice HO_3.out; subst eo42) | ((with_reducible refine gate_callee (f := 78) rfl ?_); refine gl_ (some 57) Try.func78 #[.slice Ao42 x3_2.length co42, .int .i64 ((rd_T74 l0_4 x49_2).f0.f0), .int .i64 2] ?_; (with_reducible refine (impl_big.calls k2 (fun k_ => some k_ = (.slice Ao42 x3_2.length co42 : Value).ownBlock) (.slice Ao42 x3_2.length co42) x3_2 ((rd_T74 l0_4 x49_2).f0.f0) 2 t325 w _ ?side1 ?side2 A34.out).mono ?_); (case side1 => exact by_ HB); (case side2 => exact Kd.R_tight rfl HO_3.out); rintro e w43 ⟨v326, rfl, ho0, hb, hkp⟩; refine ⟨_, rfl, ?_⟩; have HO327 := Aside0.mk (Kd.R_mono (ok' := fun k_ => True) ho0 (fun k_ hk_ => trivial)); replace BK302 := bk_ BK302 hkp (fun hs_ => (Kd.R_ne HO_3.out BK302.out (by decide)) hs_); replace BK324 := bk_ BK324 hkp (fun hs_ => (Kd.R_ne HO_3.out BK324.out (by decide)) hs_); replace HB := Aside0.mk (hb); clear HO_3; (try clear hb); (try clear hkp); (try clear ho0)))
            replace HO327 := Aside0.mk (Kd.R_drew HO327.out)
            replace BK302 := Aside0.mk (blk_drew BK302.out)
            replace BK324 := Aside0.mk (blk_drew BK324.out)
            replace HB := Aside0.mk (below_drew1 HB.out)
            refine start_ (n := 11) (S := fun w' => w'.cell? ⟨gb324, 0, none⟩ = some (.int .i64 ((rd_T74 l0_4 x49_2).f0.f0)) ∧ w'.cell? ⟨gb324, 1, none⟩ = some (.int .i64 ((rd_T74 l0_4 x49_2).f0.f1)) ∧ w'.cell? ⟨gb324, 2, none⟩ = some (.int .i64 ((rd_T74 l0_4 x49_2).f1))) (ds := []) ba14_11 (by kernel_rfl) rfl rfl ⟨(blk_cell BK324.out 0).trans rfl, (blk_cell BK324.out 1).trans rfl, (blk_cell BK324.out 2).trans rfl⟩ (fun hHeld => ?_); refine with_tabW impl_Lsa_bytes.tab13 impl_Lsa_bytes.bits13 (fun HT_ HW_ => ?_)
            generalize w43.drew = w44 at HO327 BK302 BK324 HB hHeld ⊢
            refine pz_ 0 58 ba14_12 HT_ ?_
            refine pz_ 1 59 ba14_13 HT_ ?_
            refine pz_ 2 60 ba14_14 HT_ ?_
            refine pz_ 7 65 ba14_15 HT_ ?_
            refine pt_ 3 61 ba14_16 HT_ HW_ hHeld ?_
            refine pz_ 4 62 ba14_17 HT_ ?_
            refine pt_ 8 66 ba14_18 HT_ HW_ hHeld ?_
            refine one_ (i := 5) (N := some 63) ba14_19 rfl rfl (one_of HT_.out (by kernel_rfl)) (by decide) (fun K hK => ?_)
            refine value_ (w1 := ?_) (v := ?_) (by rfl) rfl ?_ ?_
            rotate_left 2
            ·go_simp
             constructor
             ·rfl
             ·rfl
            refine hK.out _ _ ⟨(blk_cell (blk_alloc BK324.out _) 0).trans rfl, (blk_cell (blk_alloc BK324.out _) 1).trans rfl, (blk_cell (blk_alloc BK324.out _) 2).trans rfl⟩ (fun hHeld => ?_)
            clear hK K
            refine nz_ 63 ?_
            refine one_ (i := 6) (N := some 64) ba14_20 rfl rfl (one_of HT_.out (by kernel_rfl)) (by decide) (fun K hK => ?_)
            refine Kd.R_append_step (Kd.int .u8) (w0 := w) w.heap.size (by rfl) (.tmp 58) (.tmp 63) 62 5 (.int .u8 0) 1 rfl Try.underlying62 info5 rfl (by decide) (by omega) v326 t325 (((rd_T74 l0_4 x49_2).f0.f1) % 256) [.int .u8 (((rd_T74 l0_4 x49_2).f0.f1) % 256)] (fun _ => True) (fun _ => False) rfl rfl ?aP (fun _ hk => hk.elim) ?aF ?aO ?aB ?aS ?aL ?_
            (case aP => exact rfl)
            (case aB => exact (by repeat (first | (with_reducible first | exact HB.out | apply below_alloc | apply pw_below_drewN | apply below_drew1 | refine below_set ?_ GE302.out | refine below_set ?_ GE324.out) | exact HB.out)))
            (case aF => exact (fun _ _ => trivial))
            (case aO => exact (hd_ HO327))
            (case aS => exact (bz_ HB))
            (case aL => have := LMc35.out; omega)
            intro v329 w45 ho hb hg hat
            rw [← Ny328.out] at ho
            have HO330 := Aside0.mk ho
            replace BK302 := Aside0.mk (blk_grown (g := gb302) (o := .cells #[.int .i64 a0_0, .int .i64 a0_1, .int .i64 a0_2, .slice A0_3 l0_3.length c0_3, .slice (some ad323) l0_4.length c0_4] 31 (0, 0)) (by (with_reducible repeat (first | refine blk_drewN ?_ _ | refine blk_drew ?_ | refine blk_alloc ?_ _)); exact BK302.out) hg (Kd.R_ne HO327.out BK302.out (by decide)))
            replace BK324 := Aside0.mk (blk_grown (g := gb324) (o := .cells #[.int .i64 ((rd_T74 l0_4 x49_2).f0.f0), .int .i64 ((rd_T74 l0_4 x49_2).f0.f1), .int .i64 ((rd_T74 l0_4 x49_2).f1)] 74 (0, 0)) (by (with_reducible repeat (first | refine blk_drewN ?_ _ | refine blk_drew ?_ | refine blk_alloc ?_ _)); exact BK324.out) hg (Kd.R_ne HO327.out BK324.out (by decide)))
            replace HB := Aside0.mk (hb)
            clear HO327
            clear ho hb hg hat
            obtain ⟨Ao46, co46, eo46⟩ := Kd.R_slice HO330.out
            (first | subst eo46 | (injection eo46 with f1_ f2_ f3_; have f4_ := f1_.symm; have f5_ := f3_.symm; clear f1_ f2_ f3_; subst f4_; subst f5_))
            refine hK.out _ _ ⟨(blk_cell BK324.out 0).trans rfl, (blk_cell BK324.out 1).trans rfl, (blk_cell BK324.out 2).trans rfl⟩ (fun hHeld => ?_)
            clear hK K
            refine nz_ 64 ?_
            refine one_ (i := 9) (N := some 67) ba14_21 rfl rfl (one_of HT_.out (by kernel_rfl)) (by decide) (fun K hK => ?_)
            refine gz_ Try.func78 #[.slice Ao46 y328.length co46, .int .i64 ((rd_T74 l0_4 x49_2).f1), .int .i64 2] ?_
            with_reducible refine (impl_big.calls k2 (fun k_ => some k_ = (.slice Ao46 y328.length co46 : Value).ownBlock) (.slice Ao46 y328.length co46) y328 ((rd_T74 l0_4 x49_2).f1) 2 t331 w _ ?side1 ?side2 A36.out).mono ?_
            (case side1 => exact by_ HB)
            (case side2 => exact Kd.R_tight rfl HO330.out)
            rintro e w47 ⟨v332, rfl, ho0, hb, hkp⟩
            refine ⟨_, rfl, ?_⟩
            have HO333 := Aside0.mk (Kd.R_mono (ok' := fun k_ => True) ho0 (fun k_ hk_ => trivial))
            replace BK302 := bk_ BK302 hkp (fun hs_ => (Kd.R_ne HO330.out BK302.out (by decide)) hs_)
            replace BK324 := bk_ BK324 hkp (fun hs_ => (Kd.R_ne HO330.out BK324.out (by decide)) hs_)
            replace HB := Aside0.mk (hb)
            clear HO330
            (try clear hb)
            (try clear hkp)
            (try clear ho0)
            refine hK.out _ _ ⟨(blk_cell BK324.out 0).trans rfl, (blk_cell BK324.out 1).trans rfl, (blk_cell BK324.out 2).trans rfl⟩ (fun hHeld => ?_)
            clear hK K
            refine nz_ 67 ?_
            refine pz_ 10 3 ba14_22 HT_ ?_
            refine done_ (done_of HT_.out (by kernel_rfl)) ?_
            try go_wp2
            go_roundg k2
            case measure => have := HK1.out; have := HK2.out; omega
            case rel => exact ⟨(t331), (wrap64 (x49_2 + 1)), (by first | rfl | (simp; done) | (simp [*]; done)), H', ⟨by have := HK1.out; have := HK2.out; omega⟩, ⟨by (with_reducible repeat (first | apply Kd.R_alloc | apply Kd.R_drewN | apply Kd.R_drew)); exact HO333.out⟩, ⟨by (with_reducible repeat (first | refine blk_drewN ?_ _ | refine blk_drew ?_ | refine blk_alloc ?_ _)); exact BK302.out⟩, ⟨by repeat (first | (with_reducible first | exact HB.out | apply below_alloc | apply pw_below_drewN | apply below_drew1 | refine below_set ?_ GE302.out | refine below_set ?_ GE324.out) | exact HB.out)⟩⟩
           ·rw [if_neg c35] at H
            exact absurd H (by simp)
          ·rw [if_neg c33] at H
           exact absurd H (by simp)
         ·rw [if_neg c32] at H
          exact absurd H (by simp)
        ·rw [if_neg c31] at H
         have c31b0 : decide (x49_2 < (l0_4.length : Int)) = false := decide_eq_false c31
         clear c31
         obtain rfl := Option.some.inj H
         go_wp2
         go_ret
         exact ⟨_, by first | rfl | (simp [errW_none, errW_some] <;> rfl) | (simp [*, errW_none, errW_some] <;> rfl), by (with_reducible repeat (first | apply Kd.R_alloc | apply Kd.R_drewN | apply Kd.R_drew)); exact HO_3.out, by repeat (first | (with_reducible first | exact HB.out | apply below_alloc | apply pw_below_drewN | apply below_drew1 | refine below_set ?_ GE302.out) | exact HB.out)⟩
     ·rw [if_neg c27] at H
      exact absurd H (by simp)
 ·rw [if_neg c3] at H
  exact absurd H (by simp)

/-! ### impl_Lsa_sum: function 63 -/
def impl_Lsa_sum.l0 : Nat → Int → List Int → Int → Int → Option (Int)
 | 0, _, _, _, _ => none
 | k + 1, x3, x7, x8, x9 => if x9 < x8 then (if 0 ≤ x9 then (if x9 < (x7.length : Int) then (impl_Lsa_sum.l0 k (Int.tmod (wrap64 ((wrap64 ((wrap64 (257 * x3)) + (wrap64 (rd x7 x9)))) + 1)) 1000003) x7 x8 (wrap64 (x9 + 1))) else (none)) else (none)) else (some x3)
def impl_Lsa_sum.f (k : Nat) (a0_0 : Int) (a0_1 : Int) (a0_2 : Int) (l0_3 : List (S70)) (l0_4 : List (S74)) : Option (Int) := (impl_Lsa_bytes.f k a0_0 a0_1 a0_2 l0_3 l0_4).bind fun t335 => (impl_Lsa_sum.l0 k 1 t335 (t335.length : Int) 0)
theorem impl_Lsa_sum.mono_l : ∀ k, (∀ y0 y1 y2 y3, LeO (impl_Lsa_sum.l0 k y0 y1 y2 y3) (impl_Lsa_sum.l0 (k + 1) y0 y1 y2 y3))
 | 0 => fun _ _ _ _ r h => by simp [impl_Lsa_sum.l0] at h
 | k + 1 => by
  have ih0 := impl_Lsa_sum.mono_l k
  ·intro y0 y1 y2 y3
   unfold impl_Lsa_sum.l0
   repeat' first
   | (with_reducible exact ih0 _ _ _ _)
   | (with_reducible exact impl_Lsa_bytes.mono _ _ _ _ _ _)
   | (with_reducible exact LeO.refl _)
   | (with_reducible exact LeO.none _)
   | (with_reducible refine LeO.ite ?_ ?_)
   | (with_reducible refine LeO.bind ?_ (fun _ => ?_))
   | exact ih0 _ _ _ _
   | exact impl_Lsa_bytes.mono _ _ _ _ _ _
   | exact LeO.none _
   | refine LeO.ite ?_ ?_
   | refine LeO.bind ?_ (fun _ => ?_)
theorem impl_Lsa_sum.mono : ∀ a0 a1 a2 a3 a4 k, LeO (impl_Lsa_sum.f k a0 a1 a2 a3 a4) (impl_Lsa_sum.f (k + 1) a0 a1 a2 a3 a4) := by
 intro a0 a1 a2 a3 a4 k
 have ih0 := impl_Lsa_sum.mono_l k
 unfold impl_Lsa_sum.f
 repeat' first
   | (with_reducible exact ih0 _ _ _ _)
   | (with_reducible exact impl_Lsa_bytes.mono _ _ _ _ _ _)
   | (with_reducible exact LeO.refl _)
   | (with_reducible exact LeO.none _)
   | (with_reducible refine LeO.ite ?_ ?_)
   | (with_reducible refine LeO.bind ?_ (fun _ => ?_))
   | exact ih0 _ _ _ _
   | exact impl_Lsa_bytes.mono _ _ _ _ _ _
   | exact LeO.none _
   | refine LeO.ite ?_ ?_
   | refine LeO.bind ?_ (fun _ => ?_)
set_option maxHeartbeats 8000000 in
set_option maxRecDepth 100000 in
theorem impl_Lsa_sum.calls (k : Nat) (a0_0 : Int) (a0_1 : Int) (a0_2 : Int) (A0_3 : Option Addr) (c0_3 : Nat) (l0_3 : List (S70)) (A0_4 : Option Addr) (c0_4 : Nat) (l0_4 : List (S74)) (r : Int) (w : World) (hr0_3 : Kd.C k70 w A0_3 l0_3.length l0_3) (hc0_3 : l0_3.length ≤ c0_3) (hr0_4 : Kd.C k74 w A0_4 l0_4.length l0_4) (hc0_4 : l0_4.length ≤ c0_4) (h : impl_Lsa_sum.f k a0_0 a0_1 a0_2 l0_3 l0_4 = some r) :
  Calls Try.prog 63 #[.agg #[.int .i64 a0_0, .int .i64 a0_1, .int .i64 a0_2, .slice A0_3 l0_3.length c0_3, .slice A0_4 l0_4.length c0_4]] w fun e w' => e = .returned (.int .i64 r) ∧ Below w.heap.size w w' := by
 have hu31 := Try.underlying31
 have HR0_3 := Aside0.mk hr0_3
 have HC0_3 := Aside0.mk hc0_3
 clear hr0_3 hc0_3
 have HR0_4 := Aside0.mk hr0_4
 have HC0_4 := Aside0.mk hc0_4
 clear hr0_4 hc0_4
 have HB := Aside0.mk (Below.refl w.heap.size w)
 have H : ((impl_Lsa_bytes.f k a0_0 a0_1 a0_2 l0_3 l0_4).bind fun t335 => (impl_Lsa_sum.l0 k 1 t335 (t335.length : Int) 0)) = some r := h
 clear h
 replace H := Option.bind_eq_some_iff.mp H
 obtain ⟨t335, A20, H⟩ := H
 have A2 := Aside0.mk A20
 clear A20
 have H' := Aside0.mk H
 clear H
 go_enter Try.func63, Try.ntmps63
 go_wp2_with (first | ((with_reducible refine gate_dst (N := 1) rfl ?_); refine box_event ?hg (N := 1) ?hd (cs := #[.int .i64 a0_0, .int .i64 a0_1, .int .i64 a0_2, .slice A0_3 l0_3.length c0_3, .slice A0_4 l0_4.length c0_4]) (t := 31) ?hr ?_; (case hd => rfl); (case hg => rfl); (case hr => first | (go_simp; done) | (go_simp; rfl)); intro gb334 hg w3 hbox hb; have BK334 := Aside0.mk hbox; have GW334 := ge_ HB hg; have GE334 := ge_ HB hg; replace HB := Aside0.mk (bt_ HB hb); clear hb hbox hg; have hcz4_0 := cz_ BK334 0 (.int .i64 a0_0); have hcz4_1 := cz_ BK334 1 (.int .i64 a0_1); have hcz4_2 := cz_ BK334 2 (.int .i64 a0_2); have hcz4_3 := cz_ BK334 3 (.slice A0_3 l0_3.length c0_3); have hcz4_4 := cz_ BK334 4 (.slice A0_4 l0_4.length c0_4); have hfz4_0 := blk_frozen BK334.out 0; have hfz4_1 := blk_frozen BK334.out 1; have hfz4_2 := blk_frozen BK334.out 2; have hfz4_3 := blk_frozen BK334.out 3; have hfz4_4 := blk_frozen BK334.out 4) | ((with_reducible refine gate_callee (f := 77) rfl ?_); refine gl_ (some 7) Try.func77 #[.agg #[.int .i64 a0_0, .int .i64 a0_1, .int .i64 a0_2, .slice A0_3 l0_3.length c0_3, .slice A0_4 l0_4.length c0_4]] ?_; (with_reducible refine (impl_Lsa_bytes.calls k a0_0 a0_1 a0_2 _ _ l0_3 _ _ l0_4 t335 _ ?side1 ?side2 ?side3 ?side4 A2.out).mono ?_); (case side1 => exact cb_ HR0_3 HB); (case side2 => exact HC0_3.out); (case side3 => exact cb_ HR0_4 HB); (case side4 => exact HC0_4.out); rintro e w5 ⟨v336, rfl, ho0, hb⟩; refine ⟨_, rfl, ?_⟩; have HO337 := Aside0.mk (Kd.R_lower ho0 (bz_ HB)); replace BK334 := Aside0.mk (bb_ BK334 hb); replace HB := Aside0.mk (bt_ HB hb); (try clear hb); (try clear hb2); (try clear hk); (try clear hi); (try clear ho0); obtain ⟨Ao6, co6, eo6⟩ := Kd.R_slice HO337.out; subst eo6))
 go_loopg [3, 9] k (fun kq v3 v9 w' => ∃ (x3_1 : Int) (x9_1 : Int), v3 = .int .i64 x3_1 ∧ v9 = .int .i64 x9_1 ∧ Aside0 (impl_Lsa_sum.l0 kq x3_1 t335 (t335.length : Int) x9_1 = some r) ∧ Aside0 (kq ≤ k) ∧ Aside0 (Kd.R (Kd.int .u8) 5 w' w.heap.size (fun _ => True) (.slice Ao6 t335.length co6) t335) ∧ Aside0 (w'.heap[gb334]? = some (.cells #[.int .i64 a0_0, .int .i64 a0_1, .int .i64 a0_2, (.slice A0_3 l0_3.length c0_3), (.slice A0_4 l0_4.length c0_4)] 31 (0, 0))) ∧ Aside0 (Below w.heap.size w w'))
 case atStart => exact ⟨(1), (0), (by first | rfl | (simp; done) | (simp [*]; done)), (by first | rfl | (simp; done) | (simp [*]; done)), H', ⟨Nat.le_refl _⟩, ⟨by (with_reducible repeat (first | apply Kd.R_alloc | apply Kd.R_drewN | apply Kd.R_drew)); exact HO337.out⟩, ⟨by (with_reducible repeat (first | refine blk_drewN ?_ _ | refine blk_drew ?_ | refine blk_alloc ?_ _)); exact BK334.out⟩, ⟨by repeat (first | (with_reducible first | exact HB.out | apply below_alloc | apply pw_below_drewN | apply below_drew1 | refine below_set ?_ GE334.out) | exact HB.out)⟩⟩
 case round =>
  clear H'
  try clear p2
  try clear c6
  try clear hcz4_0
  try clear hcz4_1
  try clear hcz4_2
  try clear hcz4_3
  try clear hcz4_4
  try clear hfz4_0
  try clear hfz4_1
  try clear hfz4_2
  try clear hfz4_3
  try clear hfz4_4
  obtain ⟨x3_1, x9_1, rfl, rfl, HA, HK1, HO_7, BK334, HB⟩ := hrel
  cases gk with
  | zero => exact absurd HA.out (by simp [impl_Lsa_sum.l0])
  | succ k1 =>
   have H := HA.out
   clear HA
   simp only [impl_Lsa_sum.l0] at H
   by_cases c7 : x9_1 < (t335.length : Int)
   ·rw [if_pos c7] at H
    have c7b0 : decide (x9_1 < (t335.length : Int)) = true := decide_eq_true c7
    clear c7
    by_cases c8 : 0 ≤ x9_1
    ·rw [if_pos c8] at H
     have c8b0 : decide (0 ≤ x9_1) = true := decide_eq_true c8
     clear c8
     by_cases c9 : x9_1 < (t335.length : Int)
     ·rw [if_pos c9] at H
      have c9b0 : decide (x9_1 < (t335.length : Int)) = true := decide_eq_true c9
      clear c9
      have H' := Aside0.mk H
      clear H
      have p338 : 0 ≤ (x9_1 : Int) := of_decide_eq_true (by first | (with_reducible assumption) | assumption)
      have q338 : x9_1 < (t335.length : Int) := of_decide_eq_true (by first | (with_reducible assumption) | assumption)
      obtain ⟨ad338, e338, hx338_0⟩ := Kd.at_int (Kd.R_reads' HO_7.out).2.2 x9_1 p338 q338
      cases e338
      replace p338 := eq_true p338
      replace q338 := eq_true q338
      go_wp2
      go_roundg k1
      case measure => have := HK1.out; omega
      case rel => exact ⟨(Int.tmod (wrap64 ((wrap64 ((wrap64 (257 * x3_1)) + (wrap64 (rd t335 x9_1)))) + 1)) 1000003), (wrap64 (x9_1 + 1)), (by first | rfl | (simp; done) | (simp [*]; done)), (by first | rfl | (simp; done) | (simp [*]; done)), H', ⟨by have := HK1.out; omega⟩, ⟨by (with_reducible repeat (first | apply Kd.R_alloc | apply Kd.R_drewN | apply Kd.R_drew)); exact HO_7.out⟩, ⟨by (with_reducible repeat (first | refine blk_drewN ?_ _ | refine blk_drew ?_ | refine blk_alloc ?_ _)); exact BK334.out⟩, ⟨by repeat (first | (with_reducible first | exact HB.out | apply below_alloc | apply pw_below_drewN | apply below_drew1 | refine below_set ?_ GE334.out) | exact HB.out)⟩⟩
     ·rw [if_neg c9] at H
      exact absurd H (by simp)
    ·rw [if_neg c8] at H
     exact absurd H (by simp)
   ·rw [if_neg c7] at H
    have c7b0 : decide (x9_1 < (t335.length : Int)) = false := decide_eq_false c7
    clear c7
    obtain rfl := Option.some.inj H
    go_wp2
    go_ret
    exact ⟨by first | rfl | (simp [errW_none, errW_some] <;> rfl) | (simp [*, errW_none, errW_some] <;> rfl), by repeat (first | (with_reducible first | exact HB.out | apply below_alloc | apply pw_below_drewN | apply below_drew1 | refine below_set ?_ GE334.out) | exact HB.out)⟩

end Go.Proofs.Ytiikcfaodkiakaa.QFnExactNewer
