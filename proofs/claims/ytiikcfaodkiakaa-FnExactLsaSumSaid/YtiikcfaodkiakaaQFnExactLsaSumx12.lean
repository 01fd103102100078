/- Contracts of functions that the law reaches: what each call returns and what it leaves in memory. Made by this session over the print of the kit. -/
import Derived.Test.YtiikcfaodkiakaaQFnExactLsaSumx0
import Derived.Test.YtiikcfaodkiakaaQFnExactLsaSumx11
namespace Go.Proofs.Ytiikcfaodkiakaa.QFnExactLsaSum
open Go.RowKit Go.Proofs.YtiikcfaodkiakaaV.PrintWords Go.Proofs.YtiikcfaodkiakaaV.PrintLast Go.Proofs.YtiikcfaodkiakaaV.PrintMore
attribute [local go_sem] max2_int min2_int max_two min_two max_three min_three max_four min_four   -- for this text's walks alone
set_option linter.unusedVariables false
set_option linter.unusedSimpArgs false
def ba12_0 : Array Bool := #[false, false, false, false, false, false, false, false, false, false]
def ba12_1 : Array Bool := #[true, false, false, false, false, false, false, false, false, false]
def ba12_2 : Array Bool := #[true, true, false, false, false, false, false, false, false, false]
def ba12_3 : Array Bool := #[true, true, false, false, false, false, true, false, false, false]
def ba12_4 : Array Bool := #[true, true, true, false, false, false, true, false, false, false]
def ba12_5 : Array Bool := #[true, true, true, true, false, false, true, false, false, false]
def ba12_6 : Array Bool := #[true, true, true, true, false, false, true, true, false, false]
def ba12_7 : Array Bool := #[true, true, true, true, true, false, true, true, false, false]
def ba12_8 : Array Bool := #[true, true, true, true, true, true, true, true, false, false]
def ba12_9 : Array Bool := #[true, true, true, true, true, true, true, true, true, false]
def ba12_10 : Array Bool := #[true, true, true, true, true, true, true, true, true, true]
def ba12_11 : Array Bool := #[false, false, false, false, false, false, false, false, false, false, false]
def ba12_12 : Array Bool := #[true, false, false, false, false, false, false, false, false, false, false]
def ba12_13 : Array Bool := #[true, true, false, false, false, false, false, false, false, false, false]
def ba12_14 : Array Bool := #[true, true, true, false, false, false, false, false, false, false, false]
def ba12_15 : Array Bool := #[true, true, true, false, false, false, false, true, false, false, false]
def ba12_16 : Array Bool := #[true, true, true, true, false, false, false, true, false, false, false]
def ba12_17 : Array Bool := #[true, true, true, true, true, false, false, true, false, false, false]
def ba12_18 : Array Bool := #[true, true, true, true, true, false, false, true, true, false, false]
def ba12_19 : Array Bool := #[true, true, true, true, true, true, false, true, true, false, false]
def ba12_20 : Array Bool := #[true, true, true, true, true, true, true, true, true, false, false]
def ba12_21 : Array Bool := #[true, true, true, true, true, true, true, true, true, true, false]
def ba12_22 : Array Bool := #[true, true, true, true, true, true, true, true, true, true, true]

/-! ### impl_Lsa_bytes: function 77 -/
mutual
def impl_Lsa_bytes.l0 : Nat → List Int → List (S70) → Int → Int → Int → Int → Int → List (S70) → List (S74) → Option (List Int)
 | 0, _, _, _, _, _, _, _, _, _ => none
 | k + 1, x3, x23, x24, x25, x290000, x290001, x290002, x290003, x290004 => if x25 < x24 then (if 0 ≤ x25 then (if x25 < (x23.length : Int) then (if x3.length < 140737488355328 then ((impl_big.f k (x3 ++ [((rd_T70 x23 x25).f0) % 256]) ((rd_T70 x23 x25).f1) 2).bind fun t304 => (impl_Lsa_bytes.l0 k t304 x23 x24 (wrap64 (x25 + 1)) x290000 x290001 x290002 x290003 x290004)) else (none)) else (none)) else (none)) else (if x3.length < 140737488355328 then (impl_Lsa_bytes.l1 k (x3 ++ [((x290004.length : Int)) % 256]) x290004 (x290004.length : Int) 0) else (none))
def impl_Lsa_bytes.l1 : Nat → List Int → List (S74) → Int → Int → Option (List Int)
 | 0, _, _, _, _ => none
 | k + 1, x3, x47, x48, x49 => if x49 < x48 then (if 0 ≤ x49 then (if x49 < (x47.length : Int) then ((impl_big.f k x3 ((rd_T74 x47 x49).f0.f0) 2).bind fun t312 => (if t312.length < 140737488355328 then ((impl_big.f k (t312 ++ [((rd_T74 x47 x49).f0.f1) % 256]) ((rd_T74 x47 x49).f1) 2).bind fun t318 => (impl_Lsa_bytes.l1 k t318 x47 x48 (wrap64 (x49 + 1)))) else (none))) else (none)) else (none)) else (some x3)
end
def impl_Lsa_bytes.f (k : Nat) (a0_0 : Int) (a0_1 : Int) (a0_2 : Int) (l0_3 : List (S70)) (l0_4 : List (S74)) : Option (List Int) := (impl_big.f k (([(a0_0) % 256] : List Int)) a0_1 3).bind fun t293 => (if t293.length < 140737488355328 then (impl_Lsa_bytes.l0 k (t293 ++ [((l0_3.length : Int)) % 256]) l0_3 (l0_3.length : Int) 0 a0_0 a0_1 a0_2 l0_3 l0_4) else (none))
theorem impl_Lsa_bytes.mono_l : ∀ k, (∀ y0 y1 y2 y3 y4 y5 y6 y7 y8, LeO (impl_Lsa_bytes.l0 k y0 y1 y2 y3 y4 y5 y6 y7 y8) (impl_Lsa_bytes.l0 (k + 1) y0 y1 y2 y3 y4 y5 y6 y7 y8)) ∧ (∀ y0 y1 y2 y3, LeO (impl_Lsa_bytes.l1 k y0 y1 y2 y3) (impl_Lsa_bytes.l1 (k + 1) y0 y1 y2 y3))
 | 0 => ⟨fun _ _ _ _ _ _ _ _ _ r h => by simp [impl_Lsa_bytes.l0] at h, fun _ _ _ _ r h => by simp [impl_Lsa_bytes.l1] at h⟩
 | k + 1 => by
  obtain ⟨ih0, ih1⟩ := impl_Lsa_bytes.mono_l k
  refine ⟨?_, ?_⟩
  ·intro y0 y1 y2 y3 y4 y5 y6 y7 y8
   unfold impl_Lsa_bytes.l0
   repeat' first
   | (with_reducible exact ih0 _ _ _ _ _ _ _ _ _)
   | (with_reducible exact ih1 _ _ _ _)
   | (with_reducible exact impl_big.mono _ _ _ _)
   | (with_reducible exact LeO.refl _)
   | (with_reducible exact LeO.none _)
   | (with_reducible refine LeO.ite ?_ ?_)
   | (with_reducible refine LeO.bind ?_ (fun _ => ?_))
   | exact ih0 _ _ _ _ _ _ _ _ _
   | exact ih1 _ _ _ _
   | exact impl_big.mono _ _ _ _
   | exact LeO.none _
   | refine LeO.ite ?_ ?_
   | refine LeO.bind ?_ (fun _ => ?_)
  ·intro y0 y1 y2 y3
   unfold impl_Lsa_bytes.l1
   repeat' first
   | (with_reducible exact ih0 _ _ _ _ _ _ _ _ _)
   | (with_reducible exact ih1 _ _ _ _)
   | (with_reducible exact impl_big.mono _ _ _ _)
   | (with_reducible exact LeO.refl _)
   | (with_reducible exact LeO.none _)
   | (with_reducible refine LeO.ite ?_ ?_)
   | (with_reducible refine LeO.bind ?_ (fun _ => ?_))
   | exact ih0 _ _ _ _ _ _ _ _ _
   | exact ih1 _ _ _ _
   | exact impl_big.mono _ _ _ _
   | exact LeO.none _
   | refine LeO.ite ?_ ?_
   | refine LeO.bind ?_ (fun _ => ?_)
theorem impl_Lsa_bytes.mono : ∀ a0 a1 a2 a3 a4 k, LeO (impl_Lsa_bytes.f k a0 a1 a2 a3 a4) (impl_Lsa_bytes.f (k + 1) a0 a1 a2 a3 a4) := by
 intro a0 a1 a2 a3 a4 k
 obtain ⟨ih0, ih1⟩ := impl_Lsa_bytes.mono_l k
 unfold impl_Lsa_bytes.f
 repeat' first
   | (with_reducible exact ih0 _ _ _ _ _ _ _ _ _)
   | (with_reducible exact ih1 _ _ _ _)
   | (with_reducible exact impl_big.mono _ _ _ _)
   | (with_reducible exact LeO.refl _)
   | (with_reducible exact LeO.none _)
   | (with_reducible refine LeO.ite ?_ ?_)
   | (with_reducible refine LeO.bind ?_ (fun _ => ?_))
   | exact ih0 _ _ _ _ _ _ _ _ _
   | exact ih1 _ _ _ _
   | exact impl_big.mono _ _ _ _
   | exact LeO.none _
   | refine LeO.ite ?_ ?_
   | refine LeO.bind ?_ (fun _ => ?_)
def impl_Lsa_bytes.T6 : Bool × List (List Nat × List Nat) := (true, [([], []), ([], []), ([1], [1]), ([2], [2]), ([3], [3]), ([0, 4], [0, 4]), ([], []), ([6], [6]), ([5, 7, 5], [5, 7]), ([8, 8, 0, 1, 2, 3, 4, 5, 6, 7, 8], [0, 8])])
def impl_Lsa_bytes.B6 : List Nat := [0, 0, 2, 6, 14, 31, 0, 64, 255, 511]
theorem impl_Lsa_bytes.tab6 : rtab .any (opsOf Try.f77 6) = impl_Lsa_bytes.T6 := by kernel_rfl
theorem impl_Lsa_bytes.bits6 : waitsOk impl_Lsa_bytes.T6.2 impl_Lsa_bytes.B6 = true := by kernel_rfl
def impl_Lsa_bytes.T13 : Bool × List (List Nat × List Nat) := (true, [([], []), ([], []), ([1], [1]), ([2], [2]), ([3], [3]), ([4], [4]), ([0, 5], [0, 5]), ([], []), ([7], [7]), ([6, 8, 6], [6, 8]), ([9, 9, 0, 1, 2, 3, 4, 5, 6, 7, 8, 9], [0, 9])])
def impl_Lsa_bytes.B13 : List Nat := [0, 0, 2, 6, 14, 30, 63, 0, 128, 511, 1023]
theorem impl_Lsa_bytes.tab13 : rtab .any (opsOf Try.f77 13) = impl_Lsa_bytes.T13 := by kernel_rfl
theorem impl_Lsa_bytes.bits13 : waitsOk impl_Lsa_bytes.T13.2 impl_Lsa_bytes.B13 = true := by kernel_rfl
set_option maxHeartbeats 8000000 in
set_option maxRecDepth 100000 in
theorem impl_Lsa_bytes.calls (k : Nat) (a0_0 : Int) (a0_1 : Int) (a0_2 : Int) (A0_3 : Option Addr) (c0_3 : Nat) (l0_3 : List (S70)) (A0_4 : Option Addr) (c0_4 : Nat) (l0_4 : List (S74)) (r : List Int) (w : World) (hr0_3 : Kd.C k70 w A0_3 l0_3.length l0_3) (hc0_3 : l0_3.length ≤ c0_3) (hr0_4 : Kd.C k74 w A0_4 l0_4.length l0_4) (hc0_4 : l0_4.length ≤ c0_4) (h : impl_Lsa_bytes.f k a0_0 a0_1 a0_2 l0_3 l0_4 = some r) :
  Calls Try.prog 77 #[.agg #[.int .i64 a0_0, .int .i64 a0_1, .int .i64 a0_2, .slice A0_3 l0_3.length c0_3, .slice A0_4 l0_4.length c0_4]] w fun e w' => ∃ v0_ : Value, e = .returned (v0_) ∧ Kd.R (Kd.int .u8) 5 w' w.heap.size (fun _ => True) v0_ r ∧ Below w.heap.size w w' := by
 have hu31 := Try.underlying31
 have hu70 := Try.underlying70
 have hu74 := Try.underlying74
 have HR0_3 := Aside0.mk hr0_3
 have HC0_3 := Aside0.mk hc0_3
 clear hr0_3 hc0_3
 have HR0_4 := Aside0.mk hr0_4
 have HC0_4 := Aside0.mk hc0_4
 clear hr0_4 hc0_4
 have HB := Aside0.mk (Below.refl w.heap.size w)
 have H : ((impl_big.f k (([(a0_0) % 256] : List Int)) a0_1 3).bind fun t293 => (if t293.length < 140737488355328 then (impl_Lsa_bytes.l0 k (t293 ++ [((l0_3.length : Int)) % 256]) l0_3 (l0_3.length : Int) 0 a0_0 a0_1 a0_2 l0_3 l0_4) else (none))) = some r := h
 clear h
 obtain ⟨y290, hy290⟩ : ∃ y_ : List Int, y_ = (([(a0_0) % 256] : List Int)) := ⟨_, rfl⟩
 replace H : ((impl_big.f k y290 a0_1 3).bind fun t293 => (if t293.length < 140737488355328 then (impl_Lsa_bytes.l0 k (t293 ++ [((l0_3.length : Int)) % 256]) l0_3 (l0_3.length : Int) 0 a0_0 a0_1 a0_2 l0_3 l0_4) else (none))) = some r := by first | (rw [hy290]; with_reducible exact H) | (have H2_ := (Option.bind_some _ _).symm.trans H; rw [hy290]; with_reducible exact H2_) | (have H2_ := (Option.bind_some _ _).symm.trans H; with_reducible exact H2_) | with_reducible exact H | (rw [hy290]; exact H) | exact H
 have Ny290 := Aside0.mk hy290
 clear hy290
 replace H := Option.bind_eq_some_iff.mp H
 obtain ⟨t293, A20, H⟩ := H
 have A2 := Aside0.mk A20
 clear A20
 by_cases c3 : t293.length < 140737488355328
 ·rw [if_pos c3] at H
  have LMc3 := Aside0.mk c3
  clear c3
  obtain ⟨y296, hy296⟩ : ∃ y_ : List Int, y_ = (t293 ++ [((l0_3.length : Int)) % 256]) := ⟨_, rfl⟩
  replace H : (impl_Lsa_bytes.l0 k y296 l0_3 (l0_3.length : Int) 0 a0_0 a0_1 a0_2 l0_3 l0_4) = some r := by first | (rw [hy296]; with_reducible exact H) | (have H2_ := (Option.bind_some _ _).symm.trans H; rw [hy296]; with_reducible exact H2_) | (have H2_ := (Option.bind_some _ _).symm.trans H; with_reducible exact H2_) | with_reducible exact H | (rw [hy296]; exact H) | exact H
  have Ny296 := Aside0.mk hy296
  clear hy296
  have H' := Aside0.mk H
  clear H
  go_enter Try.func77, Try.ntmps77
  go_wp2_with (first | ((with_reducible refine gate_dst (N := 1) rfl ?_); refine box_event ?hg (N := 1) ?hd (cs := #[.int .i64 a0_0, .int .i64 a0_1, .int .i64 a0_2, .slice A0_3 l0_3.length c0_3, .slice A0_4 l0_4.length c0_4]) (t := 31) ?hr ?_; (case hd => rfl); (case hg => rfl); (case hr => first | (go_simp; done) | (go_simp; rfl)); intro gb289 hg w4 hbox hb; have n0_ := Aside0.mk (bt_ HB hb); have n1_ := Aside0.mk (hbox); have n2_ := Aside0.mk ((by rw [hg]; exact (bz_ HB) : w.heap.size ≤ gb289)); have n3_ := Aside0.mk ((by rw [hg]; exact (bz_ HB) : w.heap.size ≤ gb289)); clear HB; have HB := n0_; have BK289 := n1_; have GW289 := n2_; have GE289 := n3_; clear n0_ n1_ n2_ n3_; clear hb hbox hg; have hcz5_0 : w4.cell? ⟨gb289, 0, none⟩ = some (.int .i64 a0_0) := (blk_cell BK289.out 0).trans rfl; have hcz5_1 : w4.cell? ⟨gb289, 1, none⟩ = some (.int .i64 a0_1) := (blk_cell BK289.out 1).trans rfl; have hcz5_2 : w4.cell? ⟨gb289, 2, none⟩ = some (.int .i64 a0_2) := (blk_cell BK289.out 2).trans rfl; have hcz5_3 : w4.cell? ⟨gb289, 3, none⟩ = some (.slice A0_3 l0_3.length c0_3) := (blk_cell BK289.out 3).trans rfl; have hcz5_4 : w4.cell? ⟨gb289, 4, none⟩ = some (.slice A0_4 l0_4.length c0_4) := (blk_cell BK289.out 4).trans rfl; have hfz5_0 := blk_frozen BK289.out 0; have hfz5_1 := blk_frozen BK289.out 1; have hfz5_2 := blk_frozen BK289.out 2; have hfz5_3 := blk_frozen BK289.out 3; have hfz5_4 := blk_frozen BK289.out 4) | ((with_reducible refine gate_dst (N := 11) rfl ?_); refine Kd.R_lit (Kd.int .u8) _ 5 ?hg (N := 11) ?hd (xs := ([(a0_0) % 256] : List Int)) (inner := [.int .u8 ((a0_0) % 256)]) (ok := fun _ => True) (okp := fun _ => True) ?hr ?hp (fun _ hk => hk) trivial (Below.refl _ _) (Nat.le_refl _) (by simp) ?_; (case hd => rfl); (case hg => rfl); (case hr => first | (go_simp; done) | (go_simp; rfl)); (case hp => exact (Reps.one (show Kd.M (Kd.int .u8) _ _ _ ((a0_0) % 256) [.int .u8 ((a0_0) % 256)] from rfl) (Reps.none _ _))); intro v291 w6 ho7 hb hg_ hnew_; clear hg_ hnew_; (first | rw [← Ny290.out] at ho7 | (simp only [Int.reduceToNat] at ho7; rw [← Ny290.out] at ho7)); have n0_ := Aside0.mk (Kd.R_lower ho7 (below_size (by repeat (first | (with_reducible first | exact HB.out | apply below_alloc | apply pw_below_drewN | apply below_drew1 | refine below_set ?_ GE289.out) | exact HB.out)))); have n1_ := Aside0.mk (bb_ BK289 hb); have n2_ := Aside0.mk (below_step (by repeat (first | (with_reducible first | exact HB.out | apply below_alloc | apply pw_below_drewN | apply below_drew1 | refine below_set ?_ GE289.out) | exact HB.out)) hb); clear BK289; clear HB; have HO292 := n0_; have BK289 := n1_; have HB := n2_; clear n0_ n1_ n2_; clear hb ho7; have hcz8_0 : w6.cell? ⟨gb289, 0, none⟩ = some (.int .i64 a0_0) := (blk_cell BK289.out 0).trans rfl; have hcz8_1 : w6.cell? ⟨gb289, 1, none⟩ = some (.int .i64 a0_1) := (blk_cell BK289.out 1).trans rfl; have hcz8_2 : w6.cell? ⟨gb289, 2, none⟩ = some (.int .i64 a0_2) := (blk_cell BK289.out 2).trans rfl; have hcz8_3 : w6.cell? ⟨gb289, 3, none⟩ = some (.slice A0_3 l0_3.length c0_3) := (blk_cell BK289.out 3).trans rfl; have hcz8_4 : w6.cell? ⟨gb289, 4, none⟩ = some (.slice A0_4 l0_4.length c0_4) := (blk_cell BK289.out 4).trans rfl; have hfz8_0 := blk_frozen BK289.out 0; have hfz8_1 := blk_frozen BK289.out 1; have hfz8_2 := blk_frozen BK289.out 2; have hfz8_3 := blk_frozen BK289.out 3; have hfz8_4 := blk_frozen BK289.out 4; obtain ⟨Ao9, co9, eo9⟩ := Kd.R_slice HO292.out; subst eo9) | ((with_reducible refine gate_callee (f := 78) rfl ?_); refine gl_ (some 14) Try.func78 #[.slice Ao9 y290.length co9, .int .i64 a0_1, .int .i64 3] ?_; (with_reducible refine (impl_big.calls k (fun k_ => some k_ = (.slice Ao9 y290.length co9 : Value).ownBlock) (.slice Ao9 y290.length co9) y290 a0_1 3 t293 w _ ?side1 ?side2 A2.out).mono ?_); (case side1 => repeat (first | (with_reducible first | exact HB.out | apply below_alloc | apply pw_below_drewN | apply below_drew1 | refine below_set ?_ GE289.out) | exact HB.out)); (case side2 => exact Kd.R_tight rfl HO292.out); rintro e w10 ⟨v294, rfl, ho0, hb, hkp⟩; refine ⟨_, rfl, ?_⟩; have n0_ := Aside0.mk (blk_kept (by (with_reducible repeat (first | refine blk_drewN ?_ _ | refine blk_drew ?_ | refine blk_alloc ?_ _)); exact BK289.out) hkp (fun hs_ => (fun e_ => (Kd.R_ne HO292.out BK289.out (by decide)) e_) hs_)); have n1_ := Aside0.mk (Kd.R_mono (ok' := fun k_ => True) ho0 (fun k_ hk_ => trivial)); have n2_ := Aside0.mk (hb); clear BK289; clear HB; clear HO292; have BK289 := n0_; have HO295 := n1_; have HB := n2_; clear n0_ n1_ n2_; (try clear hb); (try clear hkp); (try clear ho0); have hcz11_0 : w10.cell? ⟨gb289, 0, none⟩ = some (.int .i64 a0_0) := (blk_cell BK289.out 0).trans rfl; have hcz11_1 : w10.cell? ⟨gb289, 1, none⟩ = some (.int .i64 a0_1) := (blk_cell BK289.out 1).trans rfl; have hcz11_2 : w10.cell? ⟨gb289, 2, none⟩ = some (.int .i64 a0_2) := (blk_cell BK289.out 2).trans rfl; have hcz11_3 : w10.cell? ⟨gb289, 3, none⟩ = some (.slice A0_3 l0_3.length c0_3) := (blk_cell BK289.out 3).trans rfl; have hcz11_4 : w10.cell? ⟨gb289, 4, none⟩ = some (.slice A0_4 l0_4.length c0_4) := (blk_cell BK289.out 4).trans rfl; have hfz11_0 := blk_frozen BK289.out 0; have hfz11_1 := blk_frozen BK289.out 1; have hfz11_2 := blk_frozen BK289.out 2; have hfz11_3 := blk_frozen BK289.out 3; have hfz11_4 := blk_frozen BK289.out 4) | ((with_reducible refine gate_builtin (b := .append) (xs := #[.tmp 15, .tmp 20]) rfl ?_); at_builtin; refine Kd.R_append (Kd.int .u8) (w0 := w) w.heap.size rfl (.tmp 15) (.tmp 20) 62 5 (.int .u8 0) 1 rfl Try.underlying62 info5 rfl (by decide) (by omega) v294 t293 (((l0_3.length : Int)) % 256) [.int .u8 (((l0_3.length : Int)) % 256)] (fun _ => True) (fun _ => False) rfl rfl ?aP (fun _ hk => hk.elim) ?aF ?aO ?aB ?aS ?aL ?_; (case aP => exact rfl); (case aB => exact (by repeat (first | (with_reducible first | exact HB.out | apply below_alloc | apply pw_below_drewN | apply below_drew1 | refine below_set ?_ GE289.out) | exact HB.out))); (case aF => exact (fun _ _ => trivial)); (case aO => exact (by (with_reducible repeat (first | apply Kd.R_alloc | apply Kd.R_drewN | apply Kd.R_drew)); exact HO295.out)); (case aS => exact (below_size (by repeat (first | (with_reducible first | exact HB.out | apply below_alloc | apply pw_below_drewN | apply below_drew1 | refine below_set ?_ GE289.out) | exact HB.out)))); (case aL => have := LMc3.out; omega); intro v297 w12 ho hb hg hat; rw [← Ny296.out] at ho; have n0_ := Aside0.mk (blk_grown (g := gb289) (o := .cells #[.int .i64 a0_0, .int .i64 a0_1, .int .i64 a0_2, .slice A0_3 l0_3.length c0_3, .slice A0_4 l0_4.length c0_4] 31 (0, 0)) (by (with_reducible repeat (first | refine blk_drewN ?_ _ | refine blk_drew ?_ | refine blk_alloc ?_ _)); exact BK289.out) hg (Kd.R_ne HO295.out BK289.out (by decide))); have n1_ := Aside0.mk (hb); have n2_ := Aside0.mk (ho); clear BK289; clear HB; clear HO295; have BK289 := n0_; have HB := n1_; have HO298 := n2_; clear n0_ n1_ n2_; clear ho hb hg hat; have hcz13_0 : w12.cell? ⟨gb289, 0, none⟩ = some (.int .i64 a0_0) := (blk_cell BK289.out 0).trans rfl; have hcz13_1 : w12.cell? ⟨gb289, 1, none⟩ = some (.int .i64 a0_1) := (blk_cell BK289.out 1).trans rfl; have hcz13_2 : w12.cell? ⟨gb289, 2, none⟩ = some (.int .i64 a0_2) := (blk_cell BK289.out 2).trans rfl; have hcz13_3 : w12.cell? ⟨gb289, 3, none⟩ = some (.slice A0_3 l0_3.length c0_3) := (blk_cell BK289.out 3).trans rfl; have hcz13_4 : w12.cell? ⟨gb289, 4, none⟩ = some (.slice A0_4 l0_4.length c0_4) := (blk_cell BK289.out 4).trans rfl; have hfz13_0 := blk_frozen BK289.out 0; have hfz13_1 := blk_frozen BK289.out 1; have hfz13_2 := blk_frozen BK289.out 2; have hfz13_3 := blk_frozen BK289.out 3; have hfz13_4 := blk_frozen BK289.out 4))
  go_loopg [3, 25] k (fun kq v3 v25 w' => ∃ (x3_1 : List Int) (x25_1 : Int), v25 = .int .i64 x25_1 ∧ Aside0 (impl_Lsa_bytes.l0 kq x3_1 l0_3 (l0_3.length : Int) x25_1 a0_0 a0_1 a0_2 l0_3 l0_4 = some r) ∧ Aside0 (kq ≤ k) ∧ Aside0 (Kd.R (Kd.int .u8) 5 w' w.heap.size (fun _ => True) v3 x3_1) ∧ Aside0 (w'.heap[gb289]? = some (.cells #[.int .i64 a0_0, .int .i64 a0_1, .int .i64 a0_2, (.slice A0_3 l0_3.length c0_3), (.slice A0_4 l0_4.length c0_4)] 31 (0, 0))) ∧ Aside0 (Below w.heap.size w w'))
  case atStart => exact ⟨(y296), (0), (by first | rfl | (simp; done) | (simp [*]; done)), H', ⟨Nat.le_refl _⟩, ⟨by (with_reducible repeat (first | apply Kd.R_alloc | apply Kd.R_drewN | apply Kd.R_drew)); exact HO298.out⟩, ⟨by (with_reducible repeat (first | refine blk_drewN ?_ _ | refine blk_drew ?_ | refine blk_alloc ?_ _)); exact BK289.out⟩, ⟨by repeat (first | (with_reducible first | exact HB.out | apply below_alloc | apply pw_below_drewN | apply below_drew1 | refine below_set ?_ GE289.out) | exact HB.out)⟩⟩
  case round =>
   clear H'
   try clear p2
   try clear c3
   try clear c7
   try clear hcz11_0
   try clear hcz11_1
   try clear hcz11_2
   try clear hcz11_3
   try clear hcz11_4
   try clear hcz13_0
   try clear hcz13_1
   try clear hcz13_2
   try clear hcz13_3
   try clear hcz13_4
   try clear hcz5_0
   try clear hcz5_1
   try clear hcz5_2
   try clear hcz5_3
   try clear hcz5_4
   try clear hcz8_0
   try clear hcz8_1
   try clear hcz8_2
   try clear hcz8_3
   try clear hcz8_4
   try clear hfz11_0
   try clear hfz11_1
   try clear hfz11_2
   try clear hfz11_3
   try clear hfz11_4
   try clear hfz13_0
   try clear hfz13_1
   try clear hfz13_2
   try clear hfz13_3
   try clear hfz13_4
   try clear hfz5_0
   try clear hfz5_1
   try clear hfz5_2
   try clear hfz5_3
   try clear hfz5_4
   try clear hfz8_0
   try clear hfz8_1
   try clear hfz8_2
   try clear hfz8_3
   try clear hfz8_4
   obtain ⟨x3_1, x25_1, rfl, HA, HK1, HO_3, BK289, HB⟩ := hrel
   cases gk with
   | zero => exact absurd HA.out (by simp [impl_Lsa_bytes.l0])
   | succ k1 =>
    have H := HA.out
    clear HA
    simp only [impl_Lsa_bytes.l0] at H
    by_cases c14 : x25_1 < (l0_3.length : Int)
    ·rw [if_pos c14] at H
     have c14b0 : decide (x25_1 < (l0_3.length : Int)) = true := decide_eq_true c14
     clear c14
     by_cases c15 : 0 ≤ x25_1
     ·rw [if_pos c15] at H
      have c15b0 : decide (0 ≤ x25_1) = true := decide_eq_true c15
      clear c15
      by_cases c16 : x25_1 < (l0_3.length : Int)
      ·rw [if_pos c16] at H
       have c16b0 : decide (x25_1 < (l0_3.length : Int)) = true := decide_eq_true c16
       clear c16
       by_cases c17 : x3_1.length < 140737488355328
       ·rw [if_pos c17] at H
        have LMc17 := Aside0.mk c17
        clear c17
        obtain ⟨y301, hy301⟩ : ∃ y_ : List Int, y_ = (x3_1 ++ [((rd_T70 l0_3 x25_1).f0) % 256]) := ⟨_, rfl⟩
        replace H : ((impl_big.f k1 y301 ((rd_T70 l0_3 x25_1).f1) 2).bind fun t304 => (impl_Lsa_bytes.l0 k1 t304 l0_3 (l0_3.length : Int) (wrap64 (x25_1 + 1)) a0_0 a0_1 a0_2 l0_3 l0_4)) = some r := by first | (rw [hy301]; with_reducible exact H) | (have H2_ := (Option.bind_some _ _).symm.trans H; rw [hy301]; with_reducible exact H2_) | (have H2_ := (Option.bind_some _ _).symm.trans H; with_reducible exact H2_) | with_reducible exact H | (rw [hy301]; exact H) | exact H
        have Ny301 := Aside0.mk hy301
        clear hy301
        replace H := Option.bind_eq_some_iff.mp H
        obtain ⟨t304, A180, H⟩ := H
        have A18 := Aside0.mk A180
        clear A180
        have H' := Aside0.mk H
        clear H
        have p299 : 0 ≤ (x25_1 : Int) := of_decide_eq_true (by first | (with_reducible assumption) | assumption)
        have q299 : x25_1 < (l0_3.length : Int) := of_decide_eq_true (by first | (with_reducible assumption) | assumption)
        obtain ⟨ad299, e299, hx299_0, hx299_1⟩ := at_T70 HR0_3.out x25_1 p299 q299
        cases e299
        replace hx299_0 := (HB.out.cell (World.block_lt_of_cell? w _ hx299_0)).trans hx299_0
        replace hx299_1 := (HB.out.cell (World.block_lt_of_cell? w _ hx299_1)).trans hx299_1
        replace p299 := eq_true p299
        replace q299 := eq_true q299
        try go_wp2_with (first | ((with_reducible refine gate_dst (N := 5) rfl ?_); refine box_event ?hg (N := 5) ?hd (cs := #[.int .i64 0, .int .i64 0]) (t := 70) ?hr ?_; (case hd => rfl); (case hg => rfl); (case hr => first | (go_simp; done) | (go_simp; rfl)); intro gb300 hg w19 hbox hb; have n0_ := Aside0.mk (Kd.R_below (by (with_reducible repeat (first | apply Kd.R_alloc | apply Kd.R_drewN | apply Kd.R_drew)); exact HO_3.out) hb); have n1_ := Aside0.mk (bb_ BK289 hb); have n2_ := Aside0.mk (below_step (by repeat (first | (with_reducible first | exact HB.out | apply below_alloc | apply pw_below_drewN | apply below_drew1 | refine below_set ?_ GE289.out) | exact HB.out)) hb); have n3_ := Aside0.mk (hbox); have n4_ := Aside0.mk ((by rw [hg]; exact (below_size (by repeat (first | (with_reducible first | exact HB.out | apply below_alloc | apply pw_below_drewN | apply below_drew1 | refine below_set ?_ GE289.out) | exact HB.out))) : w.heap.size ≤ gb300)); have n5_ := Aside0.mk ((by rw [hg]; exact (below_size (by repeat (first | (with_reducible first | exact HB.out | apply below_alloc | apply pw_below_drewN | apply below_drew1 | refine below_set ?_ GE289.out) | exact HB.out))) : w.heap.size ≤ gb300)); have n6_ := Aside0.mk ((by rw [hg]; exact Nat.ne_of_lt (bl_ BK289) : gb289 ≠ gb300)); have n7_ := Aside0.mk ((by rw [hg]; exact Nat.ne_of_gt (bl_ BK289) : gb300 ≠ gb289)); clear HO_3; clear BK289; clear HB; have HO_3 := n0_; have BK289 := n1_; have HB := n2_; have BK300 := n3_; have GW300 := n4_; have GE300 := n5_; have NB289_300 := n6_; have NB300_289 := n7_; clear n0_ n1_ n2_ n3_ n4_ n5_ n6_ n7_; clear hb hbox hg; have hnb20 := NB300_289.out; have hnc20 := NB289_300.out; have hcz21_0 : w19.cell? ⟨gb300, 0, none⟩ = some (.int .i64 0) := (blk_cell BK300.out 0).trans rfl; have hcz21_1 : w19.cell? ⟨gb300, 1, none⟩ = some (.int .i64 0) := (blk_cell BK300.out 1).trans rfl; have hfz21_0 := blk_frozen BK300.out 0; have hfz21_1 := blk_frozen BK300.out 1))
        have n0_ : Aside0 (Kd.R (Kd.int .u8) 5 ((w19.setCell ⟨gb300, 0, none⟩ (.int .i64 ((rd_T70 l0_3 x25_1).f0))).setCell ⟨gb300, 1, none⟩ (.int .i64 ((rd_T70 l0_3 x25_1).f1))) w.heap.size (fun _ => True) u3 x3_1) := ⟨by (with_reducible repeat (first | apply Kd.R_alloc | apply Kd.R_drewN | apply Kd.R_drew)); exact Kd.R_mono (Kd.R_far (p := ⟨gb300, 1, none⟩) (Kd.R_far (p := ⟨gb300, 0, none⟩) (Kd.R_types HO_3.out BK300.out (by decide)) (fun _ hk => hk.2) (.int .i64 ((rd_T70 l0_3 x25_1).f0))) (fun _ hk => hk.2) (.int .i64 ((rd_T70 l0_3 x25_1).f1))) (fun _ hk => trivial)⟩
        have n1_ : Aside0 (((w19.setCell ⟨gb300, 0, none⟩ (.int .i64 ((rd_T70 l0_3 x25_1).f0))).setCell ⟨gb300, 1, none⟩ (.int .i64 ((rd_T70 l0_3 x25_1).f1))).heap[gb289]? = some (.cells #[.int .i64 a0_0, .int .i64 a0_1, .int .i64 a0_2, .slice (some ad299) l0_3.length c0_3, .slice A0_4 l0_4.length c0_4] 31 (0, 0))) := ⟨by (with_reducible repeat (first | refine blk_drewN ?_ _ | refine blk_drew ?_ | refine blk_alloc ?_ _)); refine blk_far ?_ NB289_300.out _; (with_reducible repeat (first | refine blk_drewN ?_ _ | refine blk_drew ?_ | refine blk_alloc ?_ _)); refine blk_far ?_ NB289_300.out _; (with_reducible repeat (first | refine blk_drewN ?_ _ | refine blk_drew ?_ | refine blk_alloc ?_ _)); exact BK289.out⟩
        have n2_ : Aside0 (((w19.setCell ⟨gb300, 0, none⟩ (.int .i64 ((rd_T70 l0_3 x25_1).f0))).setCell ⟨gb300, 1, none⟩ (.int .i64 ((rd_T70 l0_3 x25_1).f1))).heap[gb300]? = some (.cells #[.int .i64 ((rd_T70 l0_3 x25_1).f0), .int .i64 ((rd_T70 l0_3 x25_1).f1)] 70 (0, 0))) := ⟨by (with_reducible repeat (first | refine blk_drewN ?_ _ | refine blk_drew ?_ | refine blk_alloc ?_ _)); refine blk_put (cs := #[.int .i64 ((rd_T70 l0_3 x25_1).f0), .int .i64 0]) ?_ 1 _ rfl; (with_reducible repeat (first | refine blk_drewN ?_ _ | refine blk_drew ?_ | refine blk_alloc ?_ _)); refine blk_put (cs := #[.int .i64 0, .int .i64 0]) ?_ 0 _ rfl; (with_reducible repeat (first | refine blk_drewN ?_ _ | refine blk_drew ?_ | refine blk_alloc ?_ _)); exact BK300.out⟩
        have n3_ : Aside0 (Below w.heap.size w ((w19.setCell ⟨gb300, 0, none⟩ (.int .i64 ((rd_T70 l0_3 x25_1).f0))).setCell ⟨gb300, 1, none⟩ (.int .i64 ((rd_T70 l0_3 x25_1).f1)))) := ⟨by repeat (first | (with_reducible first | exact HB.out | apply below_alloc | apply pw_below_drewN | apply below_drew1 | refine below_set ?_ GE289.out | refine below_set ?_ GE300.out) | exact HB.out)⟩
        (try clear HO_3)
        (try clear BK289)
        (try clear BK300)
        (try clear HB)
        generalize ((w19.setCell ⟨gb300, 0, none⟩ (.int .i64 ((rd_T70 l0_3 x25_1).f0))).setCell ⟨gb300, 1, none⟩ (.int .i64 ((rd_T70 l0_3 x25_1).f1))) = w22 at n0_ n1_ n2_ n3_ ⊢
        have HO_3 := n0_
        have BK289 := n1_
        have BK300 := n2_
        have HB := n3_
        clear n0_ n1_ n2_ n3_
        have n0_ := Aside0.mk (Kd.R_drew HO_3.out)
        have n1_ := Aside0.mk (blk_drew BK289.out)
        have n2_ := Aside0.mk (blk_drew BK300.out)
        have n3_ := Aside0.mk (below_drew1 HB.out)
        clear HO_3
        clear BK289
        clear BK300
        clear HB
        have HO_3 := n0_
        have BK289 := n1_
        have BK300 := n2_
        have HB := n3_
        clear n0_ n1_ n2_ n3_
        refine start_ (n := 10) (S := fun w' => w'.cell? ⟨gb300, 0, none⟩ = some (.int .i64 ((rd_T70 l0_3 x25_1).f0)) ∧ w'.cell? ⟨gb300, 1, none⟩ = some (.int .i64 ((rd_T70 l0_3 x25_1).f1))) (ds := []) ba12_0 (by kernel_rfl) rfl rfl ⟨(blk_cell BK300.out 0).trans rfl, (blk_cell BK300.out 1).trans rfl⟩ (fun hHeld => ?_); refine with_tabW impl_Lsa_bytes.tab6 impl_Lsa_bytes.bits6 (fun HT_ HW_ => ?_)
        generalize w22.drew = w23 at HO_3 BK289 BK300 HB hHeld ⊢
        refine pz_ 0 29 ba12_1 HT_ ?_
        refine pz_ 1 30 ba12_2 HT_ ?_
        refine pz_ 6 35 ba12_3 HT_ ?_
        refine pt_ 2 31 ba12_4 HT_ HW_ hHeld ?_
        refine pz_ 3 32 ba12_5 HT_ ?_
        refine pt_ 7 36 ba12_6 HT_ HW_ hHeld ?_
        refine one_ (i := 4) (N := some 33) ba12_7 rfl rfl (one_of HT_.out (by kernel_rfl)) (by decide) (fun K hK => ?_)
        refine value_ (w1 := ?_) (v := ?_) (by rfl) rfl ?_ ?_
        rotate_left 2
        ·go_simp
         constructor
         ·rfl
         ·rfl
        refine hK.out _ _ ⟨(blk_cell (blk_alloc BK300.out _) 0).trans rfl, (blk_cell (blk_alloc BK300.out _) 1).trans rfl⟩ (fun hHeld => ?_)
        clear hK K
        refine nz_ 33 ?_
        refine one_ (i := 5) (N := some 34) ba12_8 rfl rfl (one_of HT_.out (by kernel_rfl)) (by decide) (fun K hK => ?_)
        refine Kd.R_append_step (Kd.int .u8) (w0 := w) w.heap.size (by rfl) (.tmp 29) (.tmp 33) 62 5 (.int .u8 0) 1 rfl Try.underlying62 info5 rfl (by decide) (by omega) u3 x3_1 (((rd_T70 l0_3 x25_1).f0) % 256) [.int .u8 (((rd_T70 l0_3 x25_1).f0) % 256)] (fun _ => True) (fun _ => False) rfl rfl ?aP (fun _ hk => hk.elim) ?aF ?aO ?aB ?aS ?aL ?_
        (case aP => exact rfl)
        (case aB => exact (by repeat (first | (with_reducible first | exact HB.out | apply below_alloc | apply pw_below_drewN | apply below_drew1 | refine below_set ?_ GE289.out | refine below_set ?_ GE300.out) | exact HB.out)))
        (case aF => exact (fun _ _ => trivial))
        (case aO => exact (by (with_reducible repeat (first | apply Kd.R_alloc | apply Kd.R_drewN | apply Kd.R_drew)); exact HO_3.out))
        (case aS => exact (below_size (by repeat (first | (with_reducible first | exact HB.out | apply below_alloc | apply pw_below_drewN | apply below_drew1 | refine below_set ?_ GE289.out | refine below_set ?_ GE300.out) | exact HB.out))))
        (case aL => have := LMc17.out; omega)
        intro v302 w24 ho hb hg hat
        rw [← Ny301.out] at ho
        have n0_ := Aside0.mk (blk_grown (g := gb289) (o := .cells #[.int .i64 a0_0, .int .i64 a0_1, .int .i64 a0_2, .slice (some ad299) l0_3.length c0_3, .slice A0_4 l0_4.length c0_4] 31 (0, 0)) (by (with_reducible repeat (first | refine blk_drewN ?_ _ | refine blk_drew ?_ | refine blk_alloc ?_ _)); exact BK289.out) hg (Kd.R_ne HO_3.out BK289.out (by decide)))
        have n1_ := Aside0.mk (blk_grown (g := gb300) (o := .cells #[.int .i64 ((rd_T70 l0_3 x25_1).f0), .int .i64 ((rd_T70 l0_3 x25_1).f1)] 70 (0, 0)) (by (with_reducible repeat (first | refine blk_drewN ?_ _ | refine blk_drew ?_ | refine blk_alloc ?_ _)); exact BK300.out) hg (Kd.R_ne HO_3.out BK300.out (by decide)))
        have n2_ := Aside0.mk (hb)
        have n3_ := Aside0.mk (ho)
        clear BK289
        clear BK300
        clear HB
        clear HO_3
        have BK289 := n0_
        have BK300 := n1_
        have HB := n2_
        have HO303 := n3_
        clear n0_ n1_ n2_ n3_
        clear ho hb hg hat
        obtain ⟨Ao25, co25, eo25⟩ := Kd.R_slice HO303.out
        (first | subst eo25 | (injection eo25 with f1_ f2_ f3_; have f4_ := f1_.symm; have f5_ := f3_.symm; clear f1_ f2_ f3_; subst f4_; subst f5_))
        refine hK.out _ _ ⟨(blk_cell BK300.out 0).trans rfl, (blk_cell BK300.out 1).trans rfl⟩ (fun hHeld => ?_)
        clear hK K
        refine nz_ 34 ?_
        refine one_ (i := 8) (N := some 37) ba12_9 rfl rfl (one_of HT_.out (by kernel_rfl)) (by decide) (fun K hK => ?_)
        refine gz_ Try.func78 #[.slice Ao25 y301.length co25, .int .i64 ((rd_T70 l0_3 x25_1).f1), .int .i64 2] ?_
        with_reducible refine (impl_big.calls k1 (fun k_ => some k_ = (.slice Ao25 y301.length co25 : Value).ownBlock) (.slice Ao25 y301.length co25) y301 ((rd_T70 l0_3 x25_1).f1) 2 t304 w _ ?side1 ?side2 A18.out).mono ?_
        (case side1 => repeat (first | (with_reducible first | exact HB.out | apply below_alloc | apply pw_below_drewN | apply below_drew1 | refine below_set ?_ GE289.out | refine below_set ?_ GE300.out) | exact HB.out))
        (case side2 => exact Kd.R_tight rfl HO303.out)
        rintro e w26 ⟨v305, rfl, ho0, hb, hkp⟩
        refine ⟨_, rfl, ?_⟩
        have n0_ := Aside0.mk (blk_kept (by (with_reducible repeat (first | refine blk_drewN ?_ _ | refine blk_drew ?_ | refine blk_alloc ?_ _)); exact BK289.out) hkp (fun hs_ => (fun e_ => (Kd.R_ne HO303.out BK289.out (by decide)) e_) hs_))
        have n1_ := Aside0.mk (blk_kept (by (with_reducible repeat (first | refine blk_drewN ?_ _ | refine blk_drew ?_ | refine blk_alloc ?_ _)); exact BK300.out) hkp (fun hs_ => (fun e_ => (Kd.R_ne HO303.out BK300.out (by decide)) e_) hs_))
        have n2_ := Aside0.mk (Kd.R_mono (ok' := fun k_ => True) ho0 (fun k_ hk_ => trivial))
        have n3_ := Aside0.mk (hb)
        clear BK289
        clear BK300
        clear HB
        clear HO303
        have BK289 := n0_
        have BK300 := n1_
        have HO306 := n2_
        have HB := n3_
        clear n0_ n1_ n2_ n3_
        (try clear hb)
        (try clear hkp)
        (try clear ho0)
        refine hK.out _ _ ⟨(blk_cell BK300.out 0).trans rfl, (blk_cell BK300.out 1).trans rfl⟩ (fun hHeld => ?_)
        clear hK K
        refine nz_ 37 ?_
        refine pz_ 9 3 ba12_10 HT_ ?_
        refine done_ (done_of HT_.out (by kernel_rfl)) ?_
        try go_wp2
        go_roundg k1
        case measure => have := HK1.out; omega
        case rel => exact ⟨(t304), (wrap64 (x25_1 + 1)), (by first | rfl | (simp; done) | (simp [*]; done)), H', ⟨by have := HK1.out; omega⟩, ⟨by (with_reducible repeat (first | apply Kd.R_alloc | apply Kd.R_drewN | apply Kd.R_drew)); exact HO306.out⟩, ⟨by (with_reducible repeat (first | refine blk_drewN ?_ _ | refine blk_drew ?_ | refine blk_alloc ?_ _)); exact BK289.out⟩, ⟨by repeat (first | (with_reducible first | exact HB.out | apply below_alloc | apply pw_below_drewN | apply below_drew1 | refine below_set ?_ GE289.out | refine below_set ?_ GE300.out) | exact HB.out)⟩⟩
       ·rw [if_neg c17] at H
        exact absurd H (by simp)
      ·rw [if_neg c16] at H
       exact absurd H (by simp)
     ·rw [if_neg c15] at H
      exact absurd H (by simp)
    ·rw [if_neg c14] at H
     have c14b0 : decide (x25_1 < (l0_3.length : Int)) = false := decide_eq_false c14
     clear c14
     by_cases c27 : x3_1.length < 140737488355328
     ·rw [if_pos c27] at H
      have LMc27 := Aside0.mk c27
      clear c27
      obtain ⟨y307, hy307⟩ : ∃ y_ : List Int, y_ = (x3_1 ++ [((l0_4.length : Int)) % 256]) := ⟨_, rfl⟩
      replace H : (impl_Lsa_bytes.l1 k1 y307 l0_4 (l0_4.length : Int) 0) = some r := by first | (rw [hy307]; with_reducible exact H) | (have H2_ := (Option.bind_some _ _).symm.trans H; rw [hy307]; with_reducible exact H2_) | (have H2_ := (Option.bind_some _ _).symm.trans H; with_reducible exact H2_) | with_reducible exact H | (rw [hy307]; exact H) | exact H
      have Ny307 := Aside0.mk hy307
      clear hy307
      have H' := Aside0.mk H
      clear H
      have hcz28_0 : wr.cell? ⟨gb289, 0, none⟩ = some (.int .i64 a0_0) := (blk_cell BK289.out 0).trans rfl
      have hcz28_1 : wr.cell? ⟨gb289, 1, none⟩ = some (.int .i64 a0_1) := (blk_cell BK289.out 1).trans rfl
      have hcz28_2 : wr.cell? ⟨gb289, 2, none⟩ = some (.int .i64 a0_2) := (blk_cell BK289.out 2).trans rfl
      have hcz28_3 : wr.cell? ⟨gb289, 3, none⟩ = some (.slice A0_3 l0_3.length c0_3) := (blk_cell BK289.out 3).trans rfl
      have hcz28_4 : wr.cell? ⟨gb289, 4, none⟩ = some (.slice A0_4 l0_4.length c0_4) := (blk_cell BK289.out 4).trans rfl
      have hfz28_0 := blk_frozen BK289.out 0
      have hfz28_1 := blk_frozen BK289.out 1
      have hfz28_2 := blk_frozen BK289.out 2
      have hfz28_3 := blk_frozen BK289.out 3
      have hfz28_4 := blk_frozen BK289.out 4
      go_wp2_with (first | ((with_reducible refine gate_builtin (b := .append) (xs := #[.tmp 39, .tmp 44]) rfl ?_); at_builtin; refine Kd.R_append (Kd.int .u8) (w0 := w) w.heap.size rfl (.tmp 39) (.tmp 44) 62 5 (.int .u8 0) 1 rfl Try.underlying62 info5 rfl (by decide) (by omega) u3 x3_1 (((l0_4.length : Int)) % 256) [.int .u8 (((l0_4.length : Int)) % 256)] (fun _ => True) (fun _ => False) rfl rfl ?aP (fun _ hk => hk.elim) ?aF ?aO ?aB ?aS ?aL ?_; (case aP => exact rfl); (case aB => exact (by repeat (first | (with_reducible first | exact HB.out | apply below_alloc | apply pw_below_drewN | apply below_drew1 | refine below_set ?_ GE289.out) | exact HB.out))); (case aF => exact (fun _ _ => trivial)); (case aO => exact (by (with_reducible repeat (first | apply Kd.R_alloc | apply Kd.R_drewN | apply Kd.R_drew)); exact HO_3.out)); (case aS => exact (below_size (by repeat (first | (with_reducible first | exact HB.out | apply below_alloc | apply pw_below_drewN | apply below_drew1 | refine below_set ?_ GE289.out) | exact HB.out)))); (case aL => have := LMc27.out; omega); intro v308 w29 ho hb hg hat; rw [← Ny307.out] at ho; have n0_ := Aside0.mk (blk_grown (g := gb289) (o := .cells #[.int .i64 a0_0, .int .i64 a0_1, .int .i64 a0_2, .slice A0_3 l0_3.length c0_3, .slice A0_4 l0_4.length c0_4] 31 (0, 0)) (by (with_reducible repeat (first | refine blk_drewN ?_ _ | refine blk_drew ?_ | refine blk_alloc ?_ _)); exact BK289.out) hg (Kd.R_ne HO_3.out BK289.out (by decide))); have n1_ := Aside0.mk (hb); have n2_ := Aside0.mk (ho); clear BK289; clear HB; clear HO_3; have BK289 := n0_; have HB := n1_; have HO309 := n2_; clear n0_ n1_ n2_; clear ho hb hg hat; have hcz30_0 : w29.cell? ⟨gb289, 0, none⟩ = some (.int .i64 a0_0) := (blk_cell BK289.out 0).trans rfl; have hcz30_1 : w29.cell? ⟨gb289, 1, none⟩ = some (.int .i64 a0_1) := (blk_cell BK289.out 1).trans rfl; have hcz30_2 : w29.cell? ⟨gb289, 2, none⟩ = some (.int .i64 a0_2) := (blk_cell BK289.out 2).trans rfl; have hcz30_3 : w29.cell? ⟨gb289, 3, none⟩ = some (.slice A0_3 l0_3.length c0_3) := (blk_cell BK289.out 3).trans rfl; have hcz30_4 : w29.cell? ⟨gb289, 4, none⟩ = some (.slice A0_4 l0_4.length c0_4) := (blk_cell BK289.out 4).trans rfl; have hfz30_0 := blk_frozen BK289.out 0; have hfz30_1 := blk_frozen BK289.out 1; have hfz30_2 := blk_frozen BK289.out 2; have hfz30_3 := blk_frozen BK289.out 3; have hfz30_4 := blk_frozen BK289.out 4))
      go_loopg [3, 49] k1 (fun kq v3 v49 w' => ∃ (x3_2 : List Int) (x49_2 : Int), v49 = .int .i64 x49_2 ∧ Aside0 (impl_Lsa_bytes.l1 kq x3_2 l0_4 (l0_4.length : Int) x49_2 = some r) ∧ Aside0 (kq ≤ k1) ∧ Aside0 (Kd.R (Kd.int .u8) 5 w' w.heap.size (fun _ => True) v3 x3_2) ∧ Aside0 (w'.heap[gb289]? = some (.cells #[.int .i64 a0_0, .int .i64 a0_1, .int .i64 a0_2, (.slice A0_3 l0_3.length c0_3), (.slice A0_4 l0_4.length c0_4)] 31 (0, 0))) ∧ Aside0 (Below w.heap.size w w'))
      case atStart => exact ⟨(y307), (0), (by first | rfl | (simp; done) | (simp [*]; done)), H', ⟨Nat.le_refl _⟩, ⟨by (with_reducible repeat (first | apply Kd.R_alloc | apply Kd.R_drewN | apply Kd.R_drew)); exact HO309.out⟩, ⟨by (with_reducible repeat (first | refine blk_drewN ?_ _ | refine blk_drew ?_ | refine blk_alloc ?_ _)); exact BK289.out⟩, ⟨by repeat (first | (with_reducible first | exact HB.out | apply below_alloc | apply pw_below_drewN | apply below_drew1 | refine below_set ?_ GE289.out) | exact HB.out)⟩⟩
      case round =>
       clear H'
       try clear c1
       try clear c2
       try clear p2
       try clear q2
       try clear hx2
       try clear c3
       try clear p6
       try clear c7
       try clear c14
       try clear c14b0
       try clear c15
       try clear c15b0
       try clear c16
       try clear c16b0
       try clear c17
       try clear c20
       try clear c27
       try clear p29
       try clear q29
       try clear hx29
       try clear hcz11_0
       try clear hcz11_1
       try clear hcz11_2
       try clear hcz11_3
       try clear hcz11_4
       try clear hcz13_0
       try clear hcz13_1
       try clear hcz13_2
       try clear hcz13_3
       try clear hcz13_4
       try clear hcz21_0
       try clear hcz21_1
       try clear hcz28_0
       try clear hcz28_1
       try clear hcz28_2
       try clear hcz28_3
       try clear hcz28_4
       try clear hcz30_0
       try clear hcz30_1
       try clear hcz30_2
       try clear hcz30_3
       try clear hcz30_4
       try clear hcz5_0
       try clear hcz5_1
       try clear hcz5_2
       try clear hcz5_3
       try clear hcz5_4
       try clear hcz8_0
       try clear hcz8_1
       try clear hcz8_2
       try clear hcz8_3
       try clear hcz8_4
       try clear hfz11_0
       try clear hfz11_1
       try clear hfz11_2
       try clear hfz11_3
       try clear hfz11_4
       try clear hfz13_0
       try clear hfz13_1
       try clear hfz13_2
       try clear hfz13_3
       try clear hfz13_4
       try clear hfz21_0
       try clear hfz21_1
       try clear hfz28_0
       try clear hfz28_1
       try clear hfz28_2
       try clear hfz28_3
       try clear hfz28_4
       try clear hfz30_0
       try clear hfz30_1
       try clear hfz30_2
       try clear hfz30_3
       try clear hfz30_4
       try clear hfz5_0
       try clear hfz5_1
       try clear hfz5_2
       try clear hfz5_3
       try clear hfz5_4
       try clear hfz8_0
       try clear hfz8_1
       try clear hfz8_2
       try clear hfz8_3
       try clear hfz8_4
       try clear hx299_0
       try clear hx299_1
       try clear p2
       try clear p299
       try clear q299
       obtain ⟨x3_2, x49_2, rfl, HA, HK2, HO_3, BK289, HB⟩ := hrel
       cases gk with
       | zero => exact absurd HA.out (by simp [impl_Lsa_bytes.l1])
       | succ k2 =>
        have H := HA.out
        clear HA
        simp only [impl_Lsa_bytes.l1] at H
        by_cases c31 : x49_2 < (l0_4.length : Int)
        ·rw [if_pos c31] at H
         have c31b0 : decide (x49_2 < (l0_4.length : Int)) = true := decide_eq_true c31
         clear c31
         by_cases c32 : 0 ≤ x49_2
         ·rw [if_pos c32] at H
          have c32b0 : decide (0 ≤ x49_2) = true := decide_eq_true c32
          clear c32
          by_cases c33 : x49_2 < (l0_4.length : Int)
          ·rw [if_pos c33] at H
           have c33b0 : decide (x49_2 < (l0_4.length : Int)) = true := decide_eq_true c33
           clear c33
           replace H := Option.bind_eq_some_iff.mp H
           obtain ⟨t312, A340, H⟩ := H
           have A34 := Aside0.mk A340
           clear A340
           by_cases c35 : t312.length < 140737488355328
           ·rw [if_pos c35] at H
            have LMc35 := Aside0.mk c35
            clear c35
            obtain ⟨y315, hy315⟩ : ∃ y_ : List Int, y_ = (t312 ++ [((rd_T74 l0_4 x49_2).f0.f1) % 256]) := ⟨_, rfl⟩
            replace H : ((impl_big.f k2 y315 ((rd_T74 l0_4 x49_2).f1) 2).bind fun t318 => (impl_Lsa_bytes.l1 k2 t318 l0_4 (l0_4.length : Int) (wrap64 (x49_2 + 1)))) = some r := by first | (rw [hy315]; with_reducible exact H) | (have H2_ := (Option.bind_some _ _).symm.trans H; rw [hy315]; with_reducible exact H2_) | (have H2_ := (Option.bind_some _ _).symm.trans H; with_reducible exact H2_) | with_reducible exact H | (rw [hy315]; exact H) | exact H
            have Ny315 := Aside0.mk hy315
            clear hy315
            replace H := Option.bind_eq_some_iff.mp H
            obtain ⟨t318, A360, H⟩ := H
            have A36 := Aside0.mk A360
            clear A360
            have H' := Aside0.mk H
            clear H
            have p310 : 0 ≤ (x49_2 : Int) := of_decide_eq_true (by first | (with_reducible assumption) | assumption)
            have q310 : x49_2 < (l0_4.length : Int) := of_decide_eq_true (by first | (with_reducible assumption) | assumption)
            obtain ⟨ad310, e310, hx310_0, hx310_1, hx310_2⟩ := at_T74 HR0_4.out x49_2 p310 q310
            cases e310
            replace hx310_0 := (HB.out.cell (World.block_lt_of_cell? w _ hx310_0)).trans hx310_0
            replace hx310_1 := (HB.out.cell (World.block_lt_of_cell? w _ hx310_1)).trans hx310_1
            replace hx310_2 := (HB.out.cell (World.block_lt_of_cell? w _ hx310_2)).trans hx310_2
            replace p310 := eq_true p310
            replace q310 := eq_true q310
            try go_wp2_with (first | ((with_reducible refine gate_dst (N := 7) rfl ?_); refine box_event ?hg (N := 7) ?hd (cs := #[.int .i64 0, .int .i64 0, .int .i64 0]) (t := 74) ?hr ?_; (case hd => rfl); (case hg => rfl); (case hr => first | (go_simp; done) | (go_simp; rfl)); intro gb311 hg w37 hbox hb; have n0_ := Aside0.mk (Kd.R_below (by (with_reducible repeat (first | apply Kd.R_alloc | apply Kd.R_drewN | apply Kd.R_drew)); exact HO_3.out) hb); have n1_ := Aside0.mk (bb_ BK289 hb); have n2_ := Aside0.mk (below_step (by repeat (first | (with_reducible first | exact HB.out | apply below_alloc | apply pw_below_drewN | apply below_drew1 | refine below_set ?_ GE289.out) | exact HB.out)) hb); have n3_ := Aside0.mk (hbox); have n4_ := Aside0.mk ((by rw [hg]; exact (below_size (by repeat (first | (with_reducible first | exact HB.out | apply below_alloc | apply pw_below_drewN | apply below_drew1 | refine below_set ?_ GE289.out) | exact HB.out))) : w.heap.size ≤ gb311)); have n5_ := Aside0.mk ((by rw [hg]; exact (below_size (by repeat (first | (with_reducible first | exact HB.out | apply below_alloc | apply pw_below_drewN | apply below_drew1 | refine below_set ?_ GE289.out) | exact HB.out))) : w.heap.size ≤ gb311)); have n6_ := Aside0.mk ((by rw [hg]; exact Nat.ne_of_lt (bl_ BK289) : gb289 ≠ gb311)); have n7_ := Aside0.mk ((by rw [hg]; exact Nat.ne_of_gt (bl_ BK289) : gb311 ≠ gb289)); clear HO_3; clear BK289; clear HB; have HO_3 := n0_; have BK289 := n1_; have HB := n2_; have BK311 := n3_; have GW311 := n4_; have GE311 := n5_; have NB289_311 := n6_; have NB311_289 := n7_; clear n0_ n1_ n2_ n3_ n4_ n5_ n6_ n7_; clear hb hbox hg; have hnb38 := NB311_289.out; have hnc38 := NB289_311.out; have hcz39_0 : w37.cell? ⟨gb311, 0, none⟩ = some (.int .i64 0) := (blk_cell BK311.out 0).trans rfl; have hcz39_1 : w37.cell? ⟨gb311, 1, none⟩ = some (.int .i64 0) := (blk_cell BK311.out 1).trans rfl; have hcz39_2 : w37.cell? ⟨gb311, 2, none⟩ = some (.int .i64 0) := (blk_cell BK311.out 2).trans rfl; have hfz39_0 := blk_frozen BK311.out 0; have hfz39_1 := blk_frozen BK311.out 1; have hfz39_2 := blk_frozen BK311.out 2) | ((with_reducible refine gate_store (t := 74) (p := 7) rfl ?_); refine store_event (t := 74) (p := 7) (v := ?vo_w40) (w1 := (((w37.setCell ⟨gb311, 0, none⟩ (.int .i64 ((rd_T74 l0_4 x49_2).f0.f0))).setCell ⟨gb311, 1, none⟩ (.int .i64 ((rd_T74 l0_4 x49_2).f0.f1))).setCell ⟨gb311, 2, none⟩ (.int .i64 ((rd_T74 l0_4 x49_2).f1)))) ?hg ?ho ?hn ?hr ?_; (case ho => rfl); (case hg => rfl); (case hn => rfl); (case hr => first | (go_simp; done) | (go_simp; rfl)); intro w40 hw; have n0_ : Aside0 (Kd.R (Kd.int .u8) 5 w40 w.heap.size (fun _ => True) u3 x3_2) := ⟨(by rw [hw]; exact (by (with_reducible repeat (first | apply Kd.R_alloc | apply Kd.R_drewN | apply Kd.R_drew)); exact Kd.R_mono (Kd.R_far (p := ⟨gb311, 2, none⟩) (Kd.R_far (p := ⟨gb311, 1, none⟩) (Kd.R_far (p := ⟨gb311, 0, none⟩) (Kd.R_types HO_3.out BK311.out (by decide)) (fun _ hk => hk.2) (.int .i64 ((rd_T74 l0_4 x49_2).f0.f0))) (fun _ hk => hk.2) (.int .i64 ((rd_T74 l0_4 x49_2).f0.f1))) (fun _ hk => hk.2) (.int .i64 ((rd_T74 l0_4 x49_2).f1))) (fun _ hk => trivial)))⟩; have n1_ : Aside0 (w40.heap[gb289]? = some (.cells #[.int .i64 a0_0, .int .i64 a0_1, .int .i64 a0_2, .slice A0_3 l0_3.length c0_3, .slice (some ad310) l0_4.length c0_4] 31 (0, 0))) := ⟨(by rw [hw]; exact (by (with_reducible repeat (first | refine blk_drewN ?_ _ | refine blk_drew ?_ | refine blk_alloc ?_ _)); refine blk_far ?_ NB289_311.out _; (with_reducible repeat (first | refine blk_drewN ?_ _ | refine blk_drew ?_ | refine blk_alloc ?_ _)); refine blk_far ?_ NB289_311.out _; (with_reducible repeat (first | refine blk_drewN ?_ _ | refine blk_drew ?_ | refine blk_alloc ?_ _)); refine blk_far ?_ NB289_311.out _; (with_reducible repeat (first | refine blk_drewN ?_ _ | refine blk_drew ?_ | refine blk_alloc ?_ _)); exact BK289.out))⟩; have n2_ : Aside0 (w40.heap[gb311]? = some (.cells #[.int .i64 ((rd_T74 l0_4 x49_2).f0.f0), .int .i64 ((rd_T74 l0_4 x49_2).f0.f1), .int .i64 ((rd_T74 l0_4 x49_2).f1)] 74 (0, 0))) := ⟨(by rw [hw]; exact (by (with_reducible repeat (first | refine blk_drewN ?_ _ | refine blk_drew ?_ | refine blk_alloc ?_ _)); refine blk_put (cs := #[.int .i64 ((rd_T74 l0_4 x49_2).f0.f0), .int .i64 ((rd_T74 l0_4 x49_2).f0.f1), .int .i64 0]) ?_ 2 _ rfl; (with_reducible repeat (first | refine blk_drewN ?_ _ | refine blk_drew ?_ | refine blk_alloc ?_ _)); refine blk_put (cs := #[.int .i64 ((rd_T74 l0_4 x49_2).f0.f0), .int .i64 0, .int .i64 0]) ?_ 1 _ rfl; (with_reducible repeat (first | refine blk_drewN ?_ _ | refine blk_drew ?_ | refine blk_alloc ?_ _)); refine blk_put (cs := #[.int .i64 0, .int .i64 0, .int .i64 0]) ?_ 0 _ rfl; (with_reducible repeat (first | refine blk_drewN ?_ _ | refine blk_drew ?_ | refine blk_alloc ?_ _)); exact BK311.out))⟩; have n3_ : Aside0 (Below w.heap.size w w40) := ⟨(by rw [hw]; exact (by repeat (first | (with_reducible first | exact HB.out | apply below_alloc | apply pw_below_drewN | apply below_drew1 | refine below_set ?_ GE289.out | refine below_set ?_ GE311.out) | exact HB.out)))⟩; clear hw; clear HO_3; clear BK289; clear BK311; clear HB; have HO_3 := n0_; have BK289 := n1_; have BK311 := n2_; have HB := n3_; clear n0_ n1_ n2_ n3_; have hcz41_0 : w40.cell? ⟨gb311, 0, none⟩ = some (.int .i64 ((rd_T74 l0_4 x49_2).f0.f0)) := (blk_cell BK311.out 0).trans rfl; have hcz41_1 : w40.cell? ⟨gb311, 1, none⟩ = some (.int .i64 ((rd_T74 l0_4 x49_2).f0.f1)) := (blk_cell BK311.out 1).trans rfl; have hcz41_2 : w40.cell? ⟨gb311, 2, none⟩ = some (.int .i64 ((rd_T74 l0_4 x49_2).f1)) := (blk_cell BK311.out 2).trans rfl; have hfz41_0 := blk_frozen BK311.out 0; have hfz41_1 := blk_frozen BK311.out 1; have hfz41_2 := blk_frozen BK311.out 2; obtain ⟨Ao42, co42, eo42⟩ := Kd.R_slice HO_3.out; subst eo42) | ((with_reducible refine gate_callee (f := 78) rfl ?_); refine gl_ (some 57) Try.func78 #[.slice Ao42 x3_2.length co42, .int .i64 ((rd_T74 l0_4 x49_2).f0.f0), .int .i64 2] ?_; (with_reducible refine (impl_big.calls k2 (fun k_ => some k_ = (.slice Ao42 x3_2.length co42 : Value).ownBlock) (.slice Ao42 x3_2.length co42) x3_2 ((rd_T74 l0_4 x49_2).f0.f0) 2 t312 w _ ?side1 ?side2 A34.out).mono ?_); (case side1 => repeat (first | (with_reducible first | exact HB.out | apply below_alloc | apply pw_below_drewN | apply below_drew1 | refine below_set ?_ GE289.out | refine below_set ?_ GE311.out) | exact HB.out)); (case side2 => exact Kd.R_tight rfl HO_3.out); rintro e w43 ⟨v313, rfl, ho0, hb, hkp⟩; refine ⟨_, rfl, ?_⟩; have n0_ := Aside0.mk (blk_kept (by (with_reducible repeat (first | refine blk_drewN ?_ _ | refine blk_drew ?_ | refine blk_alloc ?_ _)); exact BK289.out) hkp (fun hs_ => (fun e_ => (Kd.R_ne HO_3.out BK289.out (by decide)) e_) hs_)); have n1_ := Aside0.mk (blk_kept (by (with_reducible repeat (first | refine blk_drewN ?_ _ | refine blk_drew ?_ | refine blk_alloc ?_ _)); exact BK311.out) hkp (fun hs_ => (fun e_ => (Kd.R_ne HO_3.out BK311.out (by decide)) e_) hs_)); have n2_ := Aside0.mk (Kd.R_mono (ok' := fun k_ => True) ho0 (fun k_ hk_ => trivial)); have n3_ := Aside0.mk (hb); clear BK289; clear BK311; clear HB; clear HO_3; have BK289 := n0_; have BK311 := n1_; have HO314 := n2_; have HB := n3_; clear n0_ n1_ n2_ n3_; (try clear hb); (try clear hkp); (try clear ho0)))
            have n0_ := Aside0.mk (Kd.R_drew HO314.out)
            have n1_ := Aside0.mk (blk_drew BK289.out)
            have n2_ := Aside0.mk (blk_drew BK311.out)
            have n3_ := Aside0.mk (below_drew1 HB.out)
            clear HO314
            clear BK289
            clear BK311
            clear HB
            have HO314 := n0_
            have BK289 := n1_
            have BK311 := n2_
            have HB := n3_
            clear n0_ n1_ n2_ n3_
            refine start_ (n := 11) (S := fun w' => w'.cell? ⟨gb311, 0, none⟩ = some (.int .i64 ((rd_T74 l0_4 x49_2).f0.f0)) ∧ w'.cell? ⟨gb311, 1, none⟩ = some (.int .i64 ((rd_T74 l0_4 x49_2).f0.f1)) ∧ w'.cell? ⟨gb311, 2, none⟩ = some (.int .i64 ((rd_T74 l0_4 x49_2).f1))) (ds := []) ba12_11 (by kernel_rfl) rfl rfl ⟨(blk_cell BK311.out 0).trans rfl, (blk_cell BK311.out 1).trans rfl, (blk_cell BK311.out 2).trans rfl⟩ (fun hHeld => ?_); refine with_tabW impl_Lsa_bytes.tab13 impl_Lsa_bytes.bits13 (fun HT_ HW_ => ?_)
            generalize w43.drew = w44 at HO314 BK289 BK311 HB hHeld ⊢
            refine pz_ 0 58 ba12_12 HT_ ?_
            refine pz_ 1 59 ba12_13 HT_ ?_
            refine pz_ 2 60 ba12_14 HT_ ?_
            refine pz_ 7 65 ba12_15 HT_ ?_
            refine pt_ 3 61 ba12_16 HT_ HW_ hHeld ?_
            refine pz_ 4 62 ba12_17 HT_ ?_
            refine pt_ 8 66 ba12_18 HT_ HW_ hHeld ?_
            refine one_ (i := 5) (N := some 63) ba12_19 rfl rfl (one_of HT_.out (by kernel_rfl)) (by decide) (fun K hK => ?_)
            refine value_ (w1 := ?_) (v := ?_) (by rfl) rfl ?_ ?_
            rotate_left 2
            ·go_simp
             constructor
             ·rfl
             ·rfl
            refine hK.out _ _ ⟨(blk_cell (blk_alloc BK311.out _) 0).trans rfl, (blk_cell (blk_alloc BK311.out _) 1).trans rfl, (blk_cell (blk_alloc BK311.out _) 2).trans rfl⟩ (fun hHeld => ?_)
            clear hK K
            refine nz_ 63 ?_
            refine one_ (i := 6) (N := some 64) ba12_20 rfl rfl (one_of HT_.out (by kernel_rfl)) (by decide) (fun K hK => ?_)
            refine Kd.R_append_step (Kd.int .u8) (w0 := w) w.heap.size (by rfl) (.tmp 58) (.tmp 63) 62 5 (.int .u8 0) 1 rfl Try.underlying62 info5 rfl (by decide) (by omega) v313 t312 (((rd_T74 l0_4 x49_2).f0.f1) % 256) [.int .u8 (((rd_T74 l0_4 x49_2).f0.f1) % 256)] (fun _ => True) (fun _ => False) rfl rfl ?aP (fun _ hk => hk.elim) ?aF ?aO ?aB ?aS ?aL ?_
            (case aP => exact rfl)
            (case aB => exact (by repeat (first | (with_reducible first | exact HB.out | apply below_alloc | apply pw_below_drewN | apply below_drew1 | refine below_set ?_ GE289.out | refine below_set ?_ GE311.out) | exact HB.out)))
            (case aF => exact (fun _ _ => trivial))
            (case aO => exact (by (with_reducible repeat (first | apply Kd.R_alloc | apply Kd.R_drewN | apply Kd.R_drew)); exact HO314.out))
            (case aS => exact (below_size (by repeat (first | (with_reducible first | exact HB.out | apply below_alloc | apply pw_below_drewN | apply below_drew1 | refine below_set ?_ GE289.out | refine below_set ?_ GE311.out) | exact HB.out))))
            (case aL => have := LMc35.out; omega)
            intro v316 w45 ho hb hg hat
            rw [← Ny315.out] at ho
            have n0_ := Aside0.mk (blk_grown (g := gb289) (o := .cells #[.int .i64 a0_0, .int .i64 a0_1, .int .i64 a0_2, .slice A0_3 l0_3.length c0_3, .slice (some ad310) l0_4.length c0_4] 31 (0, 0)) (by (with_reducible repeat (first | refine blk_drewN ?_ _ | refine blk_drew ?_ | refine blk_alloc ?_ _)); exact BK289.out) hg (Kd.R_ne HO314.out BK289.out (by decide)))
            have n1_ := Aside0.mk (blk_grown (g := gb311) (o := .cells #[.int .i64 ((rd_T74 l0_4 x49_2).f0.f0), .int .i64 ((rd_T74 l0_4 x49_2).f0.f1), .int .i64 ((rd_T74 l0_4 x49_2).f1)] 74 (0, 0)) (by (with_reducible repeat (first | refine blk_drewN ?_ _ | refine blk_drew ?_ | refine blk_alloc ?_ _)); exact BK311.out) hg (Kd.R_ne HO314.out BK311.out (by decide)))
            have n2_ := Aside0.mk (hb)
            have n3_ := Aside0.mk (ho)
            clear BK289
            clear BK311
            clear HB
            clear HO314
            have BK289 := n0_
            have BK311 := n1_
            have HB := n2_
            have HO317 := n3_
            clear n0_ n1_ n2_ n3_
            clear ho hb hg hat
            obtain ⟨Ao46, co46, eo46⟩ := Kd.R_slice HO317.out
            (first | subst eo46 | (injection eo46 with f1_ f2_ f3_; have f4_ := f1_.symm; have f5_ := f3_.symm; clear f1_ f2_ f3_; subst f4_; subst f5_))
            refine hK.out _ _ ⟨(blk_cell BK311.out 0).trans rfl, (blk_cell BK311.out 1).trans rfl, (blk_cell BK311.out 2).trans rfl⟩ (fun hHeld => ?_)
            clear hK K
            refine nz_ 64 ?_
            refine one_ (i := 9) (N := some 67) ba12_21 rfl rfl (one_of HT_.out (by kernel_rfl)) (by decide) (fun K hK => ?_)
            refine gz_ Try.func78 #[.slice Ao46 y315.length co46, .int .i64 ((rd_T74 l0_4 x49_2).f1), .int .i64 2] ?_
            with_reducible refine (impl_big.calls k2 (fun k_ => some k_ = (.slice Ao46 y315.length co46 : Value).ownBlock) (.slice Ao46 y315.length co46) y315 ((rd_T74 l0_4 x49_2).f1) 2 t318 w _ ?side1 ?side2 A36.out).mono ?_
            (case side1 => repeat (first | (with_reducible first | exact HB.out | apply below_alloc | apply pw_below_drewN | apply below_drew1 | refine below_set ?_ GE289.out | refine below_set ?_ GE311.out) | exact HB.out))
            (case side2 => exact Kd.R_tight rfl HO317.out)
            rintro e w47 ⟨v319, rfl, ho0, hb, hkp⟩
            refine ⟨_, rfl, ?_⟩
            have n0_ := Aside0.mk (blk_kept (by (with_reducible repeat (first | refine blk_drewN ?_ _ | refine blk_drew ?_ | refine blk_alloc ?_ _)); exact BK289.out) hkp (fun hs_ => (fun e_ => (Kd.R_ne HO317.out BK289.out (by decide)) e_) hs_))
            have n1_ := Aside0.mk (blk_kept (by (with_reducible repeat (first | refine blk_drewN ?_ _ | refine blk_drew ?_ | refine blk_alloc ?_ _)); exact BK311.out) hkp (fun hs_ => (fun e_ => (Kd.R_ne HO317.out BK311.out (by decide)) e_) hs_))
            have n2_ := Aside0.mk (Kd.R_mono (ok' := fun k_ => True) ho0 (fun k_ hk_ => trivial))
            have n3_ := Aside0.mk (hb)
            clear BK289
            clear BK311
            clear HB
            clear HO317
            have BK289 := n0_
            have BK311 := n1_
            have HO320 := n2_
            have HB := n3_
            clear n0_ n1_ n2_ n3_
            (try clear hb)
            (try clear hkp)
            (try clear ho0)
            refine hK.out _ _ ⟨(blk_cell BK311.out 0).trans rfl, (blk_cell BK311.out 1).trans rfl, (blk_cell BK311.out 2).trans rfl⟩ (fun hHeld => ?_)
            clear hK K
            refine nz_ 67 ?_
            refine pz_ 10 3 ba12_22 HT_ ?_
            refine done_ (done_of HT_.out (by kernel_rfl)) ?_
            try go_wp2
            go_roundg k2
            case measure => have := HK1.out; have := HK2.out; omega
            case rel => exact ⟨(t318), (wrap64 (x49_2 + 1)), (by first | rfl | (simp; done) | (simp [*]; done)), H', ⟨by have := HK1.out; have := HK2.out; omega⟩, ⟨by (with_reducible repeat (first | apply Kd.R_alloc | apply Kd.R_drewN | apply Kd.R_drew)); exact HO320.out⟩, ⟨by (with_reducible repeat (first | refine blk_drewN ?_ _ | refine blk_drew ?_ | refine blk_alloc ?_ _)); exact BK289.out⟩, ⟨by repeat (first | (with_reducible first | exact HB.out | apply below_alloc | apply pw_below_drewN | apply below_drew1 | refine below_set ?_ GE289.out | refine below_set ?_ GE311.out) | exact HB.out)⟩⟩
           ·rw [if_neg c35] at H
            exact absurd H (by simp)
          ·rw [if_neg c33] at H
           exact absurd H (by simp)
         ·rw [if_neg c32] at H
          exact absurd H (by simp)
        ·rw [if_neg c31] at H
         have c31b0 : decide (x49_2 < (l0_4.length : Int)) = false := decide_eq_false c31
         clear c31
         obtain rfl := Option.some.inj H
         go_wp2
         go_ret
         exact ⟨_, by first | rfl | (simp [errW_none, errW_some] <;> rfl) | (simp [*, errW_none, errW_some] <;> rfl), by (with_reducible repeat (first | apply Kd.R_alloc | apply Kd.R_drewN | apply Kd.R_drew)); exact HO_3.out, by repeat (first | (with_reducible first | exact HB.out | apply below_alloc | apply pw_below_drewN | apply below_drew1 | refine below_set ?_ GE289.out) | exact HB.out)⟩
     ·rw [if_neg c27] at H
      exact absurd H (by simp)
 ·rw [if_neg c3] at H
  exact absurd H (by simp)

/-! ### impl_Lsa_sum: function 63 -/
def impl_Lsa_sum.l0 : Nat → Int → List Int → Int → Int → Option (Int)
 | 0, _, _, _, _ => none
 | k + 1, x3, x7, x8, x9 => if x9 < x8 then (if 0 ≤ x9 then (if x9 < (x7.length : Int) then (impl_Lsa_sum.l0 k (Int.tmod (wrap64 ((wrap64 ((wrap64 (257 * x3)) + (wrap64 (rd x7 x9)))) + 1)) 1000003) x7 x8 (wrap64 (x9 + 1))) else (none)) else (none)) else (some x3)
def impl_Lsa_sum.f (k : Nat) (a0_0 : Int) (a0_1 : Int) (a0_2 : Int) (l0_3 : List (S70)) (l0_4 : List (S74)) : Option (Int) := (impl_Lsa_bytes.f k a0_0 a0_1 a0_2 l0_3 l0_4).bind fun t322 => (impl_Lsa_sum.l0 k 1 t322 (t322.length : Int) 0)
theorem impl_Lsa_sum.mono_l : ∀ k, (∀ y0 y1 y2 y3, LeO (impl_Lsa_sum.l0 k y0 y1 y2 y3) (impl_Lsa_sum.l0 (k + 1) y0 y1 y2 y3))
 | 0 => fun _ _ _ _ r h => by simp [impl_Lsa_sum.l0] at h
 | k + 1 => by
  have ih0 := impl_Lsa_sum.mono_l k
  ·intro y0 y1 y2 y3
   unfold impl_Lsa_sum.l0
   repeat' first
   | (with_reducible exact ih0 _ _ _ _)
   | (with_reducible exact impl_Lsa_bytes.mono _ _ _ _ _ _)
   | (with_reducible exact LeO.refl _)
   | (with_reducible exact LeO.none _)
   | (with_reducible refine LeO.ite ?_ ?_)
   | (with_reducible refine LeO.bind ?_ (fun _ => ?_))
   | exact ih0 _ _ _ _
   | exact impl_Lsa_bytes.mono _ _ _ _ _ _
   | exact LeO.none _
   | refine LeO.ite ?_ ?_
   | refine LeO.bind ?_ (fun _ => ?_)
theorem impl_Lsa_sum.mono : ∀ a0 a1 a2 a3 a4 k, LeO (impl_Lsa_sum.f k a0 a1 a2 a3 a4) (impl_Lsa_sum.f (k + 1) a0 a1 a2 a3 a4) := by
 intro a0 a1 a2 a3 a4 k
 have ih0 := impl_Lsa_sum.mono_l k
 unfold impl_Lsa_sum.f
 repeat' first
   | (with_reducible exact ih0 _ _ _ _)
   | (with_reducible exact impl_Lsa_bytes.mono _ _ _ _ _ _)
   | (with_reducible exact LeO.refl _)
   | (with_reducible exact LeO.none _)
   | (with_reducible refine LeO.ite ?_ ?_)
   | (with_reducible refine LeO.bind ?_ (fun _ => ?_))
   | exact ih0 _ _ _ _
   | exact impl_Lsa_bytes.mono _ _ _ _ _ _
   | exact LeO.none _
   | refine LeO.ite ?_ ?_
   | refine LeO.bind ?_ (fun _ => ?_)
set_option maxHeartbeats 8000000 in
set_option maxRecDepth 100000 in
theorem impl_Lsa_sum.calls (k : Nat) (a0_0 : Int) (a0_1 : Int) (a0_2 : Int) (A0_3 : Option Addr) (c0_3 : Nat) (l0_3 : List (S70)) (A0_4 : Option Addr) (c0_4 : Nat) (l0_4 : List (S74)) (r : Int) (w : World) (hr0_3 : Kd.C k70 w A0_3 l0_3.length l0_3) (hc0_3 : l0_3.length ≤ c0_3) (hr0_4 : Kd.C k74 w A0_4 l0_4.length l0_4) (hc0_4 : l0_4.length ≤ c0_4) (h : impl_Lsa_sum.f k a0_0 a0_1 a0_2 l0_3 l0_4 = some r) :
  Calls Try.prog 63 #[.agg #[.int .i64 a0_0, .int .i64 a0_1, .int .i64 a0_2, .slice A0_3 l0_3.length c0_3, .slice A0_4 l0_4.length c0_4]] w fun e w' => e = .returned (.int .i64 r) ∧ Below w.heap.size w w' := by
 have hu31 := Try.underlying31
 have HR0_3 := Aside0.mk hr0_3
 have HC0_3 := Aside0.mk hc0_3
 clear hr0_3 hc0_3
 have HR0_4 := Aside0.mk hr0_4
 have HC0_4 := Aside0.mk hc0_4
 clear hr0_4 hc0_4
 have HB := Aside0.mk (Below.refl w.heap.size w)
 have H : ((impl_Lsa_bytes.f k a0_0 a0_1 a0_2 l0_3 l0_4).bind fun t322 => (impl_Lsa_sum.l0 k 1 t322 (t322.length : Int) 0)) = some r := h
 clear h
 replace H := Option.bind_eq_some_iff.mp H
 obtain ⟨t322, A20, H⟩ := H
 have A2 := Aside0.mk A20
 clear A20
 have H' := Aside0.mk H
 clear H
 go_enter Try.func63, Try.ntmps63
 go_wp2_with (first | ((with_reducible refine gate_dst (N := 1) rfl ?_); refine box_event ?hg (N := 1) ?hd (cs := #[.int .i64 a0_0, .int .i64 a0_1, .int .i64 a0_2, .slice A0_3 l0_3.length c0_3, .slice A0_4 l0_4.length c0_4]) (t := 31) ?hr ?_; (case hd => rfl); (case hg => rfl); (case hr => first | (go_simp; done) | (go_simp; rfl)); intro gb321 hg w3 hbox hb; have n0_ := Aside0.mk (bt_ HB hb); have n1_ := Aside0.mk (hbox); have n2_ := Aside0.mk ((by rw [hg]; exact (bz_ HB) : w.heap.size ≤ gb321)); have n3_ := Aside0.mk ((by rw [hg]; exact (bz_ HB) : w.heap.size ≤ gb321)); clear HB; have HB := n0_; have BK321 := n1_; have GW321 := n2_; have GE321 := n3_; clear n0_ n1_ n2_ n3_; clear hb hbox hg; have hcz4_0 : w3.cell? ⟨gb321, 0, none⟩ = some (.int .i64 a0_0) := (blk_cell BK321.out 0).trans rfl; have hcz4_1 : w3.cell? ⟨gb321, 1, none⟩ = some (.int .i64 a0_1) := (blk_cell BK321.out 1).trans rfl; have hcz4_2 : w3.cell? ⟨gb321, 2, none⟩ = some (.int .i64 a0_2) := (blk_cell BK321.out 2).trans rfl; have hcz4_3 : w3.cell? ⟨gb321, 3, none⟩ = some (.slice A0_3 l0_3.length c0_3) := (blk_cell BK321.out 3).trans rfl; have hcz4_4 : w3.cell? ⟨gb321, 4, none⟩ = some (.slice A0_4 l0_4.length c0_4) := (blk_cell BK321.out 4).trans rfl; have hfz4_0 := blk_frozen BK321.out 0; have hfz4_1 := blk_frozen BK321.out 1; have hfz4_2 := blk_frozen BK321.out 2; have hfz4_3 := blk_frozen BK321.out 3; have hfz4_4 := blk_frozen BK321.out 4) | ((with_reducible refine gate_callee (f := 77) rfl ?_); refine gl_ (some 7) Try.func77 #[.agg #[.int .i64 a0_0, .int .i64 a0_1, .int .i64 a0_2, .slice A0_3 l0_3.length c0_3, .slice A0_4 l0_4.length c0_4]] ?_; (with_reducible refine (impl_Lsa_bytes.calls k a0_0 a0_1 a0_2 _ _ l0_3 _ _ l0_4 t322 _ ?side1 ?side2 ?side3 ?side4 A2.out).mono ?_); (case side1 => repeat (first | exact (Kd.C_below HR0_3.out HB.out) | (with_reducible refine Kd.C_alloc ?_ _) | (with_reducible refine Kd.C_drewN ?_ _) | (with_reducible refine Kd.C_drew ?_))); (case side2 => exact HC0_3.out); (case side3 => repeat (first | exact (Kd.C_below HR0_4.out HB.out) | (with_reducible refine Kd.C_alloc ?_ _) | (with_reducible refine Kd.C_drewN ?_ _) | (with_reducible refine Kd.C_drew ?_))); (case side4 => exact HC0_4.out); rintro e w5 ⟨v323, rfl, ho0, hb⟩; refine ⟨_, rfl, ?_⟩; have n0_ := Aside0.mk (Kd.R_lower ho0 (below_size (by repeat (first | (with_reducible first | exact HB.out | apply below_alloc | apply pw_below_drewN | apply below_drew1 | refine below_set ?_ GE321.out) | exact HB.out)))); have n1_ := Aside0.mk (bb_ BK321 hb); have n2_ := Aside0.mk (below_step (by repeat (first | (with_reducible first | exact HB.out | apply below_alloc | apply pw_below_drewN | apply below_drew1 | refine below_set ?_ GE321.out) | exact HB.out)) hb); clear BK321; clear HB; have HO324 := n0_; have BK321 := n1_; have HB := n2_; clear n0_ n1_ n2_; (try clear hb); (try clear hb2); (try clear hk); (try clear hi); (try clear ho0); obtain ⟨Ao6, co6, eo6⟩ := Kd.R_slice HO324.out; subst eo6))
 go_loopg [3, 9] k (fun kq v3 v9 w' => ∃ (x3_1 : Int) (x9_1 : Int), v3 = .int .i64 x3_1 ∧ v9 = .int .i64 x9_1 ∧ Aside0 (impl_Lsa_sum.l0 kq x3_1 t322 (t322.length : Int) x9_1 = some r) ∧ Aside0 (kq ≤ k) ∧ Aside0 (Kd.R (Kd.int .u8) 5 w' w.heap.size (fun _ => True) (.slice Ao6 t322.length co6) t322) ∧ Aside0 (w'.heap[gb321]? = some (.cells #[.int .i64 a0_0, .int .i64 a0_1, .int .i64 a0_2, (.slice A0_3 l0_3.length c0_3), (.slice A0_4 l0_4.length c0_4)] 31 (0, 0))) ∧ Aside0 (Below w.heap.size w w'))
 case atStart => exact ⟨(1), (0), (by first | rfl | (simp; done) | (simp [*]; done)), (by first | rfl | (simp; done) | (simp [*]; done)), H', ⟨Nat.le_refl _⟩, ⟨by (with_reducible repeat (first | apply Kd.R_alloc | apply Kd.R_drewN | apply Kd.R_drew)); exact HO324.out⟩, ⟨by (with_reducible repeat (first | refine blk_drewN ?_ _ | refine blk_drew ?_ | refine blk_alloc ?_ _)); exact BK321.out⟩, ⟨by repeat (first | (with_reducible first | exact HB.out | apply below_alloc | apply pw_below_drewN | apply below_drew1 | refine below_set ?_ GE321.out) | exact HB.out)⟩⟩
 case round =>
  clear H'
  try clear p2
  try clear c6
  try clear hcz4_0
  try clear hcz4_1
  try clear hcz4_2
  try clear hcz4_3
  try clear hcz4_4
  try clear hfz4_0
  try clear hfz4_1
  try clear hfz4_2
  try clear hfz4_3
  try clear hfz4_4
  obtain ⟨x3_1, x9_1, rfl, rfl, HA, HK1, HO_7, BK321, HB⟩ := hrel
  cases gk with
  | zero => exact absurd HA.out (by simp [impl_Lsa_sum.l0])
  | succ k1 =>
   have H := HA.out
   clear HA
   simp only [impl_Lsa_sum.l0] at H
   by_cases c7 : x9_1 < (t322.length : Int)
   ·rw [if_pos c7] at H
    have c7b0 : decide (x9_1 < (t322.length : Int)) = true := decide_eq_true c7
    clear c7
    by_cases c8 : 0 ≤ x9_1
    ·rw [if_pos c8] at H
     have c8b0 : decide (0 ≤ x9_1) = true := decide_eq_true c8
     clear c8
     by_cases c9 : x9_1 < (t322.length : Int)
     ·rw [if_pos c9] at H
      have c9b0 : decide (x9_1 < (t322.length : Int)) = true := decide_eq_true c9
      clear c9
      have H' := Aside0.mk H
      clear H
      have p325 : 0 ≤ (x9_1 : Int) := of_decide_eq_true (by first | (with_reducible assumption) | assumption)
      have q325 : x9_1 < (t322.length : Int) := of_decide_eq_true (by first | (with_reducible assumption) | assumption)
      obtain ⟨ad325, e325, hx325_0⟩ := Kd.at_int (Kd.R_reads' HO_7.out).2.2 x9_1 p325 q325
      cases e325
      replace p325 := eq_true p325
      replace q325 := eq_true q325
      go_wp2
      go_roundg k1
      case measure => have := HK1.out; omega
      case rel => exact ⟨(Int.tmod (wrap64 ((wrap64 ((wrap64 (257 * x3_1)) + (wrap64 (rd t322 x9_1)))) + 1)) 1000003), (wrap64 (x9_1 + 1)), (by first | rfl | (simp; done) | (simp [*]; done)), (by first | rfl | (simp; done) | (simp [*]; done)), H', ⟨by have := HK1.out; omega⟩, ⟨by (with_reducible repeat (first | apply Kd.R_alloc | apply Kd.R_drewN | apply Kd.R_drew)); exact HO_7.out⟩, ⟨by (with_reducible repeat (first | refine blk_drewN ?_ _ | refine blk_drew ?_ | refine blk_alloc ?_ _)); exact BK321.out⟩, ⟨by repeat (first | (with_reducible first | exact HB.out | apply below_alloc | apply pw_below_drewN | apply below_drew1 | refine below_set ?_ GE321.out) | exact HB.out)⟩⟩
     ·rw [if_neg c9] at H
      exact absurd H (by simp)
    ·rw [if_neg c8] at H
     exact absurd H (by simp)
   ·rw [if_neg c7] at H
    have c7b0 : decide (x9_1 < (t322.length : Int)) = false := decide_eq_false c7
    clear c7
    obtain rfl := Option.some.inj H
    go_wp2
    go_ret
    exact ⟨by first | rfl | (simp [errW_none, errW_some] <;> rfl) | (simp [*, errW_none, errW_some] <;> rfl), by repeat (first | (with_reducible first | exact HB.out | apply below_alloc | apply pw_below_drewN | apply below_drew1 | refine below_set ?_ GE321.out) | exact HB.out)⟩

/-! ### impl_LsaSum: function 26 -/
def impl_LsaSum.f (k : Nat) (a0_0 : Int) (a0_1 : Int) (a0_2 : Int) (l0_3 : List (S70)) (l0_4 : List (S74)) : Option (Int) := (impl_LsaOk.f k a0_0 a0_1 a0_2 l0_3 l0_4).bind fun t327 => (if t327 = true then ((impl_Lsa_sum.f k a0_0 a0_1 a0_2 l0_3 l0_4).bind fun t328 => (some t328)) else (some (-1)))
theorem impl_LsaSum.mono : ∀ a0 a1 a2 a3 a4 k, LeO (impl_LsaSum.f k a0 a1 a2 a3 a4) (impl_LsaSum.f (k + 1) a0 a1 a2 a3 a4) := by
 intro a0 a1 a2 a3 a4 k
 unfold impl_LsaSum.f
 repeat' first
   | (with_reducible exact impl_LsaOk.mono _ _ _ _ _ _)
   | (with_reducible exact impl_Lsa_sum.mono _ _ _ _ _ _)
   | (with_reducible exact LeO.refl _)
   | (with_reducible exact LeO.none _)
   | (with_reducible refine LeO.ite ?_ ?_)
   | (with_reducible refine LeO.bind ?_ (fun _ => ?_))
   | exact impl_LsaOk.mono _ _ _ _ _ _
   | exact impl_Lsa_sum.mono _ _ _ _ _ _
   | exact LeO.none _
   | refine LeO.ite ?_ ?_
   | refine LeO.bind ?_ (fun _ => ?_)
set_option maxHeartbeats 8000000 in
set_option maxRecDepth 100000 in
theorem impl_LsaSum.calls (k : Nat) (a0_0 : Int) (a0_1 : Int) (a0_2 : Int) (A0_3 : Option Addr) (c0_3 : Nat) (l0_3 : List (S70)) (A0_4 : Option Addr) (c0_4 : Nat) (l0_4 : List (S74)) (r : Int) (w : World) (hr0_3 : Kd.C k70 w A0_3 l0_3.length l0_3) (hc0_3 : l0_3.length ≤ c0_3) (hr0_4 : Kd.C k74 w A0_4 l0_4.length l0_4) (hc0_4 : l0_4.length ≤ c0_4) (h : impl_LsaSum.f k a0_0 a0_1 a0_2 l0_3 l0_4 = some r) :
  Calls Try.prog 26 #[.agg #[.int .i64 a0_0, .int .i64 a0_1, .int .i64 a0_2, .slice A0_3 l0_3.length c0_3, .slice A0_4 l0_4.length c0_4]] w fun e w' => e = .returned (.int .i64 r) ∧ Below w.heap.size w w' := by
 have hu31 := Try.underlying31
 have HR0_3 := Aside0.mk hr0_3
 have HC0_3 := Aside0.mk hc0_3
 clear hr0_3 hc0_3
 have HR0_4 := Aside0.mk hr0_4
 have HC0_4 := Aside0.mk hc0_4
 clear hr0_4 hc0_4
 have HB := Aside0.mk (Below.refl w.heap.size w)
 have H : ((impl_LsaOk.f k a0_0 a0_1 a0_2 l0_3 l0_4).bind fun t327 => (if t327 = true then ((impl_Lsa_sum.f k a0_0 a0_1 a0_2 l0_3 l0_4).bind fun t328 => (some t328)) else (some (-1)))) = some r := h
 clear h
 replace H := Option.bind_eq_some_iff.mp H
 obtain ⟨t327, A20, H⟩ := H
 have A2 := Aside0.mk A20
 clear A20
 by_cases c3 : t327 = true
 ·subst c3
  rw [if_pos rfl] at H
  replace H := Option.bind_eq_some_iff.mp H
  obtain ⟨t328, A40, H⟩ := H
  have A4 := Aside0.mk A40
  clear A40
  obtain rfl := Option.some.inj H
  go_enter Try.func26, Try.ntmps26
  go_wp2_with (first | ((with_reducible refine gate_dst (N := 1) rfl ?_); refine box_event ?hg (N := 1) ?hd (cs := #[.int .i64 a0_0, .int .i64 a0_1, .int .i64 a0_2, .slice A0_3 l0_3.length c0_3, .slice A0_4 l0_4.length c0_4]) (t := 31) ?hr ?_; (case hd => rfl); (case hg => rfl); (case hr => first | (go_simp; done) | (go_simp; rfl)); intro gb326 hg w5 hbox hb; have n0_ := Aside0.mk (bt_ HB hb); have n1_ := Aside0.mk (hbox); have n2_ := Aside0.mk ((by rw [hg]; exact (bz_ HB) : w.heap.size ≤ gb326)); have n3_ := Aside0.mk ((by rw [hg]; exact (bz_ HB) : w.heap.size ≤ gb326)); clear HB; have HB := n0_; have BK326 := n1_; have GW326 := n2_; have GE326 := n3_; clear n0_ n1_ n2_ n3_; clear hb hbox hg; have hcz6_0 : w5.cell? ⟨gb326, 0, none⟩ = some (.int .i64 a0_0) := (blk_cell BK326.out 0).trans rfl; have hcz6_1 : w5.cell? ⟨gb326, 1, none⟩ = some (.int .i64 a0_1) := (blk_cell BK326.out 1).trans rfl; have hcz6_2 : w5.cell? ⟨gb326, 2, none⟩ = some (.int .i64 a0_2) := (blk_cell BK326.out 2).trans rfl; have hcz6_3 : w5.cell? ⟨gb326, 3, none⟩ = some (.slice A0_3 l0_3.length c0_3) := (blk_cell BK326.out 3).trans rfl; have hcz6_4 : w5.cell? ⟨gb326, 4, none⟩ = some (.slice A0_4 l0_4.length c0_4) := (blk_cell BK326.out 4).trans rfl; have hfz6_0 := blk_frozen BK326.out 0; have hfz6_1 := blk_frozen BK326.out 1; have hfz6_2 := blk_frozen BK326.out 2; have hfz6_3 := blk_frozen BK326.out 3; have hfz6_4 := blk_frozen BK326.out 4) | ((with_reducible refine gate_callee (f := 16) rfl ?_); refine gl_ (some 4) Try.func16 #[.agg #[.int .i64 a0_0, .int .i64 a0_1, .int .i64 a0_2, .slice A0_3 l0_3.length c0_3, .slice A0_4 l0_4.length c0_4]] ?_; (with_reducible refine (impl_LsaOk.calls k a0_0 a0_1 a0_2 _ _ l0_3 _ _ l0_4 true _ ?side1 ?side2 ?side3 ?side4 A2.out).mono ?_); (case side1 => repeat (first | exact (Kd.C_below HR0_3.out HB.out) | (with_reducible refine Kd.C_alloc ?_ _) | (with_reducible refine Kd.C_drewN ?_ _) | (with_reducible refine Kd.C_drew ?_))); (case side2 => exact HC0_3.out); (case side3 => repeat (first | exact (Kd.C_below HR0_4.out HB.out) | (with_reducible refine Kd.C_alloc ?_ _) | (with_reducible refine Kd.C_drewN ?_ _) | (with_reducible refine Kd.C_drew ?_))); (case side4 => exact HC0_4.out); rintro e w7 ⟨rfl, hb⟩; refine ⟨_, rfl, ?_⟩; have n0_ := Aside0.mk (bb_ BK326 hb); have n1_ := Aside0.mk (below_step (by repeat (first | (with_reducible first | exact HB.out | apply below_alloc | apply pw_below_drewN | apply below_drew1 | refine below_set ?_ GE326.out) | exact HB.out)) hb); clear BK326; clear HB; have BK326 := n0_; have HB := n1_; clear n0_ n1_; (try clear hb); (try clear hb2); (try clear hk); (try clear hi); have hcz8_0 : w7.cell? ⟨gb326, 0, none⟩ = some (.int .i64 a0_0) := (blk_cell BK326.out 0).trans rfl; have hcz8_1 : w7.cell? ⟨gb326, 1, none⟩ = some (.int .i64 a0_1) := (blk_cell BK326.out 1).trans rfl; have hcz8_2 : w7.cell? ⟨gb326, 2, none⟩ = some (.int .i64 a0_2) := (blk_cell BK326.out 2).trans rfl; have hcz8_3 : w7.cell? ⟨gb326, 3, none⟩ = some (.slice A0_3 l0_3.length c0_3) := (blk_cell BK326.out 3).trans rfl; have hcz8_4 : w7.cell? ⟨gb326, 4, none⟩ = some (.slice A0_4 l0_4.length c0_4) := (blk_cell BK326.out 4).trans rfl; have hfz8_0 := blk_frozen BK326.out 0; have hfz8_1 := blk_frozen BK326.out 1; have hfz8_2 := blk_frozen BK326.out 2; have hfz8_3 := blk_frozen BK326.out 3; have hfz8_4 := blk_frozen BK326.out 4) | ((with_reducible refine gate_callee (f := 63) rfl ?_); refine gl_ (some 7) Try.func63 #[.agg #[.int .i64 a0_0, .int .i64 a0_1, .int .i64 a0_2, .slice A0_3 l0_3.length c0_3, .slice A0_4 l0_4.length c0_4]] ?_; (with_reducible refine (impl_Lsa_sum.calls k a0_0 a0_1 a0_2 _ _ l0_3 _ _ l0_4 t328 _ ?side1 ?side2 ?side3 ?side4 A4.out).mono ?_); (case side1 => repeat (first | exact (Kd.C_below HR0_3.out HB.out) | (with_reducible refine Kd.C_alloc ?_ _) | (with_reducible refine Kd.C_drewN ?_ _) | (with_reducible refine Kd.C_drew ?_))); (case side2 => exact HC0_3.out); (case side3 => repeat (first | exact (Kd.C_below HR0_4.out HB.out) | (with_reducible refine Kd.C_alloc ?_ _) | (with_reducible refine Kd.C_drewN ?_ _) | (with_reducible refine Kd.C_drew ?_))); (case side4 => exact HC0_4.out); rintro e w9 ⟨rfl, hb⟩; refine ⟨_, rfl, ?_⟩; have n0_ := Aside0.mk (bb_ BK326 hb); have n1_ := Aside0.mk (below_step (by repeat (first | (with_reducible first | exact HB.out | apply below_alloc | apply pw_below_drewN | apply below_drew1 | refine below_set ?_ GE326.out) | exact HB.out)) hb); clear BK326; clear HB; have BK326 := n0_; have HB := n1_; clear n0_ n1_; (try clear hb); (try clear hb2); (try clear hk); (try clear hi)))
  go_ret
  exact ⟨by first | rfl | (simp [errW_none, errW_some] <;> rfl) | (simp [*, errW_none, errW_some] <;> rfl), by repeat (first | (with_reducible first | exact HB.out | apply below_alloc | apply pw_below_drewN | apply below_drew1 | refine below_set ?_ GE326.out) | exact HB.out)⟩
 ·replace c3 := Bool.eq_false_iff.mpr c3
  subst c3
  rw [if_neg (show ¬ (false = true) by decide)] at H
  obtain rfl := Option.some.inj H
  go_enter Try.func26, Try.ntmps26
  go_wp2_with (first | ((with_reducible refine gate_dst (N := 1) rfl ?_); refine box_event ?hg (N := 1) ?hd (cs := #[.int .i64 a0_0, .int .i64 a0_1, .int .i64 a0_2, .slice A0_3 l0_3.length c0_3, .slice A0_4 l0_4.length c0_4]) (t := 31) ?hr ?_; (case hd => rfl); (case hg => rfl); (case hr => first | (go_simp; done) | (go_simp; rfl)); intro gb326 hg w10 hbox hb; have n0_ := Aside0.mk (bt_ HB hb); have n1_ := Aside0.mk (hbox); have n2_ := Aside0.mk ((by rw [hg]; exact (bz_ HB) : w.heap.size ≤ gb326)); have n3_ := Aside0.mk ((by rw [hg]; exact (bz_ HB) : w.heap.size ≤ gb326)); clear HB; have HB := n0_; have BK326 := n1_; have GW326 := n2_; have GE326 := n3_; clear n0_ n1_ n2_ n3_; clear hb hbox hg; have hcz11_0 : w10.cell? ⟨gb326, 0, none⟩ = some (.int .i64 a0_0) := (blk_cell BK326.out 0).trans rfl; have hcz11_1 : w10.cell? ⟨gb326, 1, none⟩ = some (.int .i64 a0_1) := (blk_cell BK326.out 1).trans rfl; have hcz11_2 : w10.cell? ⟨gb326, 2, none⟩ = some (.int .i64 a0_2) := (blk_cell BK326.out 2).trans rfl; have hcz11_3 : w10.cell? ⟨gb326, 3, none⟩ = some (.slice A0_3 l0_3.length c0_3) := (blk_cell BK326.out 3).trans rfl; have hcz11_4 : w10.cell? ⟨gb326, 4, none⟩ = some (.slice A0_4 l0_4.length c0_4) := (blk_cell BK326.out 4).trans rfl; have hfz11_0 := blk_frozen BK326.out 0; have hfz11_1 := blk_frozen BK326.out 1; have hfz11_2 := blk_frozen BK326.out 2; have hfz11_3 := blk_frozen BK326.out 3; have hfz11_4 := blk_frozen BK326.out 4) | ((with_reducible refine gate_callee (f := 16) rfl ?_); refine gl_ (some 4) Try.func16 #[.agg #[.int .i64 a0_0, .int .i64 a0_1, .int .i64 a0_2, .slice A0_3 l0_3.length c0_3, .slice A0_4 l0_4.length c0_4]] ?_; (with_reducible refine (impl_LsaOk.calls k a0_0 a0_1 a0_2 _ _ l0_3 _ _ l0_4 false _ ?side1 ?side2 ?side3 ?side4 A2.out).mono ?_); (case side1 => repeat (first | exact (Kd.C_below HR0_3.out HB.out) | (with_reducible refine Kd.C_alloc ?_ _) | (with_reducible refine Kd.C_drewN ?_ _) | (with_reducible refine Kd.C_drew ?_))); (case side2 => exact HC0_3.out); (case side3 => repeat (first | exact (Kd.C_below HR0_4.out HB.out) | (with_reducible refine Kd.C_alloc ?_ _) | (with_reducible refine Kd.C_drewN ?_ _) | (with_reducible refine Kd.C_drew ?_))); (case side4 => exact HC0_4.out); rintro e w12 ⟨rfl, hb⟩; refine ⟨_, rfl, ?_⟩; have n0_ := Aside0.mk (bb_ BK326 hb); have n1_ := Aside0.mk (below_step (by repeat (first | (with_reducible first | exact HB.out | apply below_alloc | apply pw_below_drewN | apply below_drew1 | refine below_set ?_ GE326.out) | exact HB.out)) hb); clear BK326; clear HB; have BK326 := n0_; have HB := n1_; clear n0_ n1_; (try clear hb); (try clear hb2); (try clear hk); (try clear hi)))
  go_ret
  exact ⟨by first | rfl | (simp [errW_none, errW_some] <;> rfl) | (simp [*, errW_none, errW_some] <;> rfl), by repeat (first | (with_reducible first | exact HB.out | apply below_alloc | apply pw_below_drewN | apply below_drew1 | refine below_set ?_ GE326.out) | exact HB.out)⟩

end Go.Proofs.Ytiikcfaodkiakaa.QFnExactLsaSum
