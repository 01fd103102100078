/- Contracts of functions that the law reaches: what each call returns and what it leaves in memory. Made by this session over the print of the kit. -/
import Derived.Test.YthmahcohcphljaaQFnSharesx0
namespace Go.Proofs.Ythmahcohcphljaa.QFnShares
open Go.RowKit Go.Proofs.YthmahcohcphljaaS.PrintWords Go.Proofs.YthmahcohcphljaaS.PrintLast Go.Proofs.YthmahcohcphljaaS.PrintMore
attribute [local go_sem] max2_int min2_int max_two min_two max_three min_three max_four min_four   -- for this text's walks alone
set_option linter.unusedVariables false
set_option linter.unusedSimpArgs false

/-! ### impl_Graph_hopsTo: function 58 -/
mutual
def impl_Graph_hopsTo.j0 : Nat → Int → Int → List (List Int) → List Int → Bool → Int → List (S76) → Option (List Int)
 | 0, _, _, _, _, _, _, _ => none
 | k + 1, x1, x2, x3, x9, x25, x252000, x252001 => if x25 = true then (some x9) else (impl_Graph_hopsTo.l0 k x1 x2 x3 x9 x252001 (x252001.length : Int) 0)
def impl_Graph_hopsTo.l0 : Nat → Int → Int → List (List Int) → List Int → List (S76) → Int → Int → Option (List Int)
 | 0, _, _, _, _, _, _, _ => none
 | k + 1, x1, x2, x3, x9, x28, x29, x30 => if x30 < x29 then (if 0 ≤ x30 then (if x30 < (x28.length : Int) then (if ((rd_T76 x28 x30).f0) = x1 then (if 0 ≤ ((rd_T76 x28 x30).f1) then (if ((rd_T76 x28 x30).f1) < (x3.length : Int) then (if 0 ≤ x2 then (if x2 < ((rd_L3 x3 ((rd_T76 x28 x30).f1)).length : Int) then (if 0 ≤ x1 then (if x1 < (x3.length : Int) then (if x2 < ((rd_L3 x3 x1).length : Int) then (if (wrap64 (((rd_T76 x28 x30).f2) + (rd (rd_L3 x3 ((rd_T76 x28 x30).f1)) x2))) = (rd (rd_L3 x3 x1) x2) then (if x9.length < 17592186044416 then (impl_Graph_hopsTo.l0 k x1 x2 x3 (x9 ++ [(rd_T76 x28 x30).f1]) x28 x29 (wrap64 (x30 + 1))) else (none)) else (impl_Graph_hopsTo.l0 k x1 x2 x3 x9 x28 x29 (wrap64 (x30 + 1)))) else (none)) else (none)) else (none)) else (none)) else (none)) else (none)) else (none)) else (impl_Graph_hopsTo.l0 k x1 x2 x3 x9 x28 x29 (wrap64 (x30 + 1)))) else (none)) else (none)) else (some x9)
end
def impl_Graph_hopsTo.f (k : Nat) (a0_0 : Int) (l0_1 : List (S76)) (a1 : Int) (a2 : Int) (l3 : List (List Int)) : Option (List Int) := (some (([] : List Int) : List Int)).bind fun y252 => (if a1 = a2 then (impl_Graph_hopsTo.j0 k a1 a2 l3 y252 true a0_0 l0_1) else (if 0 ≤ a1 then (if a1 < (l3.length : Int) then (if 0 ≤ a2 then (if a2 < ((rd_L3 l3 a1).length : Int) then (impl_Graph_hopsTo.j0 k a1 a2 l3 y252 ((rd (rd_L3 l3 a1) a2) == 1000000) a0_0 l0_1) else (none)) else (none)) else (none)) else (none)))
theorem impl_Graph_hopsTo.mono_l : ∀ k, (∀ y0 y1 y2 y3 y4 y5 y6, LeO (impl_Graph_hopsTo.j0 k y0 y1 y2 y3 y4 y5 y6) (impl_Graph_hopsTo.j0 (k + 1) y0 y1 y2 y3 y4 y5 y6)) ∧ (∀ y0 y1 y2 y3 y4 y5 y6, LeO (impl_Graph_hopsTo.l0 k y0 y1 y2 y3 y4 y5 y6) (impl_Graph_hopsTo.l0 (k + 1) y0 y1 y2 y3 y4 y5 y6))
 | 0 => ⟨fun _ _ _ _ _ _ _ r h => by simp [impl_Graph_hopsTo.j0] at h, fun _ _ _ _ _ _ _ r h => by simp [impl_Graph_hopsTo.l0] at h⟩
 | k + 1 => by
  obtain ⟨ih0, ih1⟩ := impl_Graph_hopsTo.mono_l k
  refine ⟨?_, ?_⟩
  ·intro y0 y1 y2 y3 y4 y5 y6
   unfold impl_Graph_hopsTo.j0
   repeat' first | (with_reducible first | exact ih0 _ _ _ _ _ _ _ | exact ih1 _ _ _ _ _ _ _ | exact LeO.refl _ | exact LeO.none _ | refine LeO.ite ?_ ?_ | refine LeO.bind ?_ (fun _ => ?_)) | exact ih0 _ _ _ _ _ _ _ | exact ih1 _ _ _ _ _ _ _ | exact LeO.none _ | refine LeO.ite ?_ ?_ | refine LeO.bind ?_ (fun _ => ?_)
  ·intro y0 y1 y2 y3 y4 y5 y6
   unfold impl_Graph_hopsTo.l0
   repeat' first | (with_reducible first | exact ih0 _ _ _ _ _ _ _ | exact ih1 _ _ _ _ _ _ _ | exact LeO.refl _ | exact LeO.none _ | refine LeO.ite ?_ ?_ | refine LeO.bind ?_ (fun _ => ?_)) | exact ih0 _ _ _ _ _ _ _ | exact ih1 _ _ _ _ _ _ _ | exact LeO.none _ | refine LeO.ite ?_ ?_ | refine LeO.bind ?_ (fun _ => ?_)
theorem impl_Graph_hopsTo.mono : ∀ a0 a1 a2 a3 a4 k, LeO (impl_Graph_hopsTo.f k a0 a1 a2 a3 a4) (impl_Graph_hopsTo.f (k + 1) a0 a1 a2 a3 a4) := by
 intro a0 a1 a2 a3 a4 k
 obtain ⟨ih0, ih1⟩ := impl_Graph_hopsTo.mono_l k
 unfold impl_Graph_hopsTo.f
 repeat' first | (with_reducible first | exact ih0 _ _ _ _ _ _ _ | exact ih1 _ _ _ _ _ _ _ | exact LeO.refl _ | exact LeO.none _ | refine LeO.ite ?_ ?_ | refine LeO.bind ?_ (fun _ => ?_)) | exact ih0 _ _ _ _ _ _ _ | exact ih1 _ _ _ _ _ _ _ | exact LeO.none _ | refine LeO.ite ?_ ?_ | refine LeO.bind ?_ (fun _ => ?_)
set_option maxHeartbeats 8000000 in
set_option maxRecDepth 100000 in
theorem impl_Graph_hopsTo.calls (k : Nat) (a0_0 : Int) (A0_1 : Option Addr) (c0_1 : Nat) (l0_1 : List (S76)) (a1 : Int) (a2 : Int) (A3 : Option Addr) (c3 : Nat) (l3 : List (List Int)) (r : List Int) (w : World) (hr0_1 : Kd.C k76 w A0_1 l0_1.length l0_1) (hc0_1 : l0_1.length ≤ c0_1) (hr3 : Kd.C (Kd.slice 3 (Kd.int .i64)) w A3 l3.length l3) (hc3 : l3.length ≤ c3) (h : impl_Graph_hopsTo.f k a0_0 l0_1 a1 a2 l3 = some r) :
  Calls Try.prog 58 #[.agg #[.int .i64 a0_0, .slice A0_1 l0_1.length c0_1], .int .i64 a1, .int .i64 a2, .slice A3 l3.length c3] w fun e w' => ∃ v0_ : Value, e = .returned (v0_) ∧ Kd.R (Kd.int .i64) 3 w' w.heap.size (fun _ => True) v0_ r ∧ Below w.heap.size w w' := by
 have hu30 := Try.underlying30
 have hu76 := Try.underlying76
 have HR0_1 := Aside0.mk hr0_1
 have HC0_1 := Aside0.mk hc0_1
 clear hr0_1 hc0_1
 have HR3 := Aside0.mk hr3
 have HC3 := Aside0.mk hc3
 clear hr3 hc3
 have HB := Aside0.mk (Below.refl w.heap.size w)
 have H : ((some (([] : List Int) : List Int)).bind fun y252 => (if a1 = a2 then (impl_Graph_hopsTo.j0 k a1 a2 l3 y252 true a0_0 l0_1) else (if 0 ≤ a1 then (if a1 < (l3.length : Int) then (if 0 ≤ a2 then (if a2 < ((rd_L3 l3 a1).length : Int) then (impl_Graph_hopsTo.j0 k a1 a2 l3 y252 ((rd (rd_L3 l3 a1) a2) == 1000000) a0_0 l0_1) else (none)) else (none)) else (none)) else (none)))) = some r := h
 clear h
 obtain ⟨y252, hy252⟩ : ∃ y_ : List Int, y_ = (([] : List Int)) := ⟨_, rfl⟩
 replace H : (if a1 = a2 then (impl_Graph_hopsTo.j0 k a1 a2 l3 y252 true a0_0 l0_1) else (if 0 ≤ a1 then (if a1 < (l3.length : Int) then (if 0 ≤ a2 then (if a2 < ((rd_L3 l3 a1).length : Int) then (impl_Graph_hopsTo.j0 k a1 a2 l3 y252 ((rd (rd_L3 l3 a1) a2) == 1000000) a0_0 l0_1) else (none)) else (none)) else (none)) else (none))) = some r := by first | (rw [hy252]; with_reducible exact H) | (have H2_ := (Option.bind_some _ _).symm.trans H; rw [hy252]; with_reducible exact H2_) | (have H2_ := (Option.bind_some _ _).symm.trans H; with_reducible exact H2_) | with_reducible exact H | (rw [hy252]; exact H) | exact H
 have Ny252 := Aside0.mk hy252
 clear hy252
 have HC5 := Aside0.mk H
 clear H
 go_enter Try.func58, Try.ntmps58
 go_upto_region 2 with (first | ((with_reducible refine gate_dst (N := 4) rfl ?_); refine box_event ?hg (N := 4) ?hd (cs := #[.int .i64 a0_0, .slice A0_1 l0_1.length c0_1]) (t := 30) ?hr ?_; (case hd => rfl); (case hg => rfl); (case hr => first | (go_simp; done) | (go_simp; rfl)); intro gb251 hg w6 hbox hb; have BK251 := Aside0.mk hbox; have GW251 := ge_ HB hg; have GE251 := ge_ HB hg; replace HB := at_ HB hb; clear hb hbox hg) | ((with_reducible refine gate_dst (N := 12) rfl ?_); refine Kd.R_lit (Kd.int .i64) _ 3 ?hg (N := 12) ?hd (xs := ([] : List Int)) (inner := []) (ok := fun _ => True) (okp := fun _ => True) ?hr ?hp (fun _ hk => hk) trivial (Below.refl _ _) (Nat.le_refl _) (by simp) ?_; (case hd => rfl); (case hg => rfl); (case hr => first | (go_simp; done) | (go_simp; rfl)); (case hp => exact (Reps.none _ _)); intro v253 w7 ho8 hb hg_ hnew_; clear hg_ hnew_; (first | rw [← Ny252.out] at ho8 | (simp only [Int.reduceToNat] at ho8; rw [← Ny252.out] at ho8)); have HO254 := Aside0.mk (Kd.R_lower ho8 (bz_ HB)); replace BK251 := ab_ BK251 hb; replace HB := at_ HB hb; clear hb ho8))
 (try simp only [Act.put, List.setIfInBounds_toArray, List.set_cons_zero, List.set_cons_succ])
 go_cut [25] (fun v25 wc => ∃ (kq : Nat) (x25_4 : Bool), v25 = .bool x25_4 ∧ Aside0 (impl_Graph_hopsTo.j0 kq a1 a2 l3 y252 x25_4 a0_0 l0_1 = some r) ∧ Aside0 (kq ≤ k) ∧ Aside0 (Kd.R (Kd.int .i64) 3 wc w.heap.size (fun _ => True) v253 y252) ∧ Aside0 (wc.heap[gb251]? = some (.cells #[.int .i64 a0_0, (.slice A0_1 l0_1.length c0_1)] 30 (0, 0))) ∧ Aside0 (Below w.heap.size w wc))
 case first =>
  have H := HC5.out
  clear HC5
  by_cases c9 : a1 = a2
  ·rw [if_pos c9] at H
   have c9b0 : (a1 == a2) = true := beq_iff_eq.mpr c9
   have c9b1 : (a1 != a2) = false := bne_eq_false_iff_eq.mpr c9
   clear c9
   (first | rw [c9b0] | (simp only [i64_w, i32_w]; rw [c9b0]) | skip)
   have H' := Aside0.mk H
   clear H
   go_wp2
   repeat (go_quiet (fail); try go_wp2)
   go_meet
   case rel => exact ⟨_, (true), er_, H', ⟨by first | omega | exact Nat.le_refl _⟩, ⟨hd_ HO254⟩, ⟨bx_ BK251⟩, ⟨bw_⟩⟩
  rw [if_neg c9] at H
  have c9b0 : (a1 == a2) = false := beq_eq_false_iff_ne.mpr c9
  have c9b1 : (a1 != a2) = true := bne_iff_ne.mpr c9
  (first | rw [c9b0] | (simp only [i64_w, i32_w]; rw [c9b0]) | skip)
  obtain ⟨c10b0, H⟩ := iq_ H
  obtain ⟨c11b0, H⟩ := iq_ H
  obtain ⟨c12b0, H⟩ := iq_ H
  obtain ⟨c13b0, H⟩ := iq_ H
  have H' := Aside0.mk H
  clear H
  have p255 : 0 ≤ (a1 : Int) := oa_
  have q255 : a1 < (l3.length : Int) := oa_
  obtain ⟨ad255, A255_0, c255_0, e255, hx255_0, hl255_0, hi255_0⟩ := at_L3 HR3.out a1 p255 q255
  cases e255
  replace hx255_0 := (HB.out.cell (World.block_lt_of_cell? w _ hx255_0)).trans hx255_0
  have HR255_0 := Aside0.mk hi255_0
  have HC255_0 := Aside0.mk hl255_0
  clear hi255_0 hl255_0
  replace p255 := eq_true p255
  replace q255 := eq_true q255
  have p256 : 0 ≤ (a2 : Int) := oa_
  have q256 : a2 < ((rd_L3 l3 a1).length : Int) := oa_
  obtain ⟨ad256, e256, hx256_0⟩ := Kd.at_int HR255_0.out a2 p256 q256
  cases e256
  replace hx256_0 := (HB.out.cell (World.block_lt_of_cell? w _ hx256_0)).trans hx256_0
  replace p256 := eq_true p256
  replace q256 := eq_true q256
  go_wp2
  repeat (go_quiet (fail); try go_wp2)
  go_meet
  case rel => exact ⟨_, (((rd (rd_L3 l3 a1) a2) == 1000000)), er_, H', ⟨by first | omega | exact Nat.le_refl _⟩, ⟨hd_ HO254⟩, ⟨bx_ BK251⟩, ⟨bw_⟩⟩
 case rest =>
  clear HC5
  try clear c1
  try clear c2
  try clear p2
  try clear q2
  try clear hx2
  try clear c3
  try clear c5
  try clear c9
  try clear c9b0
  try clear c9b1
  try clear c10
  try clear c10b0
  try clear c11
  try clear c11b0
  try clear c12
  try clear c12b0
  try clear c13
  try clear c13b0
  try clear hx255_0
  try clear hx256_0
  try clear p255
  try clear p256
  try clear q255
  try clear q256
  obtain ⟨kq, x25_4, rfl, HA, HJ4, HO_9, BK251, HB⟩ := hcut
  cases kq with
  | zero => exact absurd HA.out (by simp [impl_Graph_hopsTo.j0])
  | succ kj4 =>
   have H := HA.out
   clear HA
   simp only [impl_Graph_hopsTo.j0] at H
   by_cases c14 : x25_4 = true
   ·subst c14
    rw [if_pos rfl] at H
    obtain rfl := Option.some.inj H
    go_wp2
    repeat (go_quiet (fail); try go_wp2)
    go_ret
    exact ⟨_, by first | rfl | (simp [errW_none, errW_some] <;> rfl) | (simp [*, errW_none, errW_some] <;> rfl), by (with_reducible repeat (first | apply Kd.R_alloc | apply Kd.R_drewN | apply Kd.R_drew)); exact HO_9.out, bw_⟩
   replace c14 := Bool.eq_false_iff.mpr c14
   subst c14
   rw [if_neg (show ¬ (false = true) by decide)] at H
   have H' := Aside0.mk H
   clear H
   have hcz15_0 := cz_ BK251 0 (.int .i64 a0_0)
   have hcz15_1 := cz_ BK251 1 (.slice A0_1 l0_1.length c0_1)
   have hfz15_0 := fz_ BK251 0
   have hfz15_1 := fz_ BK251 1
   go_wp2
   repeat (go_quiet (fail); try go_wp2)
   go_loopg [9, 30] kj4 (fun kq v9 v30 w' => ∃ (x9_2 : List Int) (x30_2 : Int), v30 = .int .i64 x30_2 ∧ Aside0 (impl_Graph_hopsTo.l0 kq a1 a2 l3 x9_2 l0_1 (l0_1.length : Int) x30_2 = some r) ∧ Aside0 (kq ≤ kj4) ∧ Aside0 (Kd.R (Kd.int .i64) 3 w' w.heap.size (fun _ => True) v9 x9_2) ∧ Aside0 (w'.heap[gb251]? = some (.cells #[.int .i64 a0_0, (.slice A0_1 l0_1.length c0_1)] 30 (0, 0))) ∧ Aside0 (Below w.heap.size w w'))
   case atStart => exact ⟨(y252), (0), er_, H', ⟨Nat.le_refl _⟩, ⟨hd_ HO_9⟩, ⟨bx_ BK251⟩, ⟨bw_⟩⟩
   case round =>
    clear H'
    try clear c1
    try clear c2
    try clear p2
    try clear q2
    try clear hx2
    try clear c3
    try clear c5
    try clear c9
    try clear c9b0
    try clear c9b1
    try clear c10
    try clear c10b0
    try clear c11
    try clear c11b0
    try clear c12
    try clear c12b0
    try clear c13
    try clear c13b0
    try clear c14
    try clear hcz15_0
    try clear hcz15_1
    try clear hfz15_0
    try clear hfz15_1
    try clear hx255_0
    try clear hx256_0
    try clear p2
    try clear p255
    try clear p256
    try clear q2
    try clear q255
    try clear q256
    obtain ⟨x9_2, x30_2, rfl, HA, HK2, HO_9, BK251, HB⟩ := hrel
    cases gk with
    | zero => exact absurd HA.out (by simp [impl_Graph_hopsTo.l0])
    | succ k2 =>
     have H := HA.out
     clear HA
     simp only [impl_Graph_hopsTo.l0] at H
     by_cases c16 : x30_2 < (l0_1.length : Int)
     rotate_left
     ·rw [if_neg c16] at H
      have c16b0 : decide (x30_2 < (l0_1.length : Int)) = false := decide_eq_false c16
      clear c16
      obtain rfl := Option.some.inj H
      go_wp2
      repeat (go_quiet (fail); try go_wp2)
      go_ret
      exact ⟨_, by first | rfl | (simp [errW_none, errW_some] <;> rfl) | (simp [*, errW_none, errW_some] <;> rfl), by (with_reducible repeat (first | apply Kd.R_alloc | apply Kd.R_drewN | apply Kd.R_drew)); exact HO_9.out, bw_⟩
     rw [if_pos c16] at H
     have c16b0 : decide (x30_2 < (l0_1.length : Int)) = true := decide_eq_true c16
     clear c16
     obtain ⟨c17b0, H⟩ := iq_ H
     obtain ⟨c18b0, H⟩ := iq_ H
     by_cases c19 : ((rd_T76 l0_1 x30_2).f0) = a1
     rotate_left
     ·rw [if_neg c19] at H
      have c19b0 : (((rd_T76 l0_1 x30_2).f0) == a1) = false := beq_eq_false_iff_ne.mpr c19
      have c19b1 : (((rd_T76 l0_1 x30_2).f0) != a1) = true := bne_iff_ne.mpr c19
      have H' := Aside0.mk H
      clear H
      have p257 : 0 ≤ (x30_2 : Int) := oa_
      have q257 : x30_2 < (l0_1.length : Int) := oa_
      obtain ⟨ad257, e257, hx257_0, hx257_1, hx257_2⟩ := at_T76 HR0_1.out x30_2 p257 q257
      cases e257
      replace hx257_0 := (HB.out.cell (World.block_lt_of_cell? w _ hx257_0)).trans hx257_0
      replace hx257_1 := (HB.out.cell (World.block_lt_of_cell? w _ hx257_1)).trans hx257_1
      replace hx257_2 := (HB.out.cell (World.block_lt_of_cell? w _ hx257_2)).trans hx257_2
      replace p257 := eq_true p257
      replace q257 := eq_true q257
      go_wp2_with ((with_reducible refine gate_dst (N := 11) rfl ?_); refine box_event ?hg (N := 11) ?hd (cs := #[.int .i64 0, .int .i64 0, .int .i64 0]) (t := 76) ?hr ?_; (case hd => rfl); (case hg => rfl); (case hr => first | (go_simp; done) | (go_simp; rfl)); intro gb258 hg w36 hbox hb; have BK258 := Aside0.mk hbox; have GW258 := ge_ HB hg; have GE258 := ge_ HB hg; have NB251_258 := nl_ BK251 hg; have NB258_251 := ng_ BK251 hg; replace HO_9 := rb_ HO_9 hb; replace HB := at_ HB hb; replace BK251 := ab_ BK251 hb; clear hb hbox hg; have hnb37 := NB258_251.out; have hnc37 := NB251_258.out; have hcz38_0 := cz_ BK258 0 (.int .i64 0); have hcz38_1 := cz_ BK258 1 (.int .i64 0); have hcz38_2 := cz_ BK258 2 (.int .i64 0); have hfz38_0 := fz_ BK258 0; have hfz38_1 := fz_ BK258 1; have hfz38_2 := fz_ BK258 2)
      repeat (go_quiet (fail); try go_wp2_with (fail))
      go_roundg k2
      case measure => have := HJ4.out; have := HK2.out; omega
      case rel => exact ⟨(x9_2), (wrap64 (x30_2 + 1)), er_, H', ⟨by have := HJ4.out; have := HK2.out; omega⟩, ⟨by (with_reducible repeat (first | apply Kd.R_alloc | apply Kd.R_drewN | apply Kd.R_drew)); exact Kd.R_mono (Kd.R_far (p := ⟨gb258, 2, none⟩) (Kd.R_far (p := ⟨gb258, 1, none⟩) (Kd.R_far (p := ⟨gb258, 0, none⟩) (Kd.R_types HO_9.out BK258.out (by decide)) (fun _ hk => hk.2) (.int .i64 ((rd_T76 l0_1 x30_2).f0))) (fun _ hk => hk.2) (.int .i64 ((rd_T76 l0_1 x30_2).f1))) (fun _ hk => hk.2) (.int .i64 ((rd_T76 l0_1 x30_2).f2))) (fun _ hk => trivial)⟩, ⟨bc_ BK251⟩, ⟨bw_⟩⟩
     rw [if_pos c19] at H
     have c19b0 : (((rd_T76 l0_1 x30_2).f0) == a1) = true := beq_iff_eq.mpr c19
     have c19b1 : (((rd_T76 l0_1 x30_2).f0) != a1) = false := bne_eq_false_iff_eq.mpr c19
     clear c19
     obtain ⟨c20b0, H⟩ := iq_ H
     obtain ⟨c21b0, H⟩ := iq_ H
     obtain ⟨c22b0, H⟩ := iq_ H
     obtain ⟨c23b0, H⟩ := iq_ H
     obtain ⟨c24b0, H⟩ := iq_ H
     obtain ⟨c25b0, H⟩ := iq_ H
     obtain ⟨c26b0, H⟩ := iq_ H
     by_cases c27 : (wrap64 (((rd_T76 l0_1 x30_2).f2) + (rd (rd_L3 l3 ((rd_T76 l0_1 x30_2).f1)) a2))) = (rd (rd_L3 l3 a1) a2)
     rotate_left
     ·rw [if_neg c27] at H
      have c27b0 : ((wrap64 (((rd_T76 l0_1 x30_2).f2) + (rd (rd_L3 l3 ((rd_T76 l0_1 x30_2).f1)) a2))) == (rd (rd_L3 l3 a1) a2)) = false := beq_eq_false_iff_ne.mpr c27
      have c27b1 : ((wrap64 (((rd_T76 l0_1 x30_2).f2) + (rd (rd_L3 l3 ((rd_T76 l0_1 x30_2).f1)) a2))) != (rd (rd_L3 l3 a1) a2)) = true := bne_iff_ne.mpr c27
      have H' := Aside0.mk H
      clear H
      have p257 : 0 ≤ (x30_2 : Int) := oa_
      have q257 : x30_2 < (l0_1.length : Int) := oa_
      obtain ⟨ad257, e257, hx257_0, hx257_1, hx257_2⟩ := at_T76 HR0_1.out x30_2 p257 q257
      cases e257
      replace hx257_0 := (HB.out.cell (World.block_lt_of_cell? w _ hx257_0)).trans hx257_0
      replace hx257_1 := (HB.out.cell (World.block_lt_of_cell? w _ hx257_1)).trans hx257_1
      replace hx257_2 := (HB.out.cell (World.block_lt_of_cell? w _ hx257_2)).trans hx257_2
      replace p257 := eq_true p257
      replace q257 := eq_true q257
      go_wp2_with ((with_reducible refine gate_dst (N := 11) rfl ?_); refine box_event ?hg (N := 11) ?hd (cs := #[.int .i64 0, .int .i64 0, .int .i64 0]) (t := 76) ?hr ?_; (case hd => rfl); (case hg => rfl); (case hr => first | (go_simp; done) | (go_simp; rfl)); intro gb258 hg w33 hbox hb; have BK258 := Aside0.mk hbox; have GW258 := ge_ HB hg; have GE258 := ge_ HB hg; have NB251_258 := nl_ BK251 hg; have NB258_251 := ng_ BK251 hg; replace HO_9 := rb_ HO_9 hb; replace HB := at_ HB hb; replace BK251 := ab_ BK251 hb; clear hb hbox hg; have hnb34 := NB258_251.out; have hnc34 := NB251_258.out; have hcz35_0 := cz_ BK258 0 (.int .i64 0); have hcz35_1 := cz_ BK258 1 (.int .i64 0); have hcz35_2 := cz_ BK258 2 (.int .i64 0); have hfz35_0 := fz_ BK258 0; have hfz35_1 := fz_ BK258 1; have hfz35_2 := fz_ BK258 2; have p259 : 0 ≤ (((rd_T76 l0_1 x30_2).f1) : Int) := oa_; have q259 : ((rd_T76 l0_1 x30_2).f1) < (l3.length : Int) := oa_; obtain ⟨ad259, A259_0, c259_0, e259, hx259_0, hl259_0, hi259_0⟩ := at_L3 HR3.out ((rd_T76 l0_1 x30_2).f1) p259 q259; cases e259; have hn259_0 : ad259.block ≠ gb258 := Nat.ne_of_lt (Nat.lt_of_lt_of_le (by have := World.block_lt_of_cell? _ _ hx259_0; first | rwa [add_block] at this | exact this) GW258.out); have hn259_1 : ad259.block ≠ gb258 := Nat.ne_of_lt (Nat.lt_of_lt_of_le (by have := World.block_lt_of_cell? _ _ hx259_0; first | rwa [add_block] at this | exact this) GW258.out); have hn259_2 : ad259.block ≠ gb258 := Nat.ne_of_lt (Nat.lt_of_lt_of_le (by have := World.block_lt_of_cell? _ _ hx259_0; first | rwa [add_block] at this | exact this) GW258.out); replace hx259_0 := (HB.out.cell (World.block_lt_of_cell? w _ hx259_0)).trans hx259_0; have HR259_0 := Aside0.mk hi259_0; have HC259_0 := Aside0.mk hl259_0; clear hi259_0 hl259_0; replace hx259_0 := (cell_far (p := ⟨gb258, 0, none⟩) (by first | (rw [add_block]; exact hn259_0) | (show (Addr.add _ _).block ≠ _; rw [add_block]; exact hn259_0) | exact hn259_0) (.int .i64 ((rd_T76 l0_1 x30_2).f0))).trans hx259_0; replace hx259_0 := (cell_far (p := ⟨gb258, 1, none⟩) (by first | (rw [add_block]; exact hn259_1) | (show (Addr.add _ _).block ≠ _; rw [add_block]; exact hn259_1) | exact hn259_1) (.int .i64 ((rd_T76 l0_1 x30_2).f1))).trans hx259_0; replace hx259_0 := (cell_far (p := ⟨gb258, 2, none⟩) (by first | (rw [add_block]; exact hn259_2) | (show (Addr.add _ _).block ≠ _; rw [add_block]; exact hn259_2) | exact hn259_2) (.int .i64 ((rd_T76 l0_1 x30_2).f2))).trans hx259_0; (try have hy259_0 := fun (n_ : Nat) => (show (((((w33.drewN n_).setCell ⟨gb258, 0, none⟩ (.int .i64 ((rd_T76 l0_1 x30_2).f0))).setCell ⟨gb258, 1, none⟩ (.int .i64 ((rd_T76 l0_1 x30_2).f1))).setCell ⟨gb258, 2, none⟩ (.int .i64 ((rd_T76 l0_1 x30_2).f2)))).cell? _ = some _ from hx259_0)); clear hn259_0; clear hn259_1; clear hn259_2; replace p259 := eq_true p259; replace q259 := eq_true q259; have p260 : 0 ≤ (a2 : Int) := oa_; have q260 : a2 < ((rd_L3 l3 ((rd_T76 l0_1 x30_2).f1)).length : Int) := oa_; obtain ⟨ad260, e260, hx260_0⟩ := Kd.at_int HR259_0.out a2 p260 q260; cases e260; have hn260_0 : ad260.block ≠ gb258 := Nat.ne_of_lt (Nat.lt_of_lt_of_le (by have := World.block_lt_of_cell? _ _ hx260_0; first | rwa [add_block] at this | exact this) GW258.out); have hn260_1 : ad260.block ≠ gb258 := Nat.ne_of_lt (Nat.lt_of_lt_of_le (by have := World.block_lt_of_cell? _ _ hx260_0; first | rwa [add_block] at this | exact this) GW258.out); have hn260_2 : ad260.block ≠ gb258 := Nat.ne_of_lt (Nat.lt_of_lt_of_le (by have := World.block_lt_of_cell? _ _ hx260_0; first | rwa [add_block] at this | exact this) GW258.out); replace hx260_0 := (HB.out.cell (World.block_lt_of_cell? w _ hx260_0)).trans hx260_0; replace hx260_0 := (cell_far (p := ⟨gb258, 0, none⟩) (by first | (rw [add_block]; exact hn260_0) | (show (Addr.add _ _).block ≠ _; rw [add_block]; exact hn260_0) | exact hn260_0) (.int .i64 ((rd_T76 l0_1 x30_2).f0))).trans hx260_0; replace hx260_0 := (cell_far (p := ⟨gb258, 1, none⟩) (by first | (rw [add_block]; exact hn260_1) | (show (Addr.add _ _).block ≠ _; rw [add_block]; exact hn260_1) | exact hn260_1) (.int .i64 ((rd_T76 l0_1 x30_2).f1))).trans hx260_0; replace hx260_0 := (cell_far (p := ⟨gb258, 2, none⟩) (by first | (rw [add_block]; exact hn260_2) | (show (Addr.add _ _).block ≠ _; rw [add_block]; exact hn260_2) | exact hn260_2) (.int .i64 ((rd_T76 l0_1 x30_2).f2))).trans hx260_0; (try have hy260_0 := fun (n_ : Nat) => (show (((((w33.drewN n_).setCell ⟨gb258, 0, none⟩ (.int .i64 ((rd_T76 l0_1 x30_2).f0))).setCell ⟨gb258, 1, none⟩ (.int .i64 ((rd_T76 l0_1 x30_2).f1))).setCell ⟨gb258, 2, none⟩ (.int .i64 ((rd_T76 l0_1 x30_2).f2)))).cell? _ = some _ from hx260_0)); clear hn260_0; clear hn260_1; clear hn260_2; replace p260 := eq_true p260; replace q260 := eq_true q260; have p261 : 0 ≤ (a1 : Int) := oa_; have q261 : a1 < (l3.length : Int) := oa_; obtain ⟨ad261, A261_0, c261_0, e261, hx261_0, hl261_0, hi261_0⟩ := at_L3 HR3.out a1 p261 q261; obtain rfl : ad259 = ad261 := (by injection e261); have hn261_0 : ad259.block ≠ gb258 := Nat.ne_of_lt (Nat.lt_of_lt_of_le (by have := World.block_lt_of_cell? _ _ hx261_0; first | rwa [add_block] at this | exact this) GW258.out); have hn261_1 : ad259.block ≠ gb258 := Nat.ne_of_lt (Nat.lt_of_lt_of_le (by have := World.block_lt_of_cell? _ _ hx261_0; first | rwa [add_block] at this | exact this) GW258.out); have hn261_2 : ad259.block ≠ gb258 := Nat.ne_of_lt (Nat.lt_of_lt_of_le (by have := World.block_lt_of_cell? _ _ hx261_0; first | rwa [add_block] at this | exact this) GW258.out); replace hx261_0 := (HB.out.cell (World.block_lt_of_cell? w _ hx261_0)).trans hx261_0; have HR261_0 := Aside0.mk hi261_0; have HC261_0 := Aside0.mk hl261_0; clear hi261_0 hl261_0; replace hx261_0 := (cell_far (p := ⟨gb258, 0, none⟩) (by first | (rw [add_block]; exact hn261_0) | (show (Addr.add _ _).block ≠ _; rw [add_block]; exact hn261_0) | exact hn261_0) (.int .i64 ((rd_T76 l0_1 x30_2).f0))).trans hx261_0; replace hx261_0 := (cell_far (p := ⟨gb258, 1, none⟩) (by first | (rw [add_block]; exact hn261_1) | (show (Addr.add _ _).block ≠ _; rw [add_block]; exact hn261_1) | exact hn261_1) (.int .i64 ((rd_T76 l0_1 x30_2).f1))).trans hx261_0; replace hx261_0 := (cell_far (p := ⟨gb258, 2, none⟩) (by first | (rw [add_block]; exact hn261_2) | (show (Addr.add _ _).block ≠ _; rw [add_block]; exact hn261_2) | exact hn261_2) (.int .i64 ((rd_T76 l0_1 x30_2).f2))).trans hx261_0; (try have hy261_0 := fun (n_ : Nat) => (show (((((w33.drewN n_).setCell ⟨gb258, 0, none⟩ (.int .i64 ((rd_T76 l0_1 x30_2).f0))).setCell ⟨gb258, 1, none⟩ (.int .i64 ((rd_T76 l0_1 x30_2).f1))).setCell ⟨gb258, 2, none⟩ (.int .i64 ((rd_T76 l0_1 x30_2).f2)))).cell? _ = some _ from hx261_0)); clear hn261_0; clear hn261_1; clear hn261_2; replace p261 := eq_true p261; replace q261 := eq_true q261; have p262 : 0 ≤ (a2 : Int) := oa_; have q262 : a2 < ((rd_L3 l3 a1).length : Int) := oa_; obtain ⟨ad262, e262, hx262_0⟩ := Kd.at_int HR261_0.out a2 p262 q262; cases e262; have hn262_0 : ad262.block ≠ gb258 := Nat.ne_of_lt (Nat.lt_of_lt_of_le (by have := World.block_lt_of_cell? _ _ hx262_0; first | rwa [add_block] at this | exact this) GW258.out); have hn262_1 : ad262.block ≠ gb258 := Nat.ne_of_lt (Nat.lt_of_lt_of_le (by have := World.block_lt_of_cell? _ _ hx262_0; first | rwa [add_block] at this | exact this) GW258.out); have hn262_2 : ad262.block ≠ gb258 := Nat.ne_of_lt (Nat.lt_of_lt_of_le (by have := World.block_lt_of_cell? _ _ hx262_0; first | rwa [add_block] at this | exact this) GW258.out); replace hx262_0 := (HB.out.cell (World.block_lt_of_cell? w _ hx262_0)).trans hx262_0; replace hx262_0 := (cell_far (p := ⟨gb258, 0, none⟩) (by first | (rw [add_block]; exact hn262_0) | (show (Addr.add _ _).block ≠ _; rw [add_block]; exact hn262_0) | exact hn262_0) (.int .i64 ((rd_T76 l0_1 x30_2).f0))).trans hx262_0; replace hx262_0 := (cell_far (p := ⟨gb258, 1, none⟩) (by first | (rw [add_block]; exact hn262_1) | (show (Addr.add _ _).block ≠ _; rw [add_block]; exact hn262_1) | exact hn262_1) (.int .i64 ((rd_T76 l0_1 x30_2).f1))).trans hx262_0; replace hx262_0 := (cell_far (p := ⟨gb258, 2, none⟩) (by first | (rw [add_block]; exact hn262_2) | (show (Addr.add _ _).block ≠ _; rw [add_block]; exact hn262_2) | exact hn262_2) (.int .i64 ((rd_T76 l0_1 x30_2).f2))).trans hx262_0; (try have hy262_0 := fun (n_ : Nat) => (show (((((w33.drewN n_).setCell ⟨gb258, 0, none⟩ (.int .i64 ((rd_T76 l0_1 x30_2).f0))).setCell ⟨gb258, 1, none⟩ (.int .i64 ((rd_T76 l0_1 x30_2).f1))).setCell ⟨gb258, 2, none⟩ (.int .i64 ((rd_T76 l0_1 x30_2).f2)))).cell? _ = some _ from hx262_0)); clear hn262_0; clear hn262_1; clear hn262_2; replace p262 := eq_true p262; replace q262 := eq_true q262)
      repeat (go_quiet (fail); try go_wp2_with (fail))
      go_roundg k2
      case measure => have := HJ4.out; have := HK2.out; omega
      case rel => exact ⟨(x9_2), (wrap64 (x30_2 + 1)), er_, H', ⟨by have := HJ4.out; have := HK2.out; omega⟩, ⟨by (with_reducible repeat (first | apply Kd.R_alloc | apply Kd.R_drewN | apply Kd.R_drew)); exact Kd.R_mono (Kd.R_far (p := ⟨gb258, 2, none⟩) (Kd.R_far (p := ⟨gb258, 1, none⟩) (Kd.R_far (p := ⟨gb258, 0, none⟩) (Kd.R_types HO_9.out BK258.out (by decide)) (fun _ hk => hk.2) (.int .i64 ((rd_T76 l0_1 x30_2).f0))) (fun _ hk => hk.2) (.int .i64 ((rd_T76 l0_1 x30_2).f1))) (fun _ hk => hk.2) (.int .i64 ((rd_T76 l0_1 x30_2).f2))) (fun _ hk => trivial)⟩, ⟨bc_ BK251⟩, ⟨bw_⟩⟩
     rw [if_pos c27] at H
     have c27b0 : ((wrap64 (((rd_T76 l0_1 x30_2).f2) + (rd (rd_L3 l3 ((rd_T76 l0_1 x30_2).f1)) a2))) == (rd (rd_L3 l3 a1) a2)) = true := beq_iff_eq.mpr c27
     have c27b1 : ((wrap64 (((rd_T76 l0_1 x30_2).f2) + (rd (rd_L3 l3 ((rd_T76 l0_1 x30_2).f1)) a2))) != (rd (rd_L3 l3 a1) a2)) = false := bne_eq_false_iff_eq.mpr c27
     clear c27
     by_cases c28 : x9_2.length < 17592186044416
     rotate_left
     ·rw [if_neg c28] at H
      exact absurd H (by simp)
     rw [if_pos c28] at H
     have LMc28 := Aside0.mk c28
     clear c28
     obtain ⟨y263, hy263⟩ : ∃ y_ : List Int, y_ = (x9_2 ++ [(rd_T76 l0_1 x30_2).f1]) := ⟨_, rfl⟩
     replace H : (impl_Graph_hopsTo.l0 k2 a1 a2 l3 y263 l0_1 (l0_1.length : Int) (wrap64 (x30_2 + 1))) = some r := by first | (rw [hy263]; with_reducible exact H) | (have H2_ := (Option.bind_some _ _).symm.trans H; rw [hy263]; with_reducible exact H2_) | (have H2_ := (Option.bind_some _ _).symm.trans H; with_reducible exact H2_) | with_reducible exact H | (rw [hy263]; exact H) | exact H
     have Ny263 := Aside0.mk hy263
     clear hy263
     have H' := Aside0.mk H
     clear H
     have p257 : 0 ≤ (x30_2 : Int) := oa_
     have q257 : x30_2 < (l0_1.length : Int) := oa_
     obtain ⟨ad257, e257, hx257_0, hx257_1, hx257_2⟩ := at_T76 HR0_1.out x30_2 p257 q257
     cases e257
     replace hx257_0 := (HB.out.cell (World.block_lt_of_cell? w _ hx257_0)).trans hx257_0
     replace hx257_1 := (HB.out.cell (World.block_lt_of_cell? w _ hx257_1)).trans hx257_1
     replace hx257_2 := (HB.out.cell (World.block_lt_of_cell? w _ hx257_2)).trans hx257_2
     replace p257 := eq_true p257
     replace q257 := eq_true q257
     go_wp2_with ((with_reducible refine gate_dst (N := 11) rfl ?_); refine box_event ?hg (N := 11) ?hd (cs := #[.int .i64 0, .int .i64 0, .int .i64 0]) (t := 76) ?hr ?_; (case hd => rfl); (case hg => rfl); (case hr => first | (go_simp; done) | (go_simp; rfl)); intro gb258 hg w29 hbox hb; have BK258 := Aside0.mk hbox; have GW258 := ge_ HB hg; have GE258 := ge_ HB hg; have NB251_258 := nl_ BK251 hg; have NB258_251 := ng_ BK251 hg; replace HO_9 := rb_ HO_9 hb; replace HB := at_ HB hb; replace BK251 := ab_ BK251 hb; clear hb hbox hg; have hnb30 := NB258_251.out; have hnc30 := NB251_258.out; have hcz31_0 := cz_ BK258 0 (.int .i64 0); have hcz31_1 := cz_ BK258 1 (.int .i64 0); have hcz31_2 := cz_ BK258 2 (.int .i64 0); have hfz31_0 := fz_ BK258 0; have hfz31_1 := fz_ BK258 1; have hfz31_2 := fz_ BK258 2; have p259 : 0 ≤ (((rd_T76 l0_1 x30_2).f1) : Int) := oa_; have q259 : ((rd_T76 l0_1 x30_2).f1) < (l3.length : Int) := oa_; obtain ⟨ad259, A259_0, c259_0, e259, hx259_0, hl259_0, hi259_0⟩ := at_L3 HR3.out ((rd_T76 l0_1 x30_2).f1) p259 q259; cases e259; have hn259_0 : ad259.block ≠ gb258 := Nat.ne_of_lt (Nat.lt_of_lt_of_le (by have := World.block_lt_of_cell? _ _ hx259_0; first | rwa [add_block] at this | exact this) GW258.out); have hn259_1 : ad259.block ≠ gb258 := Nat.ne_of_lt (Nat.lt_of_lt_of_le (by have := World.block_lt_of_cell? _ _ hx259_0; first | rwa [add_block] at this | exact this) GW258.out); have hn259_2 : ad259.block ≠ gb258 := Nat.ne_of_lt (Nat.lt_of_lt_of_le (by have := World.block_lt_of_cell? _ _ hx259_0; first | rwa [add_block] at this | exact this) GW258.out); replace hx259_0 := (HB.out.cell (World.block_lt_of_cell? w _ hx259_0)).trans hx259_0; have HR259_0 := Aside0.mk hi259_0; have HC259_0 := Aside0.mk hl259_0; clear hi259_0 hl259_0; replace hx259_0 := (cell_far (p := ⟨gb258, 0, none⟩) (by first | (rw [add_block]; exact hn259_0) | (show (Addr.add _ _).block ≠ _; rw [add_block]; exact hn259_0) | exact hn259_0) (.int .i64 ((rd_T76 l0_1 x30_2).f0))).trans hx259_0; replace hx259_0 := (cell_far (p := ⟨gb258, 1, none⟩) (by first | (rw [add_block]; exact hn259_1) | (show (Addr.add _ _).block ≠ _; rw [add_block]; exact hn259_1) | exact hn259_1) (.int .i64 ((rd_T76 l0_1 x30_2).f1))).trans hx259_0; replace hx259_0 := (cell_far (p := ⟨gb258, 2, none⟩) (by first | (rw [add_block]; exact hn259_2) | (show (Addr.add _ _).block ≠ _; rw [add_block]; exact hn259_2) | exact hn259_2) (.int .i64 ((rd_T76 l0_1 x30_2).f2))).trans hx259_0; (try have hy259_0 := fun (n_ : Nat) => (show (((((w29.drewN n_).setCell ⟨gb258, 0, none⟩ (.int .i64 ((rd_T76 l0_1 x30_2).f0))).setCell ⟨gb258, 1, none⟩ (.int .i64 ((rd_T76 l0_1 x30_2).f1))).setCell ⟨gb258, 2, none⟩ (.int .i64 ((rd_T76 l0_1 x30_2).f2)))).cell? _ = some _ from hx259_0)); clear hn259_0; clear hn259_1; clear hn259_2; replace p259 := eq_true p259; replace q259 := eq_true q259; have p260 : 0 ≤ (a2 : Int) := oa_; have q260 : a2 < ((rd_L3 l3 ((rd_T76 l0_1 x30_2).f1)).length : Int) := oa_; obtain ⟨ad260, e260, hx260_0⟩ := Kd.at_int HR259_0.out a2 p260 q260; cases e260; have hn260_0 : ad260.block ≠ gb258 := Nat.ne_of_lt (Nat.lt_of_lt_of_le (by have := World.block_lt_of_cell? _ _ hx260_0; first | rwa [add_block] at this | exact this) GW258.out); have hn260_1 : ad260.block ≠ gb258 := Nat.ne_of_lt (Nat.lt_of_lt_of_le (by have := World.block_lt_of_cell? _ _ hx260_0; first | rwa [add_block] at this | exact this) GW258.out); have hn260_2 : ad260.block ≠ gb258 := Nat.ne_of_lt (Nat.lt_of_lt_of_le (by have := World.block_lt_of_cell? _ _ hx260_0; first | rwa [add_block] at this | exact this) GW258.out); replace hx260_0 := (HB.out.cell (World.block_lt_of_cell? w _ hx260_0)).trans hx260_0; replace hx260_0 := (cell_far (p := ⟨gb258, 0, none⟩) (by first | (rw [add_block]; exact hn260_0) | (show (Addr.add _ _).block ≠ _; rw [add_block]; exact hn260_0) | exact hn260_0) (.int .i64 ((rd_T76 l0_1 x30_2).f0))).trans hx260_0; replace hx260_0 := (cell_far (p := ⟨gb258, 1, none⟩) (by first | (rw [add_block]; exact hn260_1) | (show (Addr.add _ _).block ≠ _; rw [add_block]; exact hn260_1) | exact hn260_1) (.int .i64 ((rd_T76 l0_1 x30_2).f1))).trans hx260_0; replace hx260_0 := (cell_far (p := ⟨gb258, 2, none⟩) (by first | (rw [add_block]; exact hn260_2) | (show (Addr.add _ _).block ≠ _; rw [add_block]; exact hn260_2) | exact hn260_2) (.int .i64 ((rd_T76 l0_1 x30_2).f2))).trans hx260_0; (try have hy260_0 := fun (n_ : Nat) => (show (((((w29.drewN n_).setCell ⟨gb258, 0, none⟩ (.int .i64 ((rd_T76 l0_1 x30_2).f0))).setCell ⟨gb258, 1, none⟩ (.int .i64 ((rd_T76 l0_1 x30_2).f1))).setCell ⟨gb258, 2, none⟩ (.int .i64 ((rd_T76 l0_1 x30_2).f2)))).cell? _ = some _ from hx260_0)); clear hn260_0; clear hn260_1; clear hn260_2; replace p260 := eq_true p260; replace q260 := eq_true q260; have p261 : 0 ≤ (a1 : Int) := oa_; have q261 : a1 < (l3.length : Int) := oa_; obtain ⟨ad261, A261_0, c261_0, e261, hx261_0, hl261_0, hi261_0⟩ := at_L3 HR3.out a1 p261 q261; obtain rfl : ad259 = ad261 := (by injection e261); have hn261_0 : ad259.block ≠ gb258 := Nat.ne_of_lt (Nat.lt_of_lt_of_le (by have := World.block_lt_of_cell? _ _ hx261_0; first | rwa [add_block] at this | exact this) GW258.out); have hn261_1 : ad259.block ≠ gb258 := Nat.ne_of_lt (Nat.lt_of_lt_of_le (by have := World.block_lt_of_cell? _ _ hx261_0; first | rwa [add_block] at this | exact this) GW258.out); have hn261_2 : ad259.block ≠ gb258 := Nat.ne_of_lt (Nat.lt_of_lt_of_le (by have := World.block_lt_of_cell? _ _ hx261_0; first | rwa [add_block] at this | exact this) GW258.out); replace hx261_0 := (HB.out.cell (World.block_lt_of_cell? w _ hx261_0)).trans hx261_0; have HR261_0 := Aside0.mk hi261_0; have HC261_0 := Aside0.mk hl261_0; clear hi261_0 hl261_0; replace hx261_0 := (cell_far (p := ⟨gb258, 0, none⟩) (by first | (rw [add_block]; exact hn261_0) | (show (Addr.add _ _).block ≠ _; rw [add_block]; exact hn261_0) | exact hn261_0) (.int .i64 ((rd_T76 l0_1 x30_2).f0))).trans hx261_0; replace hx261_0 := (cell_far (p := ⟨gb258, 1, none⟩) (by first | (rw [add_block]; exact hn261_1) | (show (Addr.add _ _).block ≠ _; rw [add_block]; exact hn261_1) | exact hn261_1) (.int .i64 ((rd_T76 l0_1 x30_2).f1))).trans hx261_0; replace hx261_0 := (cell_far (p := ⟨gb258, 2, none⟩) (by first | (rw [add_block]; exact hn261_2) | (show (Addr.add _ _).block ≠ _; rw [add_block]; exact hn261_2) | exact hn261_2) (.int .i64 ((rd_T76 l0_1 x30_2).f2))).trans hx261_0; (try have hy261_0 := fun (n_ : Nat) => (show (((((w29.drewN n_).setCell ⟨gb258, 0, none⟩ (.int .i64 ((rd_T76 l0_1 x30_2).f0))).setCell ⟨gb258, 1, none⟩ (.int .i64 ((rd_T76 l0_1 x30_2).f1))).setCell ⟨gb258, 2, none⟩ (.int .i64 ((rd_T76 l0_1 x30_2).f2)))).cell? _ = some _ from hx261_0)); clear hn261_0; clear hn261_1; clear hn261_2; replace p261 := eq_true p261; replace q261 := eq_true q261; have p262 : 0 ≤ (a2 : Int) := oa_; have q262 : a2 < ((rd_L3 l3 a1).length : Int) := oa_; obtain ⟨ad262, e262, hx262_0⟩ := Kd.at_int HR261_0.out a2 p262 q262; cases e262; have hn262_0 : ad262.block ≠ gb258 := Nat.ne_of_lt (Nat.lt_of_lt_of_le (by have := World.block_lt_of_cell? _ _ hx262_0; first | rwa [add_block] at this | exact this) GW258.out); have hn262_1 : ad262.block ≠ gb258 := Nat.ne_of_lt (Nat.lt_of_lt_of_le (by have := World.block_lt_of_cell? _ _ hx262_0; first | rwa [add_block] at this | exact this) GW258.out); have hn262_2 : ad262.block ≠ gb258 := Nat.ne_of_lt (Nat.lt_of_lt_of_le (by have := World.block_lt_of_cell? _ _ hx262_0; first | rwa [add_block] at this | exact this) GW258.out); replace hx262_0 := (HB.out.cell (World.block_lt_of_cell? w _ hx262_0)).trans hx262_0; replace hx262_0 := (cell_far (p := ⟨gb258, 0, none⟩) (by first | (rw [add_block]; exact hn262_0) | (show (Addr.add _ _).block ≠ _; rw [add_block]; exact hn262_0) | exact hn262_0) (.int .i64 ((rd_T76 l0_1 x30_2).f0))).trans hx262_0; replace hx262_0 := (cell_far (p := ⟨gb258, 1, none⟩) (by first | (rw [add_block]; exact hn262_1) | (show (Addr.add _ _).block ≠ _; rw [add_block]; exact hn262_1) | exact hn262_1) (.int .i64 ((rd_T76 l0_1 x30_2).f1))).trans hx262_0; replace hx262_0 := (cell_far (p := ⟨gb258, 2, none⟩) (by first | (rw [add_block]; exact hn262_2) | (show (Addr.add _ _).block ≠ _; rw [add_block]; exact hn262_2) | exact hn262_2) (.int .i64 ((rd_T76 l0_1 x30_2).f2))).trans hx262_0; (try have hy262_0 := fun (n_ : Nat) => (show (((((w29.drewN n_).setCell ⟨gb258, 0, none⟩ (.int .i64 ((rd_T76 l0_1 x30_2).f0))).setCell ⟨gb258, 1, none⟩ (.int .i64 ((rd_T76 l0_1 x30_2).f1))).setCell ⟨gb258, 2, none⟩ (.int .i64 ((rd_T76 l0_1 x30_2).f2)))).cell? _ = some _ from hx262_0)); clear hn262_0; clear hn262_1; clear hn262_2; replace p262 := eq_true p262; replace q262 := eq_true q262)
     repeat (go_quiet (fail); try go_wp2_with ((with_reducible refine gate_builtin (b := .append) (xs := #[.tmp 59, .tmp 62]) rfl ?_); at_builtin; refine Kd.R_append (Kd.int .i64) (w0 := w) w.heap.size rfl (.tmp 59) (.tmp 62) 26 3 (.int .i64 0) 8 rfl Try.underlying26 info3 rfl (by decide) (by omega) u9 x9_2 ((rd_T76 l0_1 x30_2).f1) [.int .i64 ((rd_T76 l0_1 x30_2).f1)] (fun _ => True) (fun _ => False) rfl (by first | (go_simp; done) | (go_simp; rfl)) ?aP (fun _ hk => hk.elim) ?aF ?aO ?aB ?aS ?aL ?_; (case aP => exact rfl); (case aB => exact (bw_)); (case aF => exact (fun _ _ => trivial)); (case aO => exact (by (with_reducible repeat (first | apply Kd.R_alloc | apply Kd.R_drewN | apply Kd.R_drew)); exact Kd.R_mono (Kd.R_far (p := ⟨gb258, 2, none⟩) (Kd.R_far (p := ⟨gb258, 1, none⟩) (Kd.R_far (p := ⟨gb258, 0, none⟩) (Kd.R_types HO_9.out BK258.out (by decide)) (fun _ hk => hk.2) (.int .i64 ((rd_T76 l0_1 x30_2).f0))) (fun _ hk => hk.2) (.int .i64 ((rd_T76 l0_1 x30_2).f1))) (fun _ hk => hk.2) (.int .i64 ((rd_T76 l0_1 x30_2).f2))) (fun _ hk => trivial))); (case aS => exact (bz_ HB)); (case aL => have := LMc28.out; omega); intro v264 w32 ho hb hg hat; rw [← Ny263.out] at ho; have HO265 := Aside0.mk ho; replace BK251 := Aside0.mk (blk_grown (g := gb251) (o := .cells #[.int .i64 a0_0, .slice (some ad257) l0_1.length c0_1] 30 (0, 0)) (bc_ BK251) hg (Kd.R_ne HO_9.out BK251.out (by decide))); replace BK258 := Aside0.mk (blk_grown (g := gb258) (o := .cells #[.int .i64 ((rd_T76 l0_1 x30_2).f0), .int .i64 ((rd_T76 l0_1 x30_2).f1), .int .i64 ((rd_T76 l0_1 x30_2).f2)] 76 (0, 0)) (by refine bd_ ?_; refine blk_put (cs := #[.int .i64 ((rd_T76 l0_1 x30_2).f0), .int .i64 ((rd_T76 l0_1 x30_2).f1), .int .i64 0]) ?_ 2 _ rfl; refine bd_ ?_; refine blk_put (cs := #[.int .i64 ((rd_T76 l0_1 x30_2).f0), .int .i64 0, .int .i64 0]) ?_ 1 _ rfl; refine bd_ ?_; refine blk_put (cs := #[.int .i64 0, .int .i64 0, .int .i64 0]) ?_ 0 _ rfl; refine bd_ ?_; exact BK258.out) hg (Kd.R_ne HO_9.out BK258.out (by decide))); replace HB := Aside0.mk (hb); clear HO_9; clear ho hb hg hat))
     go_roundg k2
     case measure => have := HJ4.out; have := HK2.out; omega
     case rel => exact ⟨(y263), (wrap64 (x30_2 + 1)), er_, H', ⟨by have := HJ4.out; have := HK2.out; omega⟩, ⟨hd_ HO265⟩, ⟨bx_ BK251⟩, ⟨bw_⟩⟩

end Go.Proofs.Ythmahcohcphljaa.QFnShares
