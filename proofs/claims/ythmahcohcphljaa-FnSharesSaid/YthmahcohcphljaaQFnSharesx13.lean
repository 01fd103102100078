/- Contracts of functions that the law reaches: what each call returns and what it leaves in memory. Made by this session over the print of the kit. -/
import Derived.Test.YthmahcohcphljaaQFnSharesx0
import Derived.Test.YthmahcohcphljaaQFnSharesx12
namespace Go.Proofs.Ythmahcohcphljaa.QFnShares
open Go.RowKit Go.Proofs.YthmahcohcphljaaS.PrintWords Go.Proofs.YthmahcohcphljaaS.PrintLast Go.Proofs.YthmahcohcphljaaS.PrintMore
attribute [local go_sem] max2_int min2_int max_two min_two max_three min_three max_four min_four   -- for this text's walks alone
set_option linter.unusedVariables false
set_option linter.unusedSimpArgs false

/-! ### spec_l03Put: function 98 -/
mutual
def spec_l03Put.l0 : Nat → List (S76) → List (S76) → Bool → Int → Int → Int → Int → Option ((List (S76)))
 | 0, _, _, _, _, _, _, _ => none
 | k + 1, x0, x5, x6, x7, x328000, x328001, x328002 => if x7 < (x0.length : Int) then (if 0 ≤ x7 then (if x6 = true then (spec_l03Put.j1 k x0 x5 x6 x7 false x328000 x328001 x328002 ((rd_T76 x0 x7).f0) ((rd_T76 x0 x7).f1) ((rd_T76 x0 x7).f2)) else (if x328000 < ((rd_T76 x0 x7).f0) then (spec_l03Put.j1 k x0 x5 x6 x7 true x328000 x328001 x328002 ((rd_T76 x0 x7).f0) ((rd_T76 x0 x7).f1) ((rd_T76 x0 x7).f2)) else (if x328000 = ((rd_T76 x0 x7).f0) then (spec_l03Put.j1 k x0 x5 x6 x7 (decide (x328001 ≤ ((rd_T76 x0 x7).f1))) x328000 x328001 x328002 ((rd_T76 x0 x7).f0) ((rd_T76 x0 x7).f1) ((rd_T76 x0 x7).f2)) else (spec_l03Put.j1 k x0 x5 x6 x7 false x328000 x328001 x328002 ((rd_T76 x0 x7).f0) ((rd_T76 x0 x7).f1) ((rd_T76 x0 x7).f2))))) else (none)) else (if x6 = true then (some x5) else (if x5.length < 5864062014805 then (some (x5 ++ [(⟨x328000, x328001, x328002⟩ : S76)])) else (none)))
def spec_l03Put.j1 : Nat → List (S76) → List (S76) → Bool → Int → Bool → Int → Int → Int → Int → Int → Int → Option ((List (S76)))
 | 0, _, _, _, _, _, _, _, _, _, _, _ => none
 | k + 1, x0, x5, x6, x7, x42, x328000, x328001, x328002, x336000, x336001, x336002 => if x42 = true then (if x5.length < 5864062014805 then ((some (x5 ++ [(⟨x328000, x328001, x328002⟩ : S76)] : List (S76))).bind fun y336 => (if x336000 = x328000 then (if x336001 = x328001 then (spec_l03Put.l0 k x0 y336 true (wrap64 (x7 + 1)) x328000 x328001 x328002) else (if y336.length < 5864062014805 then (spec_l03Put.l0 k x0 (y336 ++ [(⟨x336000, x336001, x336002⟩ : S76)]) true (wrap64 (x7 + 1)) x328000 x328001 x328002) else (none))) else (if y336.length < 5864062014805 then (spec_l03Put.l0 k x0 (y336 ++ [(⟨x336000, x336001, x336002⟩ : S76)]) true (wrap64 (x7 + 1)) x328000 x328001 x328002) else (none)))) else (none)) else (if x336000 = x328000 then (if x336001 = x328001 then (spec_l03Put.l0 k x0 x5 x6 (wrap64 (x7 + 1)) x328000 x328001 x328002) else (if x5.length < 5864062014805 then (spec_l03Put.l0 k x0 (x5 ++ [(⟨x336000, x336001, x336002⟩ : S76)]) x6 (wrap64 (x7 + 1)) x328000 x328001 x328002) else (none))) else (if x5.length < 5864062014805 then (spec_l03Put.l0 k x0 (x5 ++ [(⟨x336000, x336001, x336002⟩ : S76)]) x6 (wrap64 (x7 + 1)) x328000 x328001 x328002) else (none)))
end
def spec_l03Put.f (k : Nat) (l0 : List (S76)) (a1_0 : Int) (a1_1 : Int) (a1_2 : Int) : Option ((List (S76))) := spec_l03Put.l0 k l0 (([] : List (S76))) false 0 a1_0 a1_1 a1_2
theorem spec_l03Put.mono_l : ∀ k, (∀ y0 y1 y2 y3 y4 y5 y6, LeO (spec_l03Put.l0 k y0 y1 y2 y3 y4 y5 y6) (spec_l03Put.l0 (k + 1) y0 y1 y2 y3 y4 y5 y6)) ∧ (∀ y0 y1 y2 y3 y4 y5 y6 y7 y8 y9 y10, LeO (spec_l03Put.j1 k y0 y1 y2 y3 y4 y5 y6 y7 y8 y9 y10) (spec_l03Put.j1 (k + 1) y0 y1 y2 y3 y4 y5 y6 y7 y8 y9 y10))
 | 0 => ⟨fun _ _ _ _ _ _ _ r h => by simp [spec_l03Put.l0] at h, fun _ _ _ _ _ _ _ _ _ _ _ r h => by simp [spec_l03Put.j1] at h⟩
 | k + 1 => by
  obtain ⟨ih0, ih1⟩ := spec_l03Put.mono_l k
  refine ⟨?_, ?_⟩
  ·intro y0 y1 y2 y3 y4 y5 y6
   unfold spec_l03Put.l0
   repeat' first | (with_reducible first | exact ih0 _ _ _ _ _ _ _ | exact ih1 _ _ _ _ _ _ _ _ _ _ _ | exact LeO.refl _ | exact LeO.none _ | refine LeO.ite ?_ ?_ | refine LeO.bind ?_ (fun _ => ?_)) | exact ih0 _ _ _ _ _ _ _ | exact ih1 _ _ _ _ _ _ _ _ _ _ _ | exact LeO.none _ | refine LeO.ite ?_ ?_ | refine LeO.bind ?_ (fun _ => ?_)
  ·intro y0 y1 y2 y3 y4 y5 y6 y7 y8 y9 y10
   unfold spec_l03Put.j1
   repeat' first | (with_reducible first | exact ih0 _ _ _ _ _ _ _ | exact ih1 _ _ _ _ _ _ _ _ _ _ _ | exact LeO.refl _ | exact LeO.none _ | refine LeO.ite ?_ ?_ | refine LeO.bind ?_ (fun _ => ?_)) | exact ih0 _ _ _ _ _ _ _ | exact ih1 _ _ _ _ _ _ _ _ _ _ _ | exact LeO.none _ | refine LeO.ite ?_ ?_ | refine LeO.bind ?_ (fun _ => ?_)
theorem spec_l03Put.mono : ∀ a0 a1 a2 a3 k, LeO (spec_l03Put.f k a0 a1 a2 a3) (spec_l03Put.f (k + 1) a0 a1 a2 a3) := by
 intro a0 a1 a2 a3 k
 obtain ⟨ih0, ih1⟩ := spec_l03Put.mono_l k
 unfold spec_l03Put.f
 repeat' first | (with_reducible first | exact ih0 _ _ _ _ _ _ _ | exact ih1 _ _ _ _ _ _ _ _ _ _ _ | exact LeO.refl _ | exact LeO.none _ | refine LeO.ite ?_ ?_ | refine LeO.bind ?_ (fun _ => ?_)) | exact ih0 _ _ _ _ _ _ _ | exact ih1 _ _ _ _ _ _ _ _ _ _ _ | exact LeO.none _ | refine LeO.ite ?_ ?_ | refine LeO.bind ?_ (fun _ => ?_)
set_option maxHeartbeats 8000000 in
set_option maxRecDepth 100000 in
theorem spec_l03Put.calls (k : Nat) (A0 : Option Addr) (c0 : Nat) (l0 : List (S76)) (a1_0 : Int) (a1_1 : Int) (a1_2 : Int) (r : List (S76)) (w : World) (hr0 : Kd.C k76 w A0 l0.length l0) (hc0 : l0.length ≤ c0) (h : spec_l03Put.f k l0 a1_0 a1_1 a1_2 = some r) :
  Calls Try.prog 98 #[.slice A0 l0.length c0, .agg #[.int .i64 a1_0, .int .i64 a1_1, .int .i64 a1_2]] w fun e w' => ∃ v0_ : Value, e = .returned (v0_) ∧ Kd.R k76 76 w' w.heap.size (fun _ => True) v0_ r ∧ Below w.heap.size w w' := by
 have hu76 := Try.underlying76
 have HR0 := Aside0.mk hr0
 have HC0 := Aside0.mk hc0
 clear hr0 hc0
 have HB := Aside0.mk (Below.refl w.heap.size w)
 have H : (spec_l03Put.l0 k l0 (([] : List (S76))) false 0 a1_0 a1_1 a1_2) = some r := h
 clear h
 obtain ⟨y328, hy328⟩ : ∃ y_ : List (S76), y_ = (([] : List (S76))) := ⟨_, rfl⟩
 replace H : (spec_l03Put.l0 k l0 y328 false 0 a1_0 a1_1 a1_2) = some r := by first | (rw [hy328]; with_reducible exact H) | (have H2_ := (Option.bind_some _ _).symm.trans H; rw [hy328]; with_reducible exact H2_) | (have H2_ := (Option.bind_some _ _).symm.trans H; with_reducible exact H2_) | with_reducible exact H | (rw [hy328]; exact H) | exact H
 have Ny328 := Aside0.mk hy328
 clear hy328
 have H' := Aside0.mk H
 clear H
 go_enter Try.func98, Try.ntmps98
 go_wp2_with (first | ((with_reducible refine gate_dst (N := 3) rfl ?_); refine box_event ?hg (N := 3) ?hd (cs := #[.int .i64 a1_0, .int .i64 a1_1, .int .i64 a1_2]) (t := 76) ?hr ?_; (case hd => rfl); (case hg => rfl); (case hr => first | (go_simp; done) | (go_simp; rfl)); intro gb327 hg w3 hbox hb; have BK327 := Aside0.mk hbox; have GW327 := ge_ HB hg; have GE327 := ge_ HB hg; replace HB := at_ HB hb; clear hb hbox hg) | ((with_reducible refine gate_dst (N := 9) rfl ?_); refine Kd.R_lit k76 _ 76 ?hg (N := 9) ?hd (xs := ([] : List (S76))) (inner := []) (ok := fun _ => True) (okp := fun _ => True) ?hr ?hp (fun _ hk => hk) trivial (Below.refl _ _) (Nat.le_refl _) (by simp) ?_; (case hd => rfl); (case hg => rfl); (case hr => first | (go_simp; done) | (go_simp; rfl)); (case hp => exact (Reps.none _ _)); intro v329 w4 ho5 hb hg_ hnew_; clear hg_ hnew_; (first | rw [← Ny328.out] at ho5 | (simp only [Int.reduceToNat] at ho5; rw [← Ny328.out] at ho5)); have HO330 := Aside0.mk (Kd.R_lower (Kd.R_newB ho5 (g := gb327) (o := .cells #[.int .i64 a1_0, .int .i64 a1_1, .int .i64 a1_2] 76 (0, 0)) (bx_ BK327)) (bz_ HB)); replace BK327 := ab_ BK327 hb; replace HB := at_ HB hb; clear hb ho5))
 go_loopg [5, 6, 7] k (fun kq v5 v6 v7 w' => ∃ (x5_1 : List (S76)) (x6_1 : Bool) (x7_1 : Int), v6 = .bool x6_1 ∧ v7 = .int .i64 x7_1 ∧ Aside0 (spec_l03Put.l0 kq l0 x5_1 x6_1 x7_1 a1_0 a1_1 a1_2 = some r) ∧ Aside0 (kq ≤ k) ∧ Aside0 (Kd.R k76 76 w' w.heap.size (fun k_ => k_ ≠ gb327) v5 x5_1) ∧ Aside0 (w'.heap[gb327]? = some (.cells #[.int .i64 a1_0, .int .i64 a1_1, .int .i64 a1_2] 76 (0, 0))) ∧ Aside0 (Below w.heap.size w w'))
 case atStart => exact ⟨(y328), (false), (0), er_, er_, H', ⟨Nat.le_refl _⟩, ⟨by (with_reducible repeat (first | apply Kd.R_alloc | apply Kd.R_drewN | apply Kd.R_drew)); exact Kd.R_mono HO330.out (fun _ hk => hk.2)⟩, ⟨bx_ BK327⟩, ⟨bw115_⟩⟩
 case round =>
  clear H'
  try clear p2
  obtain ⟨x5_1, x6_1, x7_1, rfl, rfl, HA, HK1, HO_5, BK327, HB⟩ := hrel
  cases gk with
  | zero => exact absurd HA.out (by simp [spec_l03Put.l0])
  | succ k1 =>
   have H := HA.out
   clear HA
   simp only [spec_l03Put.l0] at H
   by_cases c6 : x7_1 < (l0.length : Int)
   rotate_left
   ·rw [if_neg c6] at H
    have c6b0 : decide (x7_1 < (l0.length : Int)) = false := decide_eq_false c6
    clear c6
    by_cases c62 : x6_1 = true
    ·subst c62
     rw [if_pos rfl] at H
     obtain rfl := Option.some.inj H
     go_wp2
     go_ret
     exact ⟨_, by first | rfl | (simp [errW_none, errW_some] <;> rfl) | (simp [*, errW_none, errW_some] <;> rfl), by (with_reducible repeat (first | apply Kd.R_alloc | apply Kd.R_drewN | apply Kd.R_drew)); exact Kd.R_mono HO_5.out (fun _ hk => trivial), bw115_⟩
    replace c62 := Bool.eq_false_iff.mpr c62
    subst c62
    rw [if_neg (show ¬ (false = true) by decide)] at H
    by_cases c63 : x5_1.length < 5864062014805
    rotate_left
    ·rw [if_neg c63] at H
     exact absurd H (by simp)
    rw [if_pos c63] at H
    have LMc63 := Aside0.mk c63
    clear c63
    obtain ⟨y331, hy331⟩ : ∃ y_ : List (S76), y_ = (x5_1 ++ [(⟨a1_0, a1_1, a1_2⟩ : S76)]) := ⟨_, rfl⟩
    replace H : (some y331) = some r := by first | (rw [hy331]; with_reducible exact H) | (have H2_ := (Option.bind_some _ _).symm.trans H; rw [hy331]; with_reducible exact H2_) | (have H2_ := (Option.bind_some _ _).symm.trans H; with_reducible exact H2_) | with_reducible exact H | (rw [hy331]; exact H) | exact H
    have Ny331 := Aside0.mk hy331
    clear hy331
    obtain rfl := Option.some.inj H
    have hcz64_0 := cz_ BK327 0 (.int .i64 a1_0)
    have hcz64_1 := cz_ BK327 1 (.int .i64 a1_1)
    have hcz64_2 := cz_ BK327 2 (.int .i64 a1_2)
    have hfz64_0 := fz_ BK327 0
    have hfz64_1 := fz_ BK327 1
    have hfz64_2 := fz_ BK327 2
    go_wp2_with ((with_reducible refine gate_builtin (b := .append) (xs := #[.tmp 65, .tmp 67]) rfl ?_); at_builtin; refine Kd.R_append k76 (w0 := w) w.heap.size rfl (.tmp 65) (.tmp 67) 28 76 (.agg #[(.int .i64 0), (.int .i64 0), (.int .i64 0)]) 24 rfl Try.underlying28 info76 rfl (by decide) (by omega) u5 x5_1 (⟨a1_0, a1_1, a1_2⟩ : S76) [.int .i64 a1_0, .int .i64 a1_1, .int .i64 a1_2] (fun k_ => k_ ≠ gb327) (fun _ => False) rfl rfl ?aP (fun _ hk => hk.elim) ?aF ?aO ?aB ?aS ?aL ?_; (case aP => exact k76_mkM _ _ _ (⟨a1_0, a1_1, a1_2⟩ : S76)); (case aB => exact (bw115_)); (case aF => exact (fun k_ hk => Kd.freshB (g := gb327) (o := .cells #[.int .i64 a1_0, .int .i64 a1_1, .int .i64 a1_2] 76 (0, 0)) (bx_ BK327) k_ hk)); (case aO => exact (hd_ HO_5)); (case aS => exact (bz_ HB)); (case aL => have := LMc63.out; omega); intro v332 w65 ho hb hg hat; rw [← Ny331.out] at ho; have HO333 := Aside0.mk ho; replace BK327 := Aside0.mk (blk_grown (g := gb327) (o := .cells #[.int .i64 a1_0, .int .i64 a1_1, .int .i64 a1_2] 76 (0, 0)) (bx_ BK327) hg (Kd.R_away HO_5.out (fun _ hk => hk))); replace HB := Aside0.mk (hb); clear HO_5; clear ho hb hg hat)
    go_ret
    exact ⟨_, by first | rfl | (simp [errW_none, errW_some] <;> rfl) | (simp [*, errW_none, errW_some] <;> rfl), by (with_reducible repeat (first | apply Kd.R_alloc | apply Kd.R_drewN | apply Kd.R_drew)); exact Kd.R_mono HO333.out (fun _ hk => trivial), bw115_⟩
   rw [if_pos c6] at H
   have c6b0 : decide (x7_1 < (l0.length : Int)) = true := decide_eq_true c6
   clear c6
   obtain ⟨c7b0, H⟩ := iq_ H
   have HC8 := Aside0.mk H
   clear H
   have p334 : 0 ≤ (x7_1 : Int) := oa_
   have q334 : x7_1 < (l0.length : Int) := oa_
   obtain ⟨ad334, e334, hx334_0, hx334_1, hx334_2⟩ := at_T76 HR0.out x7_1 p334 q334
   cases e334
   replace hx334_0 := (HB.out.cell (World.block_lt_of_cell? w _ hx334_0)).trans hx334_0
   replace hx334_1 := (HB.out.cell (World.block_lt_of_cell? w _ hx334_1)).trans hx334_1
   replace hx334_2 := (HB.out.cell (World.block_lt_of_cell? w _ hx334_2)).trans hx334_2
   replace p334 := eq_true p334
   replace q334 := eq_true q334
   go_upto_region 7 with ((with_reducible refine gate_dst (N := 8) rfl ?_); refine box_event ?hg (N := 8) ?hd (cs := #[.int .i64 0, .int .i64 0, .int .i64 0]) (t := 76) ?hr ?_; (case hd => rfl); (case hg => rfl); (case hr => first | (go_simp; done) | (go_simp; rfl)); intro gb335 hg w9 hbox hb; have BK335 := Aside0.mk hbox; have GW335 := ge_ HB hg; have GE335 := ge_ HB hg; have NB327_335 := nl_ BK327 hg; have NB335_327 := ng_ BK327 hg; replace HO_5 := Aside0.mk (Kd.R_below (Kd.R_elderB (hd_ HO_5) gb335 (Nat.le_of_eq hg.symm)) hb); replace HB := at_ HB hb; replace BK327 := ab_ BK327 hb; clear hb hbox hg; have hnb10 := NB335_327.out; have hnc10 := NB327_335.out; have hcz11_0 := cz_ BK335 0 (.int .i64 0); have hcz11_1 := cz_ BK335 1 (.int .i64 0); have hcz11_2 := cz_ BK335 2 (.int .i64 0); have hfz11_0 := fz_ BK335 0; have hfz11_1 := fz_ BK335 1; have hfz11_2 := fz_ BK335 2)
   (try simp only [Act.put, List.setIfInBounds_toArray, List.set_cons_zero, List.set_cons_succ])
   go_cut [42] (fun v42 wc => ∃ (kq : Nat) (x42_7 : Bool), v42 = .bool x42_7 ∧ Aside0 (spec_l03Put.j1 kq l0 x5_1 x6_1 x7_1 x42_7 a1_0 a1_1 a1_2 ((rd_T76 l0 x7_1).f0) ((rd_T76 l0 x7_1).f1) ((rd_T76 l0 x7_1).f2) = some r) ∧ Aside0 (kq ≤ k1) ∧ Aside0 (Kd.R k76 76 wc w.heap.size (fun k_ => k_ ≠ gb327 ∧ k_ ≠ gb335) u5 x5_1) ∧ Aside0 (wc.heap[gb327]? = some (.cells #[.int .i64 a1_0, .int .i64 a1_1, .int .i64 a1_2] 76 (0, 0))) ∧ Aside0 (wc.heap[gb335]? = some (.cells #[.int .i64 ((rd_T76 l0 x7_1).f0), .int .i64 ((rd_T76 l0 x7_1).f1), .int .i64 ((rd_T76 l0 x7_1).f2)] 76 (0, 0))) ∧ Aside0 (Below w.heap.size w wc))
   case first =>
    have H := HC8.out
    clear HC8
    by_cases c12 : x6_1 = true
    ·subst c12
     rw [if_pos rfl] at H
     have H' := Aside0.mk H
     clear H
     go_wp2
     go_meet
     case rel => exact ⟨_, (false), er_, H', ⟨by have := HK1.out; first | omega | exact Nat.le_refl _⟩, ⟨by (with_reducible repeat (first | apply Kd.R_alloc | apply Kd.R_drewN | apply Kd.R_drew)); exact Kd.R_mono (Kd.R_far (p := ⟨gb335, 2, none⟩) (Kd.R_far (p := ⟨gb335, 1, none⟩) (Kd.R_far (p := ⟨gb335, 0, none⟩) (Kd.R_mono HO_5.out (fun k_ hk => (⟨hk, hk.2⟩ : _ ∧ k_ ≠ gb335))) (fun _ hk => hk.2) (.int .i64 ((rd_T76 l0 x7_1).f0))) (fun _ hk => hk.2) (.int .i64 ((rd_T76 l0 x7_1).f1))) (fun _ hk => hk.2) (.int .i64 ((rd_T76 l0 x7_1).f2))) (fun _ hk => by first | exact ⟨hk.1.1, hk.1.2⟩ | grind)⟩, ⟨bc_ BK327⟩, ⟨by refine bd_ ?_; refine blk_put (cs := #[.int .i64 ((rd_T76 l0 x7_1).f0), .int .i64 ((rd_T76 l0 x7_1).f1), .int .i64 0]) ?_ 2 _ rfl; refine bd_ ?_; refine blk_put (cs := #[.int .i64 ((rd_T76 l0 x7_1).f0), .int .i64 0, .int .i64 0]) ?_ 1 _ rfl; refine bd_ ?_; refine blk_put (cs := #[.int .i64 0, .int .i64 0, .int .i64 0]) ?_ 0 _ rfl; refine bd_ ?_; exact BK335.out⟩, ⟨bw115_⟩⟩
    replace c12 := Bool.eq_false_iff.mpr c12
    subst c12
    rw [if_neg (show ¬ (false = true) by decide)] at H
    by_cases c13 : a1_0 < ((rd_T76 l0 x7_1).f0)
    ·rw [if_pos c13] at H
     have c13b0 : decide (a1_0 < ((rd_T76 l0 x7_1).f0)) = true := decide_eq_true c13
     clear c13
     (first | rw [c13b0] | (simp only [i64_w, i32_w]; rw [c13b0]) | skip)
     have H' := Aside0.mk H
     clear H
     have hnb14 := NB327_335.out
     have hnc14 := NB335_327.out
     have hcz15_0 := cz_ BK327 0 (.int .i64 a1_0)
     have hcz15_1 := cz_ BK327 1 (.int .i64 a1_1)
     have hcz15_2 := cz_ BK327 2 (.int .i64 a1_2)
     have hfz15_0 := fz_ BK327 0
     have hfz15_1 := fz_ BK327 1
     have hfz15_2 := fz_ BK327 2
     have hcz16_0 := cz_ BK335 0 (.int .i64 0)
     have hcz16_1 := cz_ BK335 1 (.int .i64 0)
     have hcz16_2 := cz_ BK335 2 (.int .i64 0)
     have hfz16_0 := fz_ BK335 0
     have hfz16_1 := fz_ BK335 1
     have hfz16_2 := fz_ BK335 2
     go_wp2
     go_meet
     case rel => exact ⟨_, (true), er_, H', ⟨by have := HK1.out; first | omega | exact Nat.le_refl _⟩, ⟨by (with_reducible repeat (first | apply Kd.R_alloc | apply Kd.R_drewN | apply Kd.R_drew)); exact Kd.R_mono (Kd.R_far (p := ⟨gb335, 2, none⟩) (Kd.R_far (p := ⟨gb335, 1, none⟩) (Kd.R_far (p := ⟨gb335, 0, none⟩) (Kd.R_mono HO_5.out (fun k_ hk => (⟨hk, hk.2⟩ : _ ∧ k_ ≠ gb335))) (fun _ hk => hk.2) (.int .i64 ((rd_T76 l0 x7_1).f0))) (fun _ hk => hk.2) (.int .i64 ((rd_T76 l0 x7_1).f1))) (fun _ hk => hk.2) (.int .i64 ((rd_T76 l0 x7_1).f2))) (fun _ hk => by first | exact ⟨hk.1.1, hk.1.2⟩ | grind)⟩, ⟨bc_ BK327⟩, ⟨by refine bd_ ?_; refine blk_put (cs := #[.int .i64 ((rd_T76 l0 x7_1).f0), .int .i64 ((rd_T76 l0 x7_1).f1), .int .i64 0]) ?_ 2 _ rfl; refine bd_ ?_; refine blk_put (cs := #[.int .i64 ((rd_T76 l0 x7_1).f0), .int .i64 0, .int .i64 0]) ?_ 1 _ rfl; refine bd_ ?_; refine blk_put (cs := #[.int .i64 0, .int .i64 0, .int .i64 0]) ?_ 0 _ rfl; refine bd_ ?_; exact BK335.out⟩, ⟨bw115_⟩⟩
    rw [if_neg c13] at H
    have c13b0 : decide (a1_0 < ((rd_T76 l0 x7_1).f0)) = false := decide_eq_false c13
    clear c13
    (first | rw [c13b0] | (simp only [i64_w, i32_w]; rw [c13b0]) | skip)
    by_cases c17 : a1_0 = ((rd_T76 l0 x7_1).f0)
    rotate_left
    ·rw [if_neg c17] at H
     have c17b0 : (a1_0 == ((rd_T76 l0 x7_1).f0)) = false := beq_eq_false_iff_ne.mpr c17
     have c17b1 : (a1_0 != ((rd_T76 l0 x7_1).f0)) = true := bne_iff_ne.mpr c17
     have H' := Aside0.mk H
     clear H
     have hnb21 := NB327_335.out
     have hnc21 := NB335_327.out
     have hcz22_0 := cz_ BK327 0 (.int .i64 a1_0)
     have hcz22_1 := cz_ BK327 1 (.int .i64 a1_1)
     have hcz22_2 := cz_ BK327 2 (.int .i64 a1_2)
     have hfz22_0 := fz_ BK327 0
     have hfz22_1 := fz_ BK327 1
     have hfz22_2 := fz_ BK327 2
     have hcz23_0 := cz_ BK335 0 (.int .i64 0)
     have hcz23_1 := cz_ BK335 1 (.int .i64 0)
     have hcz23_2 := cz_ BK335 2 (.int .i64 0)
     have hfz23_0 := fz_ BK335 0
     have hfz23_1 := fz_ BK335 1
     have hfz23_2 := fz_ BK335 2
     go_wp2
     go_meet
     case rel => exact ⟨_, (false), er_, H', ⟨by have := HK1.out; first | omega | exact Nat.le_refl _⟩, ⟨by (with_reducible repeat (first | apply Kd.R_alloc | apply Kd.R_drewN | apply Kd.R_drew)); exact Kd.R_mono (Kd.R_far (p := ⟨gb335, 2, none⟩) (Kd.R_far (p := ⟨gb335, 1, none⟩) (Kd.R_far (p := ⟨gb335, 0, none⟩) (Kd.R_mono HO_5.out (fun k_ hk => (⟨hk, hk.2⟩ : _ ∧ k_ ≠ gb335))) (fun _ hk => hk.2) (.int .i64 ((rd_T76 l0 x7_1).f0))) (fun _ hk => hk.2) (.int .i64 ((rd_T76 l0 x7_1).f1))) (fun _ hk => hk.2) (.int .i64 ((rd_T76 l0 x7_1).f2))) (fun _ hk => by first | exact ⟨hk.1.1, hk.1.2⟩ | grind)⟩, ⟨bc_ BK327⟩, ⟨by refine bd_ ?_; refine blk_put (cs := #[.int .i64 ((rd_T76 l0 x7_1).f0), .int .i64 ((rd_T76 l0 x7_1).f1), .int .i64 0]) ?_ 2 _ rfl; refine bd_ ?_; refine blk_put (cs := #[.int .i64 ((rd_T76 l0 x7_1).f0), .int .i64 0, .int .i64 0]) ?_ 1 _ rfl; refine bd_ ?_; refine blk_put (cs := #[.int .i64 0, .int .i64 0, .int .i64 0]) ?_ 0 _ rfl; refine bd_ ?_; exact BK335.out⟩, ⟨bw115_⟩⟩
    rw [if_pos c17] at H
    have c17b0 : (a1_0 == ((rd_T76 l0 x7_1).f0)) = true := beq_iff_eq.mpr c17
    have c17b1 : (a1_0 != ((rd_T76 l0 x7_1).f0)) = false := bne_eq_false_iff_eq.mpr c17
    clear c17
    have H' := Aside0.mk H
    clear H
    have hnb18 := NB327_335.out
    have hnc18 := NB335_327.out
    have hcz19_0 := cz_ BK327 0 (.int .i64 a1_0)
    have hcz19_1 := cz_ BK327 1 (.int .i64 a1_1)
    have hcz19_2 := cz_ BK327 2 (.int .i64 a1_2)
    have hfz19_0 := fz_ BK327 0
    have hfz19_1 := fz_ BK327 1
    have hfz19_2 := fz_ BK327 2
    have hcz20_0 := cz_ BK335 0 (.int .i64 0)
    have hcz20_1 := cz_ BK335 1 (.int .i64 0)
    have hcz20_2 := cz_ BK335 2 (.int .i64 0)
    have hfz20_0 := fz_ BK335 0
    have hfz20_1 := fz_ BK335 1
    have hfz20_2 := fz_ BK335 2
    go_wp2
    go_meet
    case rel => exact ⟨_, (decide (a1_1 ≤ ((rd_T76 l0 x7_1).f1))), er_, H', ⟨by have := HK1.out; first | omega | exact Nat.le_refl _⟩, ⟨by (with_reducible repeat (first | apply Kd.R_alloc | apply Kd.R_drewN | apply Kd.R_drew)); exact Kd.R_mono (Kd.R_far (p := ⟨gb335, 2, none⟩) (Kd.R_far (p := ⟨gb335, 1, none⟩) (Kd.R_far (p := ⟨gb335, 0, none⟩) (Kd.R_mono HO_5.out (fun k_ hk => (⟨hk, hk.2⟩ : _ ∧ k_ ≠ gb335))) (fun _ hk => hk.2) (.int .i64 ((rd_T76 l0 x7_1).f0))) (fun _ hk => hk.2) (.int .i64 ((rd_T76 l0 x7_1).f1))) (fun _ hk => hk.2) (.int .i64 ((rd_T76 l0 x7_1).f2))) (fun _ hk => by first | exact ⟨hk.1.1, hk.1.2⟩ | grind)⟩, ⟨bc_ BK327⟩, ⟨by refine bd_ ?_; refine blk_put (cs := #[.int .i64 ((rd_T76 l0 x7_1).f0), .int .i64 ((rd_T76 l0 x7_1).f1), .int .i64 0]) ?_ 2 _ rfl; refine bd_ ?_; refine blk_put (cs := #[.int .i64 ((rd_T76 l0 x7_1).f0), .int .i64 0, .int .i64 0]) ?_ 1 _ rfl; refine bd_ ?_; refine blk_put (cs := #[.int .i64 0, .int .i64 0, .int .i64 0]) ?_ 0 _ rfl; refine bd_ ?_; exact BK335.out⟩, ⟨bw115_⟩⟩
   case rest =>
    clear HC8
    try clear c1
    try clear c2
    try clear p2
    try clear p3
    try clear q3
    try clear hx3
    try clear c6
    try clear c6b0
    try clear c7
    try clear c7b0
    try clear c9
    try clear c10
    try clear c12
    try clear c13
    try clear c13b0
    try clear c14
    try clear c17
    try clear c17b0
    try clear c17b1
    try clear c18
    try clear c21
    try clear hcz11_0
    try clear hcz11_1
    try clear hcz11_2
    try clear hcz15_0
    try clear hcz15_1
    try clear hcz15_2
    try clear hcz16_0
    try clear hcz16_1
    try clear hcz16_2
    try clear hcz19_0
    try clear hcz19_1
    try clear hcz19_2
    try clear hcz20_0
    try clear hcz20_1
    try clear hcz20_2
    try clear hcz22_0
    try clear hcz22_1
    try clear hcz22_2
    try clear hcz23_0
    try clear hcz23_1
    try clear hcz23_2
    try clear hfz11_0
    try clear hfz11_1
    try clear hfz11_2
    try clear hfz15_0
    try clear hfz15_1
    try clear hfz15_2
    try clear hfz16_0
    try clear hfz16_1
    try clear hfz16_2
    try clear hfz19_0
    try clear hfz19_1
    try clear hfz19_2
    try clear hfz20_0
    try clear hfz20_1
    try clear hfz20_2
    try clear hfz22_0
    try clear hfz22_1
    try clear hfz22_2
    try clear hfz23_0
    try clear hfz23_1
    try clear hfz23_2
    try clear hx334_0
    try clear hx334_1
    try clear hx334_2
    try clear p2
    try clear p334
    try clear q334
    obtain ⟨kq, x42_7, rfl, HA, HJ7, HO_5, BK327, BK335, HB⟩ := hcut
    cases kq with
    | zero => exact absurd HA.out (by simp [spec_l03Put.j1])
    | succ kj7 =>
     have H := HA.out
     clear HA
     simp only [spec_l03Put.j1] at H
     by_cases c24 : x42_7 = true
     ·subst c24
      rw [if_pos rfl] at H
      by_cases c25 : x5_1.length < 5864062014805
      rotate_left
      ·rw [if_neg c25] at H
       exact absurd H (by simp)
      rw [if_pos c25] at H
      have LMc25 := Aside0.mk c25
      clear c25
      obtain ⟨y336, hy336⟩ : ∃ y_ : List (S76), y_ = (x5_1 ++ [(⟨a1_0, a1_1, a1_2⟩ : S76)]) := ⟨_, rfl⟩
      replace H : (if ((rd_T76 l0 x7_1).f0) = a1_0 then (if ((rd_T76 l0 x7_1).f1) = a1_1 then (spec_l03Put.l0 kj7 l0 y336 true (wrap64 (x7_1 + 1)) a1_0 a1_1 a1_2) else (if y336.length < 5864062014805 then (spec_l03Put.l0 kj7 l0 (y336 ++ [(⟨((rd_T76 l0 x7_1).f0), ((rd_T76 l0 x7_1).f1), ((rd_T76 l0 x7_1).f2)⟩ : S76)]) true (wrap64 (x7_1 + 1)) a1_0 a1_1 a1_2) else (none))) else (if y336.length < 5864062014805 then (spec_l03Put.l0 kj7 l0 (y336 ++ [(⟨((rd_T76 l0 x7_1).f0), ((rd_T76 l0 x7_1).f1), ((rd_T76 l0 x7_1).f2)⟩ : S76)]) true (wrap64 (x7_1 + 1)) a1_0 a1_1 a1_2) else (none))) = some r := by first | (rw [hy336]; with_reducible exact H) | (have H2_ := (Option.bind_some _ _).symm.trans H; rw [hy336]; with_reducible exact H2_) | (have H2_ := (Option.bind_some _ _).symm.trans H; with_reducible exact H2_) | with_reducible exact H | (rw [hy336]; exact H) | exact H
      have Ny336 := Aside0.mk hy336
      clear hy336
      by_cases c26 : ((rd_T76 l0 x7_1).f0) = a1_0
      rotate_left
      ·rw [if_neg c26] at H
       have c26b0 : (((rd_T76 l0 x7_1).f0) == a1_0) = false := beq_eq_false_iff_ne.mpr c26
       have c26b1 : (((rd_T76 l0 x7_1).f0) != a1_0) = true := bne_iff_ne.mpr c26
       by_cases c40 : y336.length < 5864062014805
       rotate_left
       ·rw [if_neg c40] at H
        exact absurd H (by simp)
       rw [if_pos c40] at H
       have LMc40 := Aside0.mk c40
       clear c40
       obtain ⟨y342, hy342⟩ : ∃ y_ : List (S76), y_ = (y336 ++ [(⟨((rd_T76 l0 x7_1).f0), ((rd_T76 l0 x7_1).f1), ((rd_T76 l0 x7_1).f2)⟩ : S76)]) := ⟨_, rfl⟩
       replace H : (spec_l03Put.l0 kj7 l0 y342 true (wrap64 (x7_1 + 1)) a1_0 a1_1 a1_2) = some r := by first | (rw [hy342]; with_reducible exact H) | (have H2_ := (Option.bind_some _ _).symm.trans H; rw [hy342]; with_reducible exact H2_) | (have H2_ := (Option.bind_some _ _).symm.trans H; with_reducible exact H2_) | with_reducible exact H | (rw [hy342]; exact H) | exact H
       have Ny342 := Aside0.mk hy342
       clear hy342
       have H' := Aside0.mk H
       clear H
       have hnb41 := NB327_335.out
       have hnc41 := NB335_327.out
       have hcz42_0 := cz_ BK327 0 (.int .i64 a1_0)
       have hcz42_1 := cz_ BK327 1 (.int .i64 a1_1)
       have hcz42_2 := cz_ BK327 2 (.int .i64 a1_2)
       have hfz42_0 := fz_ BK327 0
       have hfz42_1 := fz_ BK327 1
       have hfz42_2 := fz_ BK327 2
       go_wp2_with (first | ((with_reducible refine gate_builtin (b := .append) (xs := #[.tmp 43, .tmp 45]) rfl ?_); at_builtin; refine Kd.R_append k76 (w0 := w) w.heap.size rfl (.tmp 43) (.tmp 45) 28 76 (.agg #[(.int .i64 0), (.int .i64 0), (.int .i64 0)]) 24 rfl Try.underlying28 info76 rfl (by decide) (by omega) u5 x5_1 (⟨a1_0, a1_1, a1_2⟩ : S76) [.int .i64 a1_0, .int .i64 a1_1, .int .i64 a1_2] (fun k_ => k_ ≠ gb327 ∧ k_ ≠ gb335) (fun _ => False) rfl rfl ?aP (fun _ hk => hk.elim) ?aF ?aO ?aB ?aS ?aL ?_; (case aP => exact k76_mkM _ _ _ (⟨a1_0, a1_1, a1_2⟩ : S76)); (case aB => exact (bw115_)); (case aF => exact (fun k_ hk => ⟨Kd.freshB (g := gb327) (o := .cells #[.int .i64 a1_0, .int .i64 a1_1, .int .i64 a1_2] 76 (0, 0)) (bx_ BK327) k_ hk, Kd.freshB (g := gb335) (o := .cells #[.int .i64 ((rd_T76 l0 x7_1).f0), .int .i64 ((rd_T76 l0 x7_1).f1), .int .i64 ((rd_T76 l0 x7_1).f2)] 76 (0, 0)) (bx_ BK335) k_ hk⟩)); (case aO => exact (hd_ HO_5)); (case aS => exact (bz_ HB)); (case aL => have := LMc25.out; omega); intro v337 w43 ho hb hg hat; rw [← Ny336.out] at ho; have HO338 := Aside0.mk ho; replace BK327 := Aside0.mk (blk_grown (g := gb327) (o := .cells #[.int .i64 a1_0, .int .i64 a1_1, .int .i64 a1_2] 76 (0, 0)) (bx_ BK327) hg (Kd.R_away HO_5.out (fun _ hk => hk.1))); replace BK335 := Aside0.mk (blk_grown (g := gb335) (o := .cells #[.int .i64 ((rd_T76 l0 x7_1).f0), .int .i64 ((rd_T76 l0 x7_1).f1), .int .i64 ((rd_T76 l0 x7_1).f2)] 76 (0, 0)) (bx_ BK335) hg (Kd.R_away HO_5.out (fun _ hk => hk.2))); replace HB := Aside0.mk (hb); clear HO_5; clear ho hb hg hat; have hcz44_0 := cz_ BK335 0 (.int .i64 ((rd_T76 l0 x7_1).f0)); have hcz44_1 := cz_ BK335 1 (.int .i64 ((rd_T76 l0 x7_1).f1)); have hcz44_2 := cz_ BK335 2 (.int .i64 ((rd_T76 l0 x7_1).f2)); have hfz44_0 := fz_ BK335 0; have hfz44_1 := fz_ BK335 1; have hfz44_2 := fz_ BK335 2; have hcz45_0 := cz_ BK327 0 (.int .i64 a1_0); have hcz45_1 := cz_ BK327 1 (.int .i64 a1_1); have hcz45_2 := cz_ BK327 2 (.int .i64 a1_2); have hfz45_0 := fz_ BK327 0; have hfz45_1 := fz_ BK327 1; have hfz45_2 := fz_ BK327 2) | ((with_reducible refine gate_builtin (b := .append) (xs := #[.tmp 59, .tmp 61]) rfl ?_); at_builtin; refine Kd.R_append k76 (w0 := w) w.heap.size rfl (.tmp 59) (.tmp 61) 28 76 (.agg #[(.int .i64 0), (.int .i64 0), (.int .i64 0)]) 24 rfl Try.underlying28 info76 rfl (by decide) (by omega) v337 y336 (⟨((rd_T76 l0 x7_1).f0), ((rd_T76 l0 x7_1).f1), ((rd_T76 l0 x7_1).f2)⟩ : S76) [.int .i64 ((rd_T76 l0 x7_1).f0), .int .i64 ((rd_T76 l0 x7_1).f1), .int .i64 ((rd_T76 l0 x7_1).f2)] (fun k_ => k_ ≠ gb327 ∧ k_ ≠ gb335) (fun _ => False) rfl rfl ?aP (fun _ hk => hk.elim) ?aF ?aO ?aB ?aS ?aL ?_; (case aP => exact k76_mkM _ _ _ (⟨((rd_T76 l0 x7_1).f0), ((rd_T76 l0 x7_1).f1), ((rd_T76 l0 x7_1).f2)⟩ : S76)); (case aB => exact (bw115_)); (case aF => exact (fun k_ hk => ⟨Kd.freshB (g := gb327) (o := .cells #[.int .i64 a1_0, .int .i64 a1_1, .int .i64 a1_2] 76 (0, 0)) (bx_ BK327) k_ hk, Kd.freshB (g := gb335) (o := .cells #[.int .i64 ((rd_T76 l0 x7_1).f0), .int .i64 ((rd_T76 l0 x7_1).f1), .int .i64 ((rd_T76 l0 x7_1).f2)] 76 (0, 0)) (bx_ BK335) k_ hk⟩)); (case aO => exact (hd_ HO338)); (case aS => exact (bz_ HB)); (case aL => have := LMc40.out; omega); intro v343 w46 ho hb hg hat; rw [← Ny342.out] at ho; have HO344 := Aside0.mk ho; replace BK327 := Aside0.mk (blk_grown (g := gb327) (o := .cells #[.int .i64 a1_0, .int .i64 a1_1, .int .i64 a1_2] 76 (0, 0)) (bx_ BK327) hg (Kd.R_away HO338.out (fun _ hk => hk.1))); replace BK335 := Aside0.mk (blk_grown (g := gb335) (o := .cells #[.int .i64 ((rd_T76 l0 x7_1).f0), .int .i64 ((rd_T76 l0 x7_1).f1), .int .i64 ((rd_T76 l0 x7_1).f2)] 76 (0, 0)) (bx_ BK335) hg (Kd.R_away HO338.out (fun _ hk => hk.2))); replace HB := Aside0.mk (hb); clear HO338; clear ho hb hg hat))
       go_roundg kj7
       case measure => have := HK1.out; have := HJ7.out; omega
       case rel => exact ⟨(y342), (true), (wrap64 (x7_1 + 1)), er_, er_, H', ⟨by have := HK1.out; have := HJ7.out; omega⟩, ⟨by (with_reducible repeat (first | apply Kd.R_alloc | apply Kd.R_drewN | apply Kd.R_drew)); exact Kd.R_mono HO344.out (fun _ hk => hk.1)⟩, ⟨bx_ BK327⟩, ⟨bw115_⟩⟩
      rw [if_pos c26] at H
      have c26b0 : (((rd_T76 l0 x7_1).f0) == a1_0) = true := beq_iff_eq.mpr c26
      have c26b1 : (((rd_T76 l0 x7_1).f0) != a1_0) = false := bne_eq_false_iff_eq.mpr c26
      clear c26
      by_cases c27 : ((rd_T76 l0 x7_1).f1) = a1_1
      ·rw [if_pos c27] at H
       have c27b0 : (((rd_T76 l0 x7_1).f1) == a1_1) = true := beq_iff_eq.mpr c27
       have c27b1 : (((rd_T76 l0 x7_1).f1) != a1_1) = false := bne_eq_false_iff_eq.mpr c27
       clear c27
       have H' := Aside0.mk H
       clear H
       have hnb28 := NB327_335.out
       have hnc28 := NB335_327.out
       have hcz29_0 := cz_ BK327 0 (.int .i64 a1_0)
       have hcz29_1 := cz_ BK327 1 (.int .i64 a1_1)
       have hcz29_2 := cz_ BK327 2 (.int .i64 a1_2)
       have hfz29_0 := fz_ BK327 0
       have hfz29_1 := fz_ BK327 1
       have hfz29_2 := fz_ BK327 2
       go_wp2_with ((with_reducible refine gate_builtin (b := .append) (xs := #[.tmp 43, .tmp 45]) rfl ?_); at_builtin; refine Kd.R_append k76 (w0 := w) w.heap.size rfl (.tmp 43) (.tmp 45) 28 76 (.agg #[(.int .i64 0), (.int .i64 0), (.int .i64 0)]) 24 rfl Try.underlying28 info76 rfl (by decide) (by omega) u5 x5_1 (⟨a1_0, a1_1, a1_2⟩ : S76) [.int .i64 a1_0, .int .i64 a1_1, .int .i64 a1_2] (fun k_ => k_ ≠ gb327 ∧ k_ ≠ gb335) (fun _ => False) rfl rfl ?aP (fun _ hk => hk.elim) ?aF ?aO ?aB ?aS ?aL ?_; (case aP => exact k76_mkM _ _ _ (⟨a1_0, a1_1, a1_2⟩ : S76)); (case aB => exact (bw115_)); (case aF => exact (fun k_ hk => ⟨Kd.freshB (g := gb327) (o := .cells #[.int .i64 a1_0, .int .i64 a1_1, .int .i64 a1_2] 76 (0, 0)) (bx_ BK327) k_ hk, Kd.freshB (g := gb335) (o := .cells #[.int .i64 ((rd_T76 l0 x7_1).f0), .int .i64 ((rd_T76 l0 x7_1).f1), .int .i64 ((rd_T76 l0 x7_1).f2)] 76 (0, 0)) (bx_ BK335) k_ hk⟩)); (case aO => exact (hd_ HO_5)); (case aS => exact (bz_ HB)); (case aL => have := LMc25.out; omega); intro v337 w30 ho hb hg hat; rw [← Ny336.out] at ho; have HO338 := Aside0.mk ho; replace BK327 := Aside0.mk (blk_grown (g := gb327) (o := .cells #[.int .i64 a1_0, .int .i64 a1_1, .int .i64 a1_2] 76 (0, 0)) (bx_ BK327) hg (Kd.R_away HO_5.out (fun _ hk => hk.1))); replace BK335 := Aside0.mk (blk_grown (g := gb335) (o := .cells #[.int .i64 ((rd_T76 l0 x7_1).f0), .int .i64 ((rd_T76 l0 x7_1).f1), .int .i64 ((rd_T76 l0 x7_1).f2)] 76 (0, 0)) (bx_ BK335) hg (Kd.R_away HO_5.out (fun _ hk => hk.2))); replace HB := Aside0.mk (hb); clear HO_5; clear ho hb hg hat; have hcz31_0 := cz_ BK335 0 (.int .i64 ((rd_T76 l0 x7_1).f0)); have hcz31_1 := cz_ BK335 1 (.int .i64 ((rd_T76 l0 x7_1).f1)); have hcz31_2 := cz_ BK335 2 (.int .i64 ((rd_T76 l0 x7_1).f2)); have hfz31_0 := fz_ BK335 0; have hfz31_1 := fz_ BK335 1; have hfz31_2 := fz_ BK335 2; have hcz32_0 := cz_ BK327 0 (.int .i64 a1_0); have hcz32_1 := cz_ BK327 1 (.int .i64 a1_1); have hcz32_2 := cz_ BK327 2 (.int .i64 a1_2); have hfz32_0 := fz_ BK327 0; have hfz32_1 := fz_ BK327 1; have hfz32_2 := fz_ BK327 2)
       go_roundg kj7
       case measure => have := HK1.out; have := HJ7.out; omega
       case rel => exact ⟨(y336), (true), (wrap64 (x7_1 + 1)), er_, er_, H', ⟨by have := HK1.out; have := HJ7.out; omega⟩, ⟨by (with_reducible repeat (first | apply Kd.R_alloc | apply Kd.R_drewN | apply Kd.R_drew)); exact Kd.R_mono HO338.out (fun _ hk => hk.1)⟩, ⟨bx_ BK327⟩, ⟨bw115_⟩⟩
      rw [if_neg c27] at H
      have c27b0 : (((rd_T76 l0 x7_1).f1) == a1_1) = false := beq_eq_false_iff_ne.mpr c27
      have c27b1 : (((rd_T76 l0 x7_1).f1) != a1_1) = true := bne_iff_ne.mpr c27
      by_cases c33 : y336.length < 5864062014805
      rotate_left
      ·rw [if_neg c33] at H
       exact absurd H (by simp)
      rw [if_pos c33] at H
      have LMc33 := Aside0.mk c33
      clear c33
      obtain ⟨y339, hy339⟩ : ∃ y_ : List (S76), y_ = (y336 ++ [(⟨((rd_T76 l0 x7_1).f0), ((rd_T76 l0 x7_1).f1), ((rd_T76 l0 x7_1).f2)⟩ : S76)]) := ⟨_, rfl⟩
      replace H : (spec_l03Put.l0 kj7 l0 y339 true (wrap64 (x7_1 + 1)) a1_0 a1_1 a1_2) = some r := by first | (rw [hy339]; with_reducible exact H) | (have H2_ := (Option.bind_some _ _).symm.trans H; rw [hy339]; with_reducible exact H2_) | (have H2_ := (Option.bind_some _ _).symm.trans H; with_reducible exact H2_) | with_reducible exact H | (rw [hy339]; exact H) | exact H
      have Ny339 := Aside0.mk hy339
      clear hy339
      have H' := Aside0.mk H
      clear H
      have hnb34 := NB327_335.out
      have hnc34 := NB335_327.out
      have hcz35_0 := cz_ BK327 0 (.int .i64 a1_0)
      have hcz35_1 := cz_ BK327 1 (.int .i64 a1_1)
      have hcz35_2 := cz_ BK327 2 (.int .i64 a1_2)
      have hfz35_0 := fz_ BK327 0
      have hfz35_1 := fz_ BK327 1
      have hfz35_2 := fz_ BK327 2
      go_wp2_with (first | ((with_reducible refine gate_builtin (b := .append) (xs := #[.tmp 43, .tmp 45]) rfl ?_); at_builtin; refine Kd.R_append k76 (w0 := w) w.heap.size rfl (.tmp 43) (.tmp 45) 28 76 (.agg #[(.int .i64 0), (.int .i64 0), (.int .i64 0)]) 24 rfl Try.underlying28 info76 rfl (by decide) (by omega) u5 x5_1 (⟨a1_0, a1_1, a1_2⟩ : S76) [.int .i64 a1_0, .int .i64 a1_1, .int .i64 a1_2] (fun k_ => k_ ≠ gb327 ∧ k_ ≠ gb335) (fun _ => False) rfl rfl ?aP (fun _ hk => hk.elim) ?aF ?aO ?aB ?aS ?aL ?_; (case aP => exact k76_mkM _ _ _ (⟨a1_0, a1_1, a1_2⟩ : S76)); (case aB => exact (bw115_)); (case aF => exact (fun k_ hk => ⟨Kd.freshB (g := gb327) (o := .cells #[.int .i64 a1_0, .int .i64 a1_1, .int .i64 a1_2] 76 (0, 0)) (bx_ BK327) k_ hk, Kd.freshB (g := gb335) (o := .cells #[.int .i64 ((rd_T76 l0 x7_1).f0), .int .i64 ((rd_T76 l0 x7_1).f1), .int .i64 ((rd_T76 l0 x7_1).f2)] 76 (0, 0)) (bx_ BK335) k_ hk⟩)); (case aO => exact (hd_ HO_5)); (case aS => exact (bz_ HB)); (case aL => have := LMc25.out; omega); intro v337 w36 ho hb hg hat; rw [← Ny336.out] at ho; have HO338 := Aside0.mk ho; replace BK327 := Aside0.mk (blk_grown (g := gb327) (o := .cells #[.int .i64 a1_0, .int .i64 a1_1, .int .i64 a1_2] 76 (0, 0)) (bx_ BK327) hg (Kd.R_away HO_5.out (fun _ hk => hk.1))); replace BK335 := Aside0.mk (blk_grown (g := gb335) (o := .cells #[.int .i64 ((rd_T76 l0 x7_1).f0), .int .i64 ((rd_T76 l0 x7_1).f1), .int .i64 ((rd_T76 l0 x7_1).f2)] 76 (0, 0)) (bx_ BK335) hg (Kd.R_away HO_5.out (fun _ hk => hk.2))); replace HB := Aside0.mk (hb); clear HO_5; clear ho hb hg hat; have hcz37_0 := cz_ BK335 0 (.int .i64 ((rd_T76 l0 x7_1).f0)); have hcz37_1 := cz_ BK335 1 (.int .i64 ((rd_T76 l0 x7_1).f1)); have hcz37_2 := cz_ BK335 2 (.int .i64 ((rd_T76 l0 x7_1).f2)); have hfz37_0 := fz_ BK335 0; have hfz37_1 := fz_ BK335 1; have hfz37_2 := fz_ BK335 2; have hcz38_0 := cz_ BK327 0 (.int .i64 a1_0); have hcz38_1 := cz_ BK327 1 (.int .i64 a1_1); have hcz38_2 := cz_ BK327 2 (.int .i64 a1_2); have hfz38_0 := fz_ BK327 0; have hfz38_1 := fz_ BK327 1; have hfz38_2 := fz_ BK327 2) | ((with_reducible refine gate_builtin (b := .append) (xs := #[.tmp 59, .tmp 61]) rfl ?_); at_builtin; refine Kd.R_append k76 (w0 := w) w.heap.size rfl (.tmp 59) (.tmp 61) 28 76 (.agg #[(.int .i64 0), (.int .i64 0), (.int .i64 0)]) 24 rfl Try.underlying28 info76 rfl (by decide) (by omega) v337 y336 (⟨((rd_T76 l0 x7_1).f0), ((rd_T76 l0 x7_1).f1), ((rd_T76 l0 x7_1).f2)⟩ : S76) [.int .i64 ((rd_T76 l0 x7_1).f0), .int .i64 ((rd_T76 l0 x7_1).f1), .int .i64 ((rd_T76 l0 x7_1).f2)] (fun k_ => k_ ≠ gb327 ∧ k_ ≠ gb335) (fun _ => False) rfl rfl ?aP (fun _ hk => hk.elim) ?aF ?aO ?aB ?aS ?aL ?_; (case aP => exact k76_mkM _ _ _ (⟨((rd_T76 l0 x7_1).f0), ((rd_T76 l0 x7_1).f1), ((rd_T76 l0 x7_1).f2)⟩ : S76)); (case aB => exact (bw115_)); (case aF => exact (fun k_ hk => ⟨Kd.freshB (g := gb327) (o := .cells #[.int .i64 a1_0, .int .i64 a1_1, .int .i64 a1_2] 76 (0, 0)) (bx_ BK327) k_ hk, Kd.freshB (g := gb335) (o := .cells #[.int .i64 ((rd_T76 l0 x7_1).f0), .int .i64 ((rd_T76 l0 x7_1).f1), .int .i64 ((rd_T76 l0 x7_1).f2)] 76 (0, 0)) (bx_ BK335) k_ hk⟩)); (case aO => exact (hd_ HO338)); (case aS => exact (bz_ HB)); (case aL => have := LMc33.out; omega); intro v340 w39 ho hb hg hat; rw [← Ny339.out] at ho; have HO341 := Aside0.mk ho; replace BK327 := Aside0.mk (blk_grown (g := gb327) (o := .cells #[.int .i64 a1_0, .int .i64 a1_1, .int .i64 a1_2] 76 (0, 0)) (bx_ BK327) hg (Kd.R_away HO338.out (fun _ hk => hk.1))); replace BK335 := Aside0.mk (blk_grown (g := gb335) (o := .cells #[.int .i64 ((rd_T76 l0 x7_1).f0), .int .i64 ((rd_T76 l0 x7_1).f1), .int .i64 ((rd_T76 l0 x7_1).f2)] 76 (0, 0)) (bx_ BK335) hg (Kd.R_away HO338.out (fun _ hk => hk.2))); replace HB := Aside0.mk (hb); clear HO338; clear ho hb hg hat))
      go_roundg kj7
      case measure => have := HK1.out; have := HJ7.out; omega
      case rel => exact ⟨(y339), (true), (wrap64 (x7_1 + 1)), er_, er_, H', ⟨by have := HK1.out; have := HJ7.out; omega⟩, ⟨by (with_reducible repeat (first | apply Kd.R_alloc | apply Kd.R_drewN | apply Kd.R_drew)); exact Kd.R_mono HO341.out (fun _ hk => hk.1)⟩, ⟨bx_ BK327⟩, ⟨bw115_⟩⟩
     replace c24 := Bool.eq_false_iff.mpr c24
     subst c24
     rw [if_neg (show ¬ (false = true) by decide)] at H
     by_cases c47 : ((rd_T76 l0 x7_1).f0) = a1_0
     rotate_left
     ·rw [if_neg c47] at H
      have c47b0 : (((rd_T76 l0 x7_1).f0) == a1_0) = false := beq_eq_false_iff_ne.mpr c47
      have c47b1 : (((rd_T76 l0 x7_1).f0) != a1_0) = true := bne_iff_ne.mpr c47
      by_cases c57 : x5_1.length < 5864062014805
      rotate_left
      ·rw [if_neg c57] at H
       exact absurd H (by simp)
      rw [if_pos c57] at H
      have LMc57 := Aside0.mk c57
      clear c57
      obtain ⟨y348, hy348⟩ : ∃ y_ : List (S76), y_ = (x5_1 ++ [(⟨((rd_T76 l0 x7_1).f0), ((rd_T76 l0 x7_1).f1), ((rd_T76 l0 x7_1).f2)⟩ : S76)]) := ⟨_, rfl⟩
      replace H : (spec_l03Put.l0 kj7 l0 y348 x6_1 (wrap64 (x7_1 + 1)) a1_0 a1_1 a1_2) = some r := by first | (rw [hy348]; with_reducible exact H) | (have H2_ := (Option.bind_some _ _).symm.trans H; rw [hy348]; with_reducible exact H2_) | (have H2_ := (Option.bind_some _ _).symm.trans H; with_reducible exact H2_) | with_reducible exact H | (rw [hy348]; exact H) | exact H
      have Ny348 := Aside0.mk hy348
      clear hy348
      have H' := Aside0.mk H
      clear H
      have hnb58 := NB335_327.out
      have hnc58 := NB327_335.out
      have hcz59_0 := cz_ BK335 0 (.int .i64 ((rd_T76 l0 x7_1).f0))
      have hcz59_1 := cz_ BK335 1 (.int .i64 ((rd_T76 l0 x7_1).f1))
      have hcz59_2 := cz_ BK335 2 (.int .i64 ((rd_T76 l0 x7_1).f2))
      have hfz59_0 := fz_ BK335 0
      have hfz59_1 := fz_ BK335 1
      have hfz59_2 := fz_ BK335 2
      have hcz60_0 := cz_ BK327 0 (.int .i64 a1_0)
      have hcz60_1 := cz_ BK327 1 (.int .i64 a1_1)
      have hcz60_2 := cz_ BK327 2 (.int .i64 a1_2)
      have hfz60_0 := fz_ BK327 0
      have hfz60_1 := fz_ BK327 1
      have hfz60_2 := fz_ BK327 2
      go_wp2_with ((with_reducible refine gate_builtin (b := .append) (xs := #[.tmp 59, .tmp 61]) rfl ?_); at_builtin; refine Kd.R_append k76 (w0 := w) w.heap.size rfl (.tmp 59) (.tmp 61) 28 76 (.agg #[(.int .i64 0), (.int .i64 0), (.int .i64 0)]) 24 rfl Try.underlying28 info76 rfl (by decide) (by omega) u5 x5_1 (⟨((rd_T76 l0 x7_1).f0), ((rd_T76 l0 x7_1).f1), ((rd_T76 l0 x7_1).f2)⟩ : S76) [.int .i64 ((rd_T76 l0 x7_1).f0), .int .i64 ((rd_T76 l0 x7_1).f1), .int .i64 ((rd_T76 l0 x7_1).f2)] (fun k_ => k_ ≠ gb327 ∧ k_ ≠ gb335) (fun _ => False) rfl rfl ?aP (fun _ hk => hk.elim) ?aF ?aO ?aB ?aS ?aL ?_; (case aP => exact k76_mkM _ _ _ (⟨((rd_T76 l0 x7_1).f0), ((rd_T76 l0 x7_1).f1), ((rd_T76 l0 x7_1).f2)⟩ : S76)); (case aB => exact (bw115_)); (case aF => exact (fun k_ hk => ⟨Kd.freshB (g := gb327) (o := .cells #[.int .i64 a1_0, .int .i64 a1_1, .int .i64 a1_2] 76 (0, 0)) (bx_ BK327) k_ hk, Kd.freshB (g := gb335) (o := .cells #[.int .i64 ((rd_T76 l0 x7_1).f0), .int .i64 ((rd_T76 l0 x7_1).f1), .int .i64 ((rd_T76 l0 x7_1).f2)] 76 (0, 0)) (bx_ BK335) k_ hk⟩)); (case aO => exact (hd_ HO_5)); (case aS => exact (bz_ HB)); (case aL => have := LMc57.out; omega); intro v349 w61 ho hb hg hat; rw [← Ny348.out] at ho; have HO350 := Aside0.mk ho; replace BK327 := Aside0.mk (blk_grown (g := gb327) (o := .cells #[.int .i64 a1_0, .int .i64 a1_1, .int .i64 a1_2] 76 (0, 0)) (bx_ BK327) hg (Kd.R_away HO_5.out (fun _ hk => hk.1))); replace BK335 := Aside0.mk (blk_grown (g := gb335) (o := .cells #[.int .i64 ((rd_T76 l0 x7_1).f0), .int .i64 ((rd_T76 l0 x7_1).f1), .int .i64 ((rd_T76 l0 x7_1).f2)] 76 (0, 0)) (bx_ BK335) hg (Kd.R_away HO_5.out (fun _ hk => hk.2))); replace HB := Aside0.mk (hb); clear HO_5; clear ho hb hg hat)
      go_roundg kj7
      case measure => have := HK1.out; have := HJ7.out; omega
      case rel => exact ⟨(y348), (x6_1), (wrap64 (x7_1 + 1)), er_, er_, H', ⟨by have := HK1.out; have := HJ7.out; omega⟩, ⟨by (with_reducible repeat (first | apply Kd.R_alloc | apply Kd.R_drewN | apply Kd.R_drew)); exact Kd.R_mono HO350.out (fun _ hk => hk.1)⟩, ⟨bx_ BK327⟩, ⟨bw115_⟩⟩
     rw [if_pos c47] at H
     have c47b0 : (((rd_T76 l0 x7_1).f0) == a1_0) = true := beq_iff_eq.mpr c47
     have c47b1 : (((rd_T76 l0 x7_1).f0) != a1_0) = false := bne_eq_false_iff_eq.mpr c47
     clear c47
     by_cases c48 : ((rd_T76 l0 x7_1).f1) = a1_1
     ·rw [if_pos c48] at H
      have c48b0 : (((rd_T76 l0 x7_1).f1) == a1_1) = true := beq_iff_eq.mpr c48
      have c48b1 : (((rd_T76 l0 x7_1).f1) != a1_1) = false := bne_eq_false_iff_eq.mpr c48
      clear c48
      have H' := Aside0.mk H
      clear H
      have hnb49 := NB335_327.out
      have hnc49 := NB327_335.out
      have hcz50_0 := cz_ BK335 0 (.int .i64 ((rd_T76 l0 x7_1).f0))
      have hcz50_1 := cz_ BK335 1 (.int .i64 ((rd_T76 l0 x7_1).f1))
      have hcz50_2 := cz_ BK335 2 (.int .i64 ((rd_T76 l0 x7_1).f2))
      have hfz50_0 := fz_ BK335 0
      have hfz50_1 := fz_ BK335 1
      have hfz50_2 := fz_ BK335 2
      have hcz51_0 := cz_ BK327 0 (.int .i64 a1_0)
      have hcz51_1 := cz_ BK327 1 (.int .i64 a1_1)
      have hcz51_2 := cz_ BK327 2 (.int .i64 a1_2)
      have hfz51_0 := fz_ BK327 0
      have hfz51_1 := fz_ BK327 1
      have hfz51_2 := fz_ BK327 2
      go_wp2
      go_roundg kj7
      case measure => have := HK1.out; have := HJ7.out; omega
      case rel => exact ⟨(x5_1), (x6_1), (wrap64 (x7_1 + 1)), er_, er_, H', ⟨by have := HK1.out; have := HJ7.out; omega⟩, ⟨by (with_reducible repeat (first | apply Kd.R_alloc | apply Kd.R_drewN | apply Kd.R_drew)); exact Kd.R_mono HO_5.out (fun _ hk => hk.1)⟩, ⟨bx_ BK327⟩, ⟨bw115_⟩⟩
     rw [if_neg c48] at H
     have c48b0 : (((rd_T76 l0 x7_1).f1) == a1_1) = false := beq_eq_false_iff_ne.mpr c48
     have c48b1 : (((rd_T76 l0 x7_1).f1) != a1_1) = true := bne_iff_ne.mpr c48
     by_cases c52 : x5_1.length < 5864062014805
     rotate_left
     ·rw [if_neg c52] at H
      exact absurd H (by simp)
     rw [if_pos c52] at H
     have LMc52 := Aside0.mk c52
     clear c52
     obtain ⟨y345, hy345⟩ : ∃ y_ : List (S76), y_ = (x5_1 ++ [(⟨((rd_T76 l0 x7_1).f0), ((rd_T76 l0 x7_1).f1), ((rd_T76 l0 x7_1).f2)⟩ : S76)]) := ⟨_, rfl⟩
     replace H : (spec_l03Put.l0 kj7 l0 y345 x6_1 (wrap64 (x7_1 + 1)) a1_0 a1_1 a1_2) = some r := by first | (rw [hy345]; with_reducible exact H) | (have H2_ := (Option.bind_some _ _).symm.trans H; rw [hy345]; with_reducible exact H2_) | (have H2_ := (Option.bind_some _ _).symm.trans H; with_reducible exact H2_) | with_reducible exact H | (rw [hy345]; exact H) | exact H
     have Ny345 := Aside0.mk hy345
     clear hy345
     have H' := Aside0.mk H
     clear H
     have hnb53 := NB335_327.out
     have hnc53 := NB327_335.out
     have hcz54_0 := cz_ BK335 0 (.int .i64 ((rd_T76 l0 x7_1).f0))
     have hcz54_1 := cz_ BK335 1 (.int .i64 ((rd_T76 l0 x7_1).f1))
     have hcz54_2 := cz_ BK335 2 (.int .i64 ((rd_T76 l0 x7_1).f2))
     have hfz54_0 := fz_ BK335 0
     have hfz54_1 := fz_ BK335 1
     have hfz54_2 := fz_ BK335 2
     have hcz55_0 := cz_ BK327 0 (.int .i64 a1_0)
     have hcz55_1 := cz_ BK327 1 (.int .i64 a1_1)
     have hcz55_2 := cz_ BK327 2 (.int .i64 a1_2)
     have hfz55_0 := fz_ BK327 0
     have hfz55_1 := fz_ BK327 1
     have hfz55_2 := fz_ BK327 2
     go_wp2_with ((with_reducible refine gate_builtin (b := .append) (xs := #[.tmp 59, .tmp 61]) rfl ?_); at_builtin; refine Kd.R_append k76 (w0 := w) w.heap.size rfl (.tmp 59) (.tmp 61) 28 76 (.agg #[(.int .i64 0), (.int .i64 0), (.int .i64 0)]) 24 rfl Try.underlying28 info76 rfl (by decide) (by omega) u5 x5_1 (⟨((rd_T76 l0 x7_1).f0), ((rd_T76 l0 x7_1).f1), ((rd_T76 l0 x7_1).f2)⟩ : S76) [.int .i64 ((rd_T76 l0 x7_1).f0), .int .i64 ((rd_T76 l0 x7_1).f1), .int .i64 ((rd_T76 l0 x7_1).f2)] (fun k_ => k_ ≠ gb327 ∧ k_ ≠ gb335) (fun _ => False) rfl rfl ?aP (fun _ hk => hk.elim) ?aF ?aO ?aB ?aS ?aL ?_; (case aP => exact k76_mkM _ _ _ (⟨((rd_T76 l0 x7_1).f0), ((rd_T76 l0 x7_1).f1), ((rd_T76 l0 x7_1).f2)⟩ : S76)); (case aB => exact (bw115_)); (case aF => exact (fun k_ hk => ⟨Kd.freshB (g := gb327) (o := .cells #[.int .i64 a1_0, .int .i64 a1_1, .int .i64 a1_2] 76 (0, 0)) (bx_ BK327) k_ hk, Kd.freshB (g := gb335) (o := .cells #[.int .i64 ((rd_T76 l0 x7_1).f0), .int .i64 ((rd_T76 l0 x7_1).f1), .int .i64 ((rd_T76 l0 x7_1).f2)] 76 (0, 0)) (bx_ BK335) k_ hk⟩)); (case aO => exact (hd_ HO_5)); (case aS => exact (bz_ HB)); (case aL => have := LMc52.out; omega); intro v346 w56 ho hb hg hat; rw [← Ny345.out] at ho; have HO347 := Aside0.mk ho; replace BK327 := Aside0.mk (blk_grown (g := gb327) (o := .cells #[.int .i64 a1_0, .int .i64 a1_1, .int .i64 a1_2] 76 (0, 0)) (bx_ BK327) hg (Kd.R_away HO_5.out (fun _ hk => hk.1))); replace BK335 := Aside0.mk (blk_grown (g := gb335) (o := .cells #[.int .i64 ((rd_T76 l0 x7_1).f0), .int .i64 ((rd_T76 l0 x7_1).f1), .int .i64 ((rd_T76 l0 x7_1).f2)] 76 (0, 0)) (bx_ BK335) hg (Kd.R_away HO_5.out (fun _ hk => hk.2))); replace HB := Aside0.mk (hb); clear HO_5; clear ho hb hg hat)
     go_roundg kj7
     case measure => have := HK1.out; have := HJ7.out; omega
     case rel => exact ⟨(y345), (x6_1), (wrap64 (x7_1 + 1)), er_, er_, H', ⟨by have := HK1.out; have := HJ7.out; omega⟩, ⟨by (with_reducible repeat (first | apply Kd.R_alloc | apply Kd.R_drewN | apply Kd.R_drew)); exact Kd.R_mono HO347.out (fun _ hk => hk.1)⟩, ⟨bx_ BK327⟩, ⟨bw115_⟩⟩

end Go.Proofs.Ythmahcohcphljaa.QFnShares
