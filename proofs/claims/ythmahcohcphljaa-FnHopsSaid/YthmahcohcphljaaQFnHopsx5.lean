/- Contracts of functions that the law reaches: what each call returns and what it leaves in memory. Made by this session over the print of the kit. -/
import Derived.Test.YthmahcohcphljaaQFnHopsx0
import Derived.Test.YthmahcohcphljaaQFnHopsx1
import Derived.Test.YthmahcohcphljaaQFnHopsx2
import Derived.Test.YthmahcohcphljaaQFnHopsx3
import Derived.Test.YthmahcohcphljaaQFnHopsx4
namespace Go.Proofs.Ythmahcohcphljaa.QFnHops
open Go.RowKit Go.Proofs.YthmahcohcphljaaP.PrintWords Go.Proofs.YthmahcohcphljaaP.PrintLast Go.Proofs.YthmahcohcphljaaP.PrintMore
attribute [local go_sem] max2_int min2_int max_two min_two max_three min_three max_four min_four   -- for this text's walks alone
set_option linter.unusedVariables false
set_option linter.unusedSimpArgs false

/-! ### impl_Graph_cheapest: function 49 -/
mutual
def impl_Graph_cheapest.l0 : Nat → Int → List (List Int) → List Int → List Int → Int → Int → List (S76) → Option (List Int × Bool)
 | 0, _, _, _, _, _, _, _ => none
 | k + 1, x2, x8, x9, x10, x11, x160000, x160001 => if x11 = x2 then (some (x10, true)) else (impl_Graph_cheapest.l1 k x2 x8 x9 x10 x11 x160001 (x160001.length : Int) 0 x160000 x160001)
def impl_Graph_cheapest.l1 : Nat → Int → List (List Int) → List Int → List Int → Int → List (S76) → Int → Int → Int → List (S76) → Option (List Int × Bool)
 | 0, _, _, _, _, _, _, _, _, _, _ => none
 | k + 1, x2, x8, x9, x10, x11, x35, x36, x37, x160000, x160001 => if x37 < x36 then (if 0 ≤ x37 then (if x37 < (x35.length : Int) then (if ((rd_T76 x35 x37).f0) = x11 then (if 0 ≤ ((rd_T76 x35 x37).f1) then (if ((rd_T76 x35 x37).f1) < (x8.length : Int) then (if 0 ≤ x2 then (if x2 < ((rd_L2 x8 ((rd_T76 x35 x37).f1)).length : Int) then (if 0 ≤ x11 then (if x11 < (x8.length : Int) then (if x2 < ((rd_L2 x8 x11).length : Int) then (if (wrap64 (((rd_T76 x35 x37).f2) + (rd (rd_L2 x8 ((rd_T76 x35 x37).f1)) x2))) = (rd (rd_L2 x8 x11) x2) then (if ((rd_T76 x35 x37).f1) < (x9.length : Int) then (if x11 < (x9.length : Int) then (if (rd x9 ((rd_T76 x35 x37).f1)) = (wrap64 ((rd x9 x11) - 1)) then (if x10.length < 17592186044416 then (impl_Graph_cheapest.l0 k x2 x8 x9 (x10 ++ [(rd_T76 x35 x37).f1]) ((rd_T76 x35 x37).f1) x160000 x160001) else (none)) else (impl_Graph_cheapest.l1 k x2 x8 x9 x10 x11 x35 x36 (wrap64 (x37 + 1)) x160000 x160001)) else (none)) else (none)) else (impl_Graph_cheapest.l1 k x2 x8 x9 x10 x11 x35 x36 (wrap64 (x37 + 1)) x160000 x160001)) else (none)) else (none)) else (none)) else (none)) else (none)) else (none)) else (none)) else (impl_Graph_cheapest.l1 k x2 x8 x9 x10 x11 x35 x36 (wrap64 (x37 + 1)) x160000 x160001)) else (none)) else (none)) else (if x10.length < 17592186044416 then (impl_Graph_cheapest.l0 k x2 x8 x9 (x10 ++ [x11]) x11 x160000 x160001) else (none))
end
def impl_Graph_cheapest.f (k : Nat) (a0_0 : Int) (l0_1 : List (S76)) (a1 : Int) (a2 : Int) : Option (List Int × Bool) := (impl_Graph_all.f k a0_0 l0_1).bind fun t160 => (if 0 ≤ a1 then (if a1 < (t160.length : Int) then (if 0 ≤ a2 then (if a2 < ((rd_L2 t160 a1).length : Int) then (if (rd (rd_L2 t160 a1) a2) = 1000000 then (some (([] : List Int), false)) else ((impl_Graph_steps.f k a0_0 l0_1 a2 t160).bind fun t165 => (impl_Graph_cheapest.l0 k a2 t160 t165 (([a1] : List Int)) a1 a0_0 l0_1))) else (none)) else (none)) else (none)) else (none))
theorem impl_Graph_cheapest.mono_l : ∀ k, (∀ y0 y1 y2 y3 y4 y5 y6, LeO (impl_Graph_cheapest.l0 k y0 y1 y2 y3 y4 y5 y6) (impl_Graph_cheapest.l0 (k + 1) y0 y1 y2 y3 y4 y5 y6)) ∧ (∀ y0 y1 y2 y3 y4 y5 y6 y7 y8 y9, LeO (impl_Graph_cheapest.l1 k y0 y1 y2 y3 y4 y5 y6 y7 y8 y9) (impl_Graph_cheapest.l1 (k + 1) y0 y1 y2 y3 y4 y5 y6 y7 y8 y9))
 | 0 => ⟨fun _ _ _ _ _ _ _ r h => by simp [impl_Graph_cheapest.l0] at h, fun _ _ _ _ _ _ _ _ _ _ r h => by simp [impl_Graph_cheapest.l1] at h⟩
 | k + 1 => by
  obtain ⟨ih0, ih1⟩ := impl_Graph_cheapest.mono_l k
  refine ⟨?_, ?_⟩
  ·intro y0 y1 y2 y3 y4 y5 y6
   unfold impl_Graph_cheapest.l0
   repeat' first
   | (with_reducible exact ih0 _ _ _ _ _ _ _)
   | (with_reducible exact ih1 _ _ _ _ _ _ _ _ _ _)
   | (with_reducible exact impl_Graph_all.mono _ _ _)
   | (with_reducible exact impl_Graph_steps.mono _ _ _ _ _)
   | (with_reducible exact LeO.refl _)
   | (with_reducible exact LeO.none _)
   | (with_reducible refine LeO.ite ?_ ?_)
   | (with_reducible refine LeO.bind ?_ (fun _ => ?_))
   | exact ih0 _ _ _ _ _ _ _
   | exact ih1 _ _ _ _ _ _ _ _ _ _
   | exact impl_Graph_all.mono _ _ _
   | exact impl_Graph_steps.mono _ _ _ _ _
   | exact LeO.none _
   | refine LeO.ite ?_ ?_
   | refine LeO.bind ?_ (fun _ => ?_)
  ·intro y0 y1 y2 y3 y4 y5 y6 y7 y8 y9
   unfold impl_Graph_cheapest.l1
   repeat' first
   | (with_reducible exact ih0 _ _ _ _ _ _ _)
   | (with_reducible exact ih1 _ _ _ _ _ _ _ _ _ _)
   | (with_reducible exact impl_Graph_all.mono _ _ _)
   | (with_reducible exact impl_Graph_steps.mono _ _ _ _ _)
   | (with_reducible exact LeO.refl _)
   | (with_reducible exact LeO.none _)
   | (with_reducible refine LeO.ite ?_ ?_)
   | (with_reducible refine LeO.bind ?_ (fun _ => ?_))
   | exact ih0 _ _ _ _ _ _ _
   | exact ih1 _ _ _ _ _ _ _ _ _ _
   | exact impl_Graph_all.mono _ _ _
   | exact impl_Graph_steps.mono _ _ _ _ _
   | exact LeO.none _
   | refine LeO.ite ?_ ?_
   | refine LeO.bind ?_ (fun _ => ?_)
theorem impl_Graph_cheapest.mono : ∀ a0 a1 a2 a3 k, LeO (impl_Graph_cheapest.f k a0 a1 a2 a3) (impl_Graph_cheapest.f (k + 1) a0 a1 a2 a3) := by
 intro a0 a1 a2 a3 k
 obtain ⟨ih0, ih1⟩ := impl_Graph_cheapest.mono_l k
 unfold impl_Graph_cheapest.f
 repeat' first
   | (with_reducible exact ih0 _ _ _ _ _ _ _)
   | (with_reducible exact ih1 _ _ _ _ _ _ _ _ _ _)
   | (with_reducible exact impl_Graph_all.mono _ _ _)
   | (with_reducible exact impl_Graph_steps.mono _ _ _ _ _)
   | (with_reducible exact LeO.refl _)
   | (with_reducible exact LeO.none _)
   | (with_reducible refine LeO.ite ?_ ?_)
   | (with_reducible refine LeO.bind ?_ (fun _ => ?_))
   | exact ih0 _ _ _ _ _ _ _
   | exact ih1 _ _ _ _ _ _ _ _ _ _
   | exact impl_Graph_all.mono _ _ _
   | exact impl_Graph_steps.mono _ _ _ _ _
   | exact LeO.none _
   | refine LeO.ite ?_ ?_
   | refine LeO.bind ?_ (fun _ => ?_)
set_option maxHeartbeats 8000000 in
set_option maxRecDepth 100000 in
theorem impl_Graph_cheapest.calls (k : Nat) (a0_0 : Int) (A0_1 : Option Addr) (c0_1 : Nat) (l0_1 : List (S76)) (a1 : Int) (a2 : Int) (r1 : List Int) (r2 : Bool) (w : World) (hr0_1 : Kd.C k76 w A0_1 l0_1.length l0_1) (hc0_1 : l0_1.length ≤ c0_1) (h : impl_Graph_cheapest.f k a0_0 l0_1 a1 a2 = some (r1, r2)) :
  Calls Try.prog 49 #[.agg #[.int .i64 a0_0, .slice A0_1 l0_1.length c0_1], .int .i64 a1, .int .i64 a2] w fun e w' => ∃ v0_ : Value, e = .returned (.tuple #[v0_, .bool r2]) ∧ Kd.R (Kd.int .i64) 3 w' w.heap.size (fun _ => True) v0_ r1 ∧ Below w.heap.size w w' := by
 have hu30 := Try.underlying30
 have hu76 := Try.underlying76
 have HR0_1 := Aside0.mk hr0_1
 have HC0_1 := Aside0.mk hc0_1
 clear hr0_1 hc0_1
 have HB := Aside0.mk (Below.refl w.heap.size w)
 have H : ((impl_Graph_all.f k a0_0 l0_1).bind fun t160 => (if 0 ≤ a1 then (if a1 < (t160.length : Int) then (if 0 ≤ a2 then (if a2 < ((rd_L2 t160 a1).length : Int) then (if (rd (rd_L2 t160 a1) a2) = 1000000 then (some (([] : List Int), false)) else ((impl_Graph_steps.f k a0_0 l0_1 a2 t160).bind fun t165 => (impl_Graph_cheapest.l0 k a2 t160 t165 (([a1] : List Int)) a1 a0_0 l0_1))) else (none)) else (none)) else (none)) else (none))) = some (r1, r2) := h
 clear h
 replace H := Option.bind_eq_some_iff.mp H
 obtain ⟨t160, A40, H⟩ := H
 have A4 := Aside0.mk A40
 clear A40
 by_cases c5 : 0 ≤ a1
 rotate_left
 ·rw [if_neg c5] at H
  exact absurd H (by simp)
 rw [if_pos c5] at H
 have c5b0 : decide (0 ≤ a1) = true := decide_eq_true c5
 clear c5
 by_cases c6 : a1 < (t160.length : Int)
 rotate_left
 ·rw [if_neg c6] at H
  exact absurd H (by simp)
 rw [if_pos c6] at H
 have c6b0 : decide (a1 < (t160.length : Int)) = true := decide_eq_true c6
 clear c6
 by_cases c7 : 0 ≤ a2
 rotate_left
 ·rw [if_neg c7] at H
  exact absurd H (by simp)
 rw [if_pos c7] at H
 have c7b0 : decide (0 ≤ a2) = true := decide_eq_true c7
 clear c7
 by_cases c8 : a2 < ((rd_L2 t160 a1).length : Int)
 rotate_left
 ·rw [if_neg c8] at H
  exact absurd H (by simp)
 rw [if_pos c8] at H
 have c8b0 : decide (a2 < ((rd_L2 t160 a1).length : Int)) = true := decide_eq_true c8
 clear c8
 by_cases c9 : (rd (rd_L2 t160 a1) a2) = 1000000
 ·rw [if_pos c9] at H
  have c9b0 : ((rd (rd_L2 t160 a1) a2) == 1000000) = true := beq_iff_eq.mpr c9
  have c9b1 : ((rd (rd_L2 t160 a1) a2) != 1000000) = false := bne_eq_false_iff_eq.mpr c9
  clear c9
  simp only [Option.some.injEq, Prod.mk.injEq] at H
  obtain ⟨rfl, rfl⟩ := H
  go_enter Try.func49, Try.ntmps49
  go_wp2_with (first | ((with_reducible refine gate_dst (N := 3) rfl ?_); refine box_event ?hg (N := 3) ?hd (cs := #[.int .i64 a0_0, .slice A0_1 l0_1.length c0_1]) (t := 30) ?hr ?_; (case hd => rfl); (case hg => rfl); (case hr => first | (go_simp; done) | (go_simp; rfl)); intro gb159 hg w10 hbox hb; have BK159 := Aside0.mk hbox; have GW159 := ge_ HB hg; have GE159 := ge_ HB hg; replace HB := at_ HB hb; clear hb hbox hg; have hcz11_0 := cz_ BK159 0 (.int .i64 a0_0); have hcz11_1 := cz_ BK159 1 (.slice A0_1 l0_1.length c0_1); have hfz11_0 := blk_frozen BK159.out 0; have hfz11_1 := blk_frozen BK159.out 1) | (go_at_call 55; (with_reducible refine (impl_Graph_all.calls k a0_0 _ _ l0_1 t160 _ ?side1 ?side2 A4.out).mono ?_); (case side1 => exact cb_ HR0_1 HB); (case side2 => exact HC0_1.out); rintro e w12 ⟨v161, rfl, ho0, hb⟩; have HO162 := Aside0.mk (Kd.S_lower ho0 (bz_ HB)); replace BK159 := ab_ BK159 hb; replace HB := at_ HB hb; (try clear hb); (try clear hb2); (try clear hk); (try clear hi); (try clear ho0); obtain ⟨Ao13, co13, eo13⟩ := Kd.S_slice HO162.out; subst eo13; have p163 : 0 ≤ (a1 : Int) := of_decide_eq_true (by first | (with_reducible assumption) | assumption); have q163 : a1 < (t160.length : Int) := of_decide_eq_true (by first | (with_reducible assumption) | assumption); obtain ⟨ad163, A163_0, c163_0, e163, hx163_0, hl163_0, hi163_0⟩ := at_L2 (Kd.S_reads' HO162.out).2.2 a1 p163 q163; cases e163; obtain ⟨ce163, hce163, hMe163, hcc163⟩ := Kd.S_get HO162.out [] a1 p163 (by first | exact q163 | exact of_decide_eq_true (by first | (with_reducible assumption) | assumption) | (have e_ := (Kd.S_reads' HO162.out).1; omega)); obtain ⟨ve163_0, rfl, ge163_0⟩ := hMe163; have hv163_0 := hcc163 0 _ rfl; rw [Nat.add_zero, show ((Kd.slice 3 (Kd.int .i64))).sz = 1 from rfl, Nat.mul_one] at hv163_0; replace hv163_0 := Option.some.inj (hv163_0.symm.trans hx163_0); rw [hv163_0] at ge163_0; have HL163_0 := Aside0.mk (show Kd.R (Kd.int .i64) 3 _ _ _ _ (rd_L2 t160 a1) from ge163_0); clear hv163_0 ge163_0; clear hcc163 hce163; have HR163_0 := Aside0.mk hi163_0; have HC163_0 := Aside0.mk hl163_0; clear hi163_0 hl163_0; replace p163 := eq_true p163; replace q163 := eq_true q163; have p164 : 0 ≤ (a2 : Int) := of_decide_eq_true (by first | (with_reducible assumption) | assumption); have q164 : a2 < ((rd_L2 t160 a1).length : Int) := of_decide_eq_true (by first | (with_reducible assumption) | assumption); obtain ⟨ad164, e164, hx164_0⟩ := Kd.at_int (by repeat (first | (with_reducible exact HR163_0.out) | (with_reducible refine Kd.C_alloc ?_ _) | (with_reducible refine Kd.C_drewN ?_ _) | (with_reducible refine Kd.C_drew ?_) | exact HR163_0.out)) a2 p164 q164; cases e164; replace p164 := eq_true p164; replace q164 := eq_true q164))
  go_ret2
  exact ⟨_, by first | rfl | (simp [errW_none, errW_some] <;> rfl) | (simp [*, errW_none, errW_some] <;> rfl), by first | exact Kd.R_nil _ _ _ _ _ | exact Kd.N_nil _ _ _ _ _ | exact Kd.V_nil _ _ _ _ _ | exact Kd.Q_nil _ _ _ _ _ | exact Kd.S_nil _ _ _ _ _, bw_⟩
 rw [if_neg c9] at H
 have c9b0 : ((rd (rd_L2 t160 a1) a2) == 1000000) = false := beq_eq_false_iff_ne.mpr c9
 have c9b1 : ((rd (rd_L2 t160 a1) a2) != 1000000) = true := bne_iff_ne.mpr c9
 replace H := Option.bind_eq_some_iff.mp H
 obtain ⟨t165, A140, H⟩ := H
 have A14 := Aside0.mk A140
 clear A140
 obtain ⟨y168, hy168⟩ : ∃ y_ : List Int, y_ = (([a1] : List Int)) := ⟨_, rfl⟩
 replace H : (impl_Graph_cheapest.l0 k a2 t160 t165 y168 a1 a0_0 l0_1) = some (r1, r2) := by first | (rw [hy168]; with_reducible exact H) | (have H2_ := (Option.bind_some _ _).symm.trans H; rw [hy168]; with_reducible exact H2_) | (have H2_ := (Option.bind_some _ _).symm.trans H; with_reducible exact H2_) | with_reducible exact H | (rw [hy168]; exact H) | exact H
 have Ny168 := Aside0.mk hy168
 clear hy168
 have H' := Aside0.mk H
 clear H
 go_enter Try.func49, Try.ntmps49
 go_wp2_with (first | ((with_reducible refine gate_dst (N := 3) rfl ?_); refine box_event ?hg (N := 3) ?hd (cs := #[.int .i64 a0_0, .slice A0_1 l0_1.length c0_1]) (t := 30) ?hr ?_; (case hd => rfl); (case hg => rfl); (case hr => first | (go_simp; done) | (go_simp; rfl)); intro gb159 hg w15 hbox hb; have BK159 := Aside0.mk hbox; have GW159 := ge_ HB hg; have GE159 := ge_ HB hg; replace HB := at_ HB hb; clear hb hbox hg; have hcz16_0 := cz_ BK159 0 (.int .i64 a0_0); have hcz16_1 := cz_ BK159 1 (.slice A0_1 l0_1.length c0_1); have hfz16_0 := blk_frozen BK159.out 0; have hfz16_1 := blk_frozen BK159.out 1) | (go_at_call 55; (with_reducible refine (impl_Graph_all.calls k a0_0 _ _ l0_1 t160 _ ?side1 ?side2 A4.out).mono ?_); (case side1 => exact cb_ HR0_1 HB); (case side2 => exact HC0_1.out); rintro e w17 ⟨v161, rfl, ho0, hb⟩; have HO162 := Aside0.mk (Kd.S_lower ho0 (bz_ HB)); replace BK159 := ab_ BK159 hb; replace HB := at_ HB hb; (try clear hb); (try clear hb2); (try clear hk); (try clear hi); (try clear ho0); obtain ⟨Ao18, co18, eo18⟩ := Kd.S_slice HO162.out; subst eo18; have p163 : 0 ≤ (a1 : Int) := of_decide_eq_true (by first | (with_reducible assumption) | assumption); have q163 : a1 < (t160.length : Int) := of_decide_eq_true (by first | (with_reducible assumption) | assumption); obtain ⟨ad163, A163_0, c163_0, e163, hx163_0, hl163_0, hi163_0⟩ := at_L2 (Kd.S_reads' HO162.out).2.2 a1 p163 q163; cases e163; obtain ⟨ce163, hce163, hMe163, hcc163⟩ := Kd.S_get HO162.out [] a1 p163 (by first | exact q163 | exact of_decide_eq_true (by first | (with_reducible assumption) | assumption) | (have e_ := (Kd.S_reads' HO162.out).1; omega)); obtain ⟨ve163_0, rfl, ge163_0⟩ := hMe163; have hv163_0 := hcc163 0 _ rfl; rw [Nat.add_zero, show ((Kd.slice 3 (Kd.int .i64))).sz = 1 from rfl, Nat.mul_one] at hv163_0; replace hv163_0 := Option.some.inj (hv163_0.symm.trans hx163_0); rw [hv163_0] at ge163_0; have HL163_0 := Aside0.mk (show Kd.R (Kd.int .i64) 3 _ _ _ _ (rd_L2 t160 a1) from ge163_0); clear hv163_0 ge163_0; clear hcc163 hce163; have HR163_0 := Aside0.mk hi163_0; have HC163_0 := Aside0.mk hl163_0; clear hi163_0 hl163_0; replace p163 := eq_true p163; replace q163 := eq_true q163; have p164 : 0 ≤ (a2 : Int) := of_decide_eq_true (by first | (with_reducible assumption) | assumption); have q164 : a2 < ((rd_L2 t160 a1).length : Int) := of_decide_eq_true (by first | (with_reducible assumption) | assumption); obtain ⟨ad164, e164, hx164_0⟩ := Kd.at_int (by repeat (first | (with_reducible exact HR163_0.out) | (with_reducible refine Kd.C_alloc ?_ _) | (with_reducible refine Kd.C_drewN ?_ _) | (with_reducible refine Kd.C_drew ?_) | exact HR163_0.out)) a2 p164 q164; cases e164; replace p164 := eq_true p164; replace q164 := eq_true q164; have hcz19_0 := cz_ BK159 0 (.int .i64 a0_0); have hcz19_1 := cz_ BK159 1 (.slice A0_1 l0_1.length c0_1); have hfz19_0 := blk_frozen BK159.out 0; have hfz19_1 := blk_frozen BK159.out 1) | (go_at_call 77; (with_reducible refine (impl_Graph_steps.calls k a0_0 _ _ l0_1 a2 _ _ t160 t165 _ ?side1 ?side2 ?side3 ?side4 A14.out).mono ?_); (case side1 => exact cb_ HR0_1 HB); (case side2 => exact HC0_1.out); (case side3 => repeat (first | exact (Kd.S_reads' HO162.out).2.2 | (with_reducible refine Kd.C_alloc ?_ _) | (with_reducible refine Kd.C_drewN ?_ _) | (with_reducible refine Kd.C_drew ?_))); (case side4 => exact (Kd.S_reads' HO162.out).2.1); rintro e w20 ⟨v166, rfl, ho0, hb⟩; have HO167 := Aside0.mk (Kd.R_lower (Kd.R_new' ho0 (Kd.R_lt (by (with_reducible repeat (first | apply Kd.R_alloc | apply Kd.R_drewN | apply Kd.R_drew)); exact HL163_0.out))) (bz_ HB)); replace HO162 := Aside0.mk (Kd.S_elder' (by (with_reducible repeat (first | apply Kd.S_alloc | apply Kd.S_drewN | apply Kd.S_drew)); exact HO162.out) (Kd.R_base ho0) hb); replace HL163_0 := Aside0.mk (Kd.R_elder' (by (with_reducible repeat (first | apply Kd.R_alloc | apply Kd.R_drewN | apply Kd.R_drew)); exact HL163_0.out) (Kd.R_base ho0) hb); replace BK159 := ab_ BK159 hb; replace HR163_0 := Aside0.mk (Kd.C_below (by repeat (first | (with_reducible exact HR163_0.out) | (with_reducible refine Kd.C_alloc ?_ _) | (with_reducible refine Kd.C_drewN ?_ _) | (with_reducible refine Kd.C_drew ?_) | exact HR163_0.out)) hb); replace HB := at_ HB hb; (try clear hb); (try clear hb2); (try clear hk); (try clear hi); (try clear ho0)) | ((with_reducible refine gate_dst (N := 29) rfl ?_); refine Kd.R_lit (Kd.int .i64) _ 3 ?hg (N := 29) ?hd (xs := ([a1] : List Int)) (inner := [.int .i64 a1]) (ok := fun _ => True) (okp := fun _ => True) ?hr ?hp (fun _ hk => hk) trivial (Below.refl _ _) (Nat.le_refl _) (by simp) ?_; (case hd => rfl); (case hg => rfl); (case hr => first | (go_simp; done) | (go_simp; rfl)); (case hp => exact (Reps.one (show Kd.M (Kd.int .i64) _ _ _ a1 [.int .i64 a1] from rfl) (Reps.none _ _))); intro v169 w21 ho22 hb hg_ hnew_; clear hg_ hnew_; (first | rw [← Ny168.out] at ho22 | (simp only [Int.reduceToNat] at ho22; rw [← Ny168.out] at ho22)); have HO170 := Aside0.mk (Kd.R_lower (Kd.R_new' (Kd.R_new' ho22 (Kd.R_lt (by (with_reducible repeat (first | apply Kd.R_alloc | apply Kd.R_drewN | apply Kd.R_drew)); exact HL163_0.out))) (Kd.R_lt (hd_ HO167))) (bz_ HB)); replace HO162 := Aside0.mk (Kd.S_elder' (by (with_reducible repeat (first | apply Kd.S_alloc | apply Kd.S_drewN | apply Kd.S_drew)); exact HO162.out) (Kd.R_base ho22) hb); replace HL163_0 := Aside0.mk (Kd.R_elder' (by (with_reducible repeat (first | apply Kd.R_alloc | apply Kd.R_drewN | apply Kd.R_drew)); exact HL163_0.out) (Kd.R_base ho22) hb); replace HO167 := Aside0.mk (Kd.R_elder' (hd_ HO167) (Kd.R_base ho22) hb); replace BK159 := ab_ BK159 hb; replace HR163_0 := Aside0.mk (Kd.C_below (by repeat (first | (with_reducible exact HR163_0.out) | (with_reducible refine Kd.C_alloc ?_ _) | (with_reducible refine Kd.C_drewN ?_ _) | (with_reducible refine Kd.C_drew ?_) | exact HR163_0.out)) hb); replace HB := at_ HB hb; clear hb ho22))
 go_loopg [10, 11] k (fun kq v10 v11 w' => ∃ (x10_1 : List Int) (x11_1 : Int), v11 = .int .i64 x11_1 ∧ Aside0 (impl_Graph_cheapest.l0 kq a2 t160 t165 x10_1 x11_1 a0_0 l0_1 = some (r1, r2)) ∧ Aside0 (kq ≤ k) ∧ Aside0 (Kd.S (Kd.slice 3 (Kd.int .i64)) 26 w' w.heap.size (fun k_ => some k_ ≠ (v166 : Value).ownBlock ∧ some k_ ≠ (v10 : Value).ownBlock) (.slice (some ad163) t160.length co18) t160) ∧ Aside0 (Kd.R (Kd.int .i64) 3 w' w.heap.size (fun k_ => some k_ ≠ (v10 : Value).ownBlock) v166 t165) ∧ Aside0 (Kd.R (Kd.int .i64) 3 w' w.heap.size (fun k_ => some k_ ≠ (v166 : Value).ownBlock) v10 x10_1) ∧ Aside0 (w'.heap[gb159]? = some (.cells #[.int .i64 a0_0, (.slice A0_1 l0_1.length c0_1)] 30 (0, 0))) ∧ Aside0 (Below w.heap.size w w'))
 case atStart => exact ⟨(y168), (a1), (by first | rfl | (simp; done) | (simp [*]; done)), H', ⟨Nat.le_refl _⟩, ⟨by (with_reducible repeat (first | apply Kd.S_alloc | apply Kd.S_drewN | apply Kd.S_drew)); exact Kd.S_mono HO162.out (fun _ hk => by first | exact ⟨hk.1.2, hk.2⟩ | grind)⟩, ⟨by (with_reducible repeat (first | apply Kd.R_alloc | apply Kd.R_drewN | apply Kd.R_drew)); exact Kd.R_mono HO167.out (fun _ hk => hk.2)⟩, ⟨by (with_reducible repeat (first | apply Kd.R_alloc | apply Kd.R_drewN | apply Kd.R_drew)); exact Kd.R_mono HO170.out (fun _ hk => hk.2)⟩, ⟨bx_ BK159⟩, ⟨bw_⟩⟩
 case round =>
  clear H'
  try clear c1
  try clear p1
  try clear q1
  try clear hx1
  try clear p2
  try clear c4
  try clear c5
  try clear c5b0
  try clear c6
  try clear c6b0
  try clear c7
  try clear c7b0
  try clear c8
  try clear c8b0
  try clear c9
  try clear c9b0
  try clear c9b1
  try clear c16
  try clear p16
  try clear q16
  try clear hx16
  try clear hcz11_0
  try clear hcz11_1
  try clear hcz16_0
  try clear hcz16_1
  try clear hcz19_0
  try clear hcz19_1
  try clear hfz11_0
  try clear hfz11_1
  try clear hfz16_0
  try clear hfz16_1
  try clear hfz19_0
  try clear hfz19_1
  try clear hx163_0
  try clear hx164_0
  try clear p163
  try clear p164
  try clear q163
  try clear q164
  obtain ⟨x10_1, x11_1, rfl, HA, HK1, HO_8, HO_9, HO_10, BK159, HB⟩ := hrel
  cases gk with
  | zero => exact absurd HA.out (by simp [impl_Graph_cheapest.l0])
  | succ k1 =>
   have H := HA.out
   clear HA
   simp only [impl_Graph_cheapest.l0] at H
   by_cases c23 : x11_1 = a2
   ·rw [if_pos c23] at H
    have c23b0 : (x11_1 == a2) = true := beq_iff_eq.mpr c23
    have c23b1 : (x11_1 != a2) = false := bne_eq_false_iff_eq.mpr c23
    clear c23
    simp only [Option.some.injEq, Prod.mk.injEq] at H
    obtain ⟨rfl, rfl⟩ := H
    go_wp2
    repeat (go_quiet (fail); try go_wp2)
    go_ret2
    exact ⟨_, by first | rfl | (simp [errW_none, errW_some] <;> rfl) | (simp [*, errW_none, errW_some] <;> rfl), by (with_reducible repeat (first | apply Kd.R_alloc | apply Kd.R_drewN | apply Kd.R_drew)); exact Kd.R_mono HO_10.out (fun _ hk => trivial), bw_⟩
   rw [if_neg c23] at H
   have c23b0 : (x11_1 == a2) = false := beq_eq_false_iff_ne.mpr c23
   have c23b1 : (x11_1 != a2) = true := bne_iff_ne.mpr c23
   have H' := Aside0.mk H
   clear H
   have hcz24_0 := cz_ BK159 0 (.int .i64 a0_0)
   have hcz24_1 := cz_ BK159 1 (.slice A0_1 l0_1.length c0_1)
   have hfz24_0 := blk_frozen BK159.out 0
   have hfz24_1 := blk_frozen BK159.out 1
   go_wp2
   repeat (go_quiet (fail); try go_wp2)
   go_loopg [11, 37] k1 (fun kq v11 v37 w' => ∃ (x11_2 : Int) (x37_2 : Int), v11 = .int .i64 x11_2 ∧ v37 = .int .i64 x37_2 ∧ Aside0 (impl_Graph_cheapest.l1 kq a2 t160 t165 x10_1 x11_2 l0_1 (l0_1.length : Int) x37_2 a0_0 l0_1 = some (r1, r2)) ∧ Aside0 (kq ≤ k1) ∧ Aside0 (Kd.S (Kd.slice 3 (Kd.int .i64)) 26 w' w.heap.size (fun k_ => some k_ ≠ (v166 : Value).ownBlock ∧ some k_ ≠ (u10 : Value).ownBlock) (.slice (some ad163) t160.length co18) t160) ∧ Aside0 (Kd.R (Kd.int .i64) 3 w' w.heap.size (fun k_ => some k_ ≠ (u10 : Value).ownBlock) v166 t165) ∧ Aside0 (Kd.R (Kd.int .i64) 3 w' w.heap.size (fun k_ => some k_ ≠ (v166 : Value).ownBlock) u10 x10_1) ∧ Aside0 (w'.heap[gb159]? = some (.cells #[.int .i64 a0_0, (.slice A0_1 l0_1.length c0_1)] 30 (0, 0))) ∧ Aside0 (Below w.heap.size w w'))
   case atStart => exact ⟨(x11_1), (0), (by first | rfl | (simp; done) | (simp [*]; done)), (by first | rfl | (simp; done) | (simp [*]; done)), H', ⟨Nat.le_refl _⟩, ⟨by (with_reducible repeat (first | apply Kd.S_alloc | apply Kd.S_drewN | apply Kd.S_drew)); exact HO_8.out⟩, ⟨by (with_reducible repeat (first | apply Kd.R_alloc | apply Kd.R_drewN | apply Kd.R_drew)); exact HO_9.out⟩, ⟨by (with_reducible repeat (first | apply Kd.R_alloc | apply Kd.R_drewN | apply Kd.R_drew)); exact HO_10.out⟩, ⟨bx_ BK159⟩, ⟨bw_⟩⟩
   case round =>
    clear H'
    try clear c1
    try clear p1
    try clear q1
    try clear hx1
    try clear c2
    try clear p2
    try clear c4
    try clear c5
    try clear c5b0
    try clear c6
    try clear c6b0
    try clear c7
    try clear c7b0
    try clear c8
    try clear c8b0
    try clear c9
    try clear c9b0
    try clear c9b1
    try clear c16
    try clear p16
    try clear q16
    try clear hx16
    try clear c23
    try clear c23b0
    try clear c23b1
    try clear hcz11_0
    try clear hcz11_1
    try clear hcz16_0
    try clear hcz16_1
    try clear hcz19_0
    try clear hcz19_1
    try clear hcz24_0
    try clear hcz24_1
    try clear hfz11_0
    try clear hfz11_1
    try clear hfz16_0
    try clear hfz16_1
    try clear hfz19_0
    try clear hfz19_1
    try clear hfz24_0
    try clear hfz24_1
    try clear hx163_0
    try clear hx164_0
    try clear p1
    try clear p16
    try clear p163
    try clear p164
    try clear p2
    try clear q1
    try clear q16
    try clear q163
    try clear q164
    obtain ⟨x11_2, x37_2, rfl, rfl, HA, HK2, HO_8, HO_9, HO_10, BK159, HB⟩ := hrel
    cases gk with
    | zero => exact absurd HA.out (by simp [impl_Graph_cheapest.l1])
    | succ k2 =>
     have H := HA.out
     clear HA
     simp only [impl_Graph_cheapest.l1] at H
     by_cases c25 : x37_2 < (l0_1.length : Int)
     rotate_left
     ·rw [if_neg c25] at H
      have c25b0 : decide (x37_2 < (l0_1.length : Int)) = false := decide_eq_false c25
      clear c25
      by_cases c62 : x10_1.length < 17592186044416
      rotate_left
      ·rw [if_neg c62] at H
       exact absurd H (by simp)
      rw [if_pos c62] at H
      have LMc62 := Aside0.mk c62
      clear c62
      obtain ⟨y182, hy182⟩ : ∃ y_ : List Int, y_ = (x10_1 ++ [x11_2]) := ⟨_, rfl⟩
      replace H : (impl_Graph_cheapest.l0 k2 a2 t160 t165 y182 x11_2 a0_0 l0_1) = some (r1, r2) := by first | (rw [hy182]; with_reducible exact H) | (have H2_ := (Option.bind_some _ _).symm.trans H; rw [hy182]; with_reducible exact H2_) | (have H2_ := (Option.bind_some _ _).symm.trans H; with_reducible exact H2_) | with_reducible exact H | (rw [hy182]; exact H) | exact H
      have Ny182 := Aside0.mk hy182
      clear hy182
      have H' := Aside0.mk H
      clear H
      go_wp2_with ((with_reducible refine gate_builtin (b := .append) (xs := #[.tmp 82, .tmp 84]) rfl ?_); at_builtin; refine Kd.R_append (Kd.int .i64) (w0 := w) w.heap.size rfl (.tmp 82) (.tmp 84) 26 3 (.int .i64 0) 8 rfl Try.underlying26 info3 rfl (by decide) (by omega) u10 x10_1 x11_2 [.int .i64 x11_2] (fun k_ => some k_ ≠ (v166 : Value).ownBlock) (fun _ => False) rfl rfl ?aP (fun _ hk => hk.elim) ?aF ?aO ?aB ?aS ?aL ?_; (case aP => exact rfl); (case aB => exact (bw_)); (case aF => exact (fun k_ hk => Kd.fresh' (Kd.R_lt (hd_ HO_9)) k_ hk)); (case aO => exact (hd_ HO_10)); (case aS => exact (bz_ HB)); (case aL => have := LMc62.out; omega); intro v183 w63 ho hb hg hat; rw [← Ny182.out] at ho; have HO184 := Aside0.mk ho; replace HO_8 := Aside0.mk (Kd.S_after (ok := (fun k_ => some k_ ≠ (v166 : Value).ownBlock)) (by (with_reducible repeat (first | apply Kd.S_alloc | apply Kd.S_drewN | apply Kd.S_drew)); exact HO_8.out) hg hat); replace HO_9 := Aside0.mk (Kd.R_after (ok := (fun _ => True)) (by (with_reducible repeat (first | apply Kd.R_alloc | apply Kd.R_drewN | apply Kd.R_drew)); exact Kd.R_mono HO_9.out (fun _ hk => by first | exact ⟨trivial, hk⟩ | grind)) hg hat); replace BK159 := Aside0.mk (blk_grown (g := gb159) (o := .cells #[.int .i64 a0_0, .slice A0_1 l0_1.length c0_1] 30 (0, 0)) (bx_ BK159) hg (Kd.R_ne HO_10.out BK159.out (by decide))); replace HB := Aside0.mk (hb); clear HO_10; clear ho hb hg hat)
      go_roundg k2
      case measure => have := HK1.out; have := HK2.out; omega
      case rel => exact ⟨(y182), (x11_2), (by first | rfl | (simp; done) | (simp [*]; done)), H', ⟨by have := HK1.out; have := HK2.out; omega⟩, ⟨by (with_reducible repeat (first | apply Kd.S_alloc | apply Kd.S_drewN | apply Kd.S_drew)); exact HO_8.out⟩, ⟨by (with_reducible repeat (first | apply Kd.R_alloc | apply Kd.R_drewN | apply Kd.R_drew)); exact Kd.R_mono HO_9.out (fun _ hk => hk.2)⟩, ⟨by (with_reducible repeat (first | apply Kd.R_alloc | apply Kd.R_drewN | apply Kd.R_drew)); exact HO184.out⟩, ⟨bx_ BK159⟩, ⟨bw_⟩⟩
     rw [if_pos c25] at H
     have c25b0 : decide (x37_2 < (l0_1.length : Int)) = true := decide_eq_true c25
     clear c25
     by_cases c26 : 0 ≤ x37_2
     rotate_left
     ·rw [if_neg c26] at H
      exact absurd H (by simp)
     rw [if_pos c26] at H
     have c26b0 : decide (0 ≤ x37_2) = true := decide_eq_true c26
     clear c26
     by_cases c27 : x37_2 < (l0_1.length : Int)
     rotate_left
     ·rw [if_neg c27] at H
      exact absurd H (by simp)
     rw [if_pos c27] at H
     have c27b0 : decide (x37_2 < (l0_1.length : Int)) = true := decide_eq_true c27
     clear c27
     by_cases c28 : ((rd_T76 l0_1 x37_2).f0) = x11_2
     rotate_left
     ·rw [if_neg c28] at H
      have c28b0 : (((rd_T76 l0_1 x37_2).f0) == x11_2) = false := beq_eq_false_iff_ne.mpr c28
      have c28b1 : (((rd_T76 l0_1 x37_2).f0) != x11_2) = true := bne_iff_ne.mpr c28
      have H' := Aside0.mk H
      clear H
      have p171 : 0 ≤ (x37_2 : Int) := of_decide_eq_true (by first | (with_reducible assumption) | assumption)
      have q171 : x37_2 < (l0_1.length : Int) := of_decide_eq_true (by first | (with_reducible assumption) | assumption)
      obtain ⟨ad171, e171, hx171_0, hx171_1, hx171_2⟩ := at_T76 HR0_1.out x37_2 p171 q171
      cases e171
      replace hx171_0 := (HB.out.cell (World.block_lt_of_cell? w _ hx171_0)).trans hx171_0
      replace hx171_1 := (HB.out.cell (World.block_lt_of_cell? w _ hx171_1)).trans hx171_1
      replace hx171_2 := (HB.out.cell (World.block_lt_of_cell? w _ hx171_2)).trans hx171_2
      replace p171 := eq_true p171
      replace q171 := eq_true q171
      go_wp2_with ((with_reducible refine gate_dst (N := 13) rfl ?_); refine box_event ?hg (N := 13) ?hd (cs := #[.int .i64 0, .int .i64 0, .int .i64 0]) (t := 76) ?hr ?_; (case hd => rfl); (case hg => rfl); (case hr => first | (go_simp; done) | (go_simp; rfl)); intro gb172 hg w59 hbox hb; have BK172 := Aside0.mk hbox; have GW172 := ge_ HB hg; have GE172 := ge_ HB hg; have NB159_172 := nl_ BK159 hg; have NB172_159 := ng_ BK159 hg; replace HO_8 := Aside0.mk (Kd.S_below (by (with_reducible repeat (first | apply Kd.S_alloc | apply Kd.S_drewN | apply Kd.S_drew)); exact HO_8.out) hb); replace HO_9 := rb_ HO_9 hb; replace HO_10 := rb_ HO_10 hb; replace HB := at_ HB hb; replace BK159 := ab_ BK159 hb; clear hb hbox hg; have hnb60 := NB172_159.out; have hnc60 := NB159_172.out; have hcz61_0 := cz_ BK172 0 (.int .i64 0); have hcz61_1 := cz_ BK172 1 (.int .i64 0); have hcz61_2 := cz_ BK172 2 (.int .i64 0); have hfz61_0 := blk_frozen BK172.out 0; have hfz61_1 := blk_frozen BK172.out 1; have hfz61_2 := blk_frozen BK172.out 2)
      repeat (go_quiet (fail); try go_wp2_with (fail))
      go_roundg k2
      case measure => have := HK1.out; have := HK2.out; omega
      case rel => exact ⟨(x11_2), (wrap64 (x37_2 + 1)), (by first | rfl | (simp; done) | (simp [*]; done)), (by first | rfl | (simp; done) | (simp [*]; done)), H', ⟨by have := HK1.out; have := HK2.out; omega⟩, ⟨by (with_reducible repeat (first | apply Kd.S_alloc | apply Kd.S_drewN | apply Kd.S_drew)); exact Kd.S_mono (Kd.S_far (p := ⟨gb172, 2, none⟩) (Kd.S_far (p := ⟨gb172, 1, none⟩) (Kd.S_far (p := ⟨gb172, 0, none⟩) (Kd.S_types HO_8.out BK172.out (by decide)) (fun _ hk => hk.2) (.int .i64 ((rd_T76 l0_1 x37_2).f0))) (fun _ hk => hk.2) (.int .i64 ((rd_T76 l0_1 x37_2).f1))) (fun _ hk => hk.2) (.int .i64 ((rd_T76 l0_1 x37_2).f2))) (fun _ hk => by first | exact ⟨hk.1.1, hk.1.2⟩ | grind)⟩, ⟨by (with_reducible repeat (first | apply Kd.R_alloc | apply Kd.R_drewN | apply Kd.R_drew)); exact Kd.R_mono (Kd.R_far (p := ⟨gb172, 2, none⟩) (Kd.R_far (p := ⟨gb172, 1, none⟩) (Kd.R_far (p := ⟨gb172, 0, none⟩) (Kd.R_types HO_9.out BK172.out (by decide)) (fun _ hk => hk.2) (.int .i64 ((rd_T76 l0_1 x37_2).f0))) (fun _ hk => hk.2) (.int .i64 ((rd_T76 l0_1 x37_2).f1))) (fun _ hk => hk.2) (.int .i64 ((rd_T76 l0_1 x37_2).f2))) (fun _ hk => hk.1)⟩, ⟨by (with_reducible repeat (first | apply Kd.R_alloc | apply Kd.R_drewN | apply Kd.R_drew)); exact Kd.R_mono (Kd.R_far (p := ⟨gb172, 2, none⟩) (Kd.R_far (p := ⟨gb172, 1, none⟩) (Kd.R_far (p := ⟨gb172, 0, none⟩) (Kd.R_types HO_10.out BK172.out (by decide)) (fun _ hk => hk.2) (.int .i64 ((rd_T76 l0_1 x37_2).f0))) (fun _ hk => hk.2) (.int .i64 ((rd_T76 l0_1 x37_2).f1))) (fun _ hk => hk.2) (.int .i64 ((rd_T76 l0_1 x37_2).f2))) (fun _ hk => hk.1)⟩, ⟨bc_ BK159⟩, ⟨bw_⟩⟩
     rw [if_pos c28] at H
     have c28b0 : (((rd_T76 l0_1 x37_2).f0) == x11_2) = true := beq_iff_eq.mpr c28
     have c28b1 : (((rd_T76 l0_1 x37_2).f0) != x11_2) = false := bne_eq_false_iff_eq.mpr c28
     clear c28
     by_cases c29 : 0 ≤ ((rd_T76 l0_1 x37_2).f1)
     rotate_left
     ·rw [if_neg c29] at H
      exact absurd H (by simp)
     rw [if_pos c29] at H
     have c29b0 : decide (0 ≤ ((rd_T76 l0_1 x37_2).f1)) = true := decide_eq_true c29
     clear c29
     by_cases c30 : ((rd_T76 l0_1 x37_2).f1) < (t160.length : Int)
     rotate_left
     ·rw [if_neg c30] at H
      exact absurd H (by simp)
     rw [if_pos c30] at H
     have c30b0 : decide (((rd_T76 l0_1 x37_2).f1) < (t160.length : Int)) = true := decide_eq_true c30
     clear c30
     by_cases c31 : 0 ≤ a2
     rotate_left
     ·rw [if_neg c31] at H
      exact absurd H (by simp)
     rw [if_pos c31] at H
     have c31b0 : decide (0 ≤ a2) = true := decide_eq_true c31
     clear c31
     by_cases c32 : a2 < ((rd_L2 t160 ((rd_T76 l0_1 x37_2).f1)).length : Int)
     rotate_left
     ·rw [if_neg c32] at H
      exact absurd H (by simp)
     rw [if_pos c32] at H
     have c32b0 : decide (a2 < ((rd_L2 t160 ((rd_T76 l0_1 x37_2).f1)).length : Int)) = true := decide_eq_true c32
     clear c32
     by_cases c33 : 0 ≤ x11_2
     rotate_left
     ·rw [if_neg c33] at H
      exact absurd H (by simp)
     rw [if_pos c33] at H
     have c33b0 : decide (0 ≤ x11_2) = true := decide_eq_true c33
     clear c33
     by_cases c34 : x11_2 < (t160.length : Int)
     rotate_left
     ·rw [if_neg c34] at H
      exact absurd H (by simp)
     rw [if_pos c34] at H
     have c34b0 : decide (x11_2 < (t160.length : Int)) = true := decide_eq_true c34
     clear c34
     by_cases c35 : a2 < ((rd_L2 t160 x11_2).length : Int)
     rotate_left
     ·rw [if_neg c35] at H
      exact absurd H (by simp)
     rw [if_pos c35] at H
     have c35b0 : decide (a2 < ((rd_L2 t160 x11_2).length : Int)) = true := decide_eq_true c35
     clear c35
     by_cases c36 : (wrap64 (((rd_T76 l0_1 x37_2).f2) + (rd (rd_L2 t160 ((rd_T76 l0_1 x37_2).f1)) a2))) = (rd (rd_L2 t160 x11_2) a2)
     rotate_left
     ·rw [if_neg c36] at H
      have c36b0 : ((wrap64 (((rd_T76 l0_1 x37_2).f2) + (rd (rd_L2 t160 ((rd_T76 l0_1 x37_2).f1)) a2))) == (rd (rd_L2 t160 x11_2) a2)) = false := beq_eq_false_iff_ne.mpr c36
      have c36b1 : ((wrap64 (((rd_T76 l0_1 x37_2).f2) + (rd (rd_L2 t160 ((rd_T76 l0_1 x37_2).f1)) a2))) != (rd (rd_L2 t160 x11_2) a2)) = true := bne_iff_ne.mpr c36
      have H' := Aside0.mk H
      clear H
      have p171 : 0 ≤ (x37_2 : Int) := of_decide_eq_true (by first | (with_reducible assumption) | assumption)
      have q171 : x37_2 < (l0_1.length : Int) := of_decide_eq_true (by first | (with_reducible assumption) | assumption)
      obtain ⟨ad171, e171, hx171_0, hx171_1, hx171_2⟩ := at_T76 HR0_1.out x37_2 p171 q171
      cases e171
      replace hx171_0 := (HB.out.cell (World.block_lt_of_cell? w _ hx171_0)).trans hx171_0
      replace hx171_1 := (HB.out.cell (World.block_lt_of_cell? w _ hx171_1)).trans hx171_1
      replace hx171_2 := (HB.out.cell (World.block_lt_of_cell? w _ hx171_2)).trans hx171_2
      replace p171 := eq_true p171
      replace q171 := eq_true q171
      go_wp2_with (first | ((with_reducible refine gate_dst (N := 13) rfl ?_); refine box_event ?hg (N := 13) ?hd (cs := #[.int .i64 0, .int .i64 0, .int .i64 0]) (t := 76) ?hr ?_; (case hd => rfl); (case hg => rfl); (case hr => first | (go_simp; done) | (go_simp; rfl)); intro gb172 hg w54 hbox hb; have BK172 := Aside0.mk hbox; have GW172 := ge_ HB hg; have GE172 := ge_ HB hg; have NB159_172 := nl_ BK159 hg; have NB172_159 := ng_ BK159 hg; replace HO_8 := Aside0.mk (Kd.S_below (by (with_reducible repeat (first | apply Kd.S_alloc | apply Kd.S_drewN | apply Kd.S_drew)); exact HO_8.out) hb); replace HO_9 := rb_ HO_9 hb; replace HO_10 := rb_ HO_10 hb; replace HB := at_ HB hb; replace BK159 := ab_ BK159 hb; clear hb hbox hg; have hnb55 := NB172_159.out; have hnc55 := NB159_172.out; have hcz56_0 := cz_ BK172 0 (.int .i64 0); have hcz56_1 := cz_ BK172 1 (.int .i64 0); have hcz56_2 := cz_ BK172 2 (.int .i64 0); have hfz56_0 := blk_frozen BK172.out 0; have hfz56_1 := blk_frozen BK172.out 1; have hfz56_2 := blk_frozen BK172.out 2) | ((with_reducible refine gate_store (t := 76) (p := 13) rfl ?_); (try (rw [drewN_self w54]; generalize hq_ : World.drewN w54 _ = w54; replace HO_8 := Aside0.mk (Kd.S_at hq_ HO_8.out); replace HO_9 := Aside0.mk (Kd.R_at hq_ HO_9.out); replace HO_10 := Aside0.mk (Kd.R_at hq_ HO_10.out); replace BK159 := Aside0.mk (blk_at hq_ BK159.out); replace BK172 := Aside0.mk (blk_at hq_ BK172.out); replace HB := Aside0.mk (below_at hq_ HB.out); clear hq_)); refine store_event (t := 76) (p := 13) (v := ?vo_w57) (w1 := (((w54.setCell ⟨gb172, 0, none⟩ (.int .i64 ((rd_T76 l0_1 x37_2).f0))).setCell ⟨gb172, 1, none⟩ (.int .i64 ((rd_T76 l0_1 x37_2).f1))).setCell ⟨gb172, 2, none⟩ (.int .i64 ((rd_T76 l0_1 x37_2).f2)))) ?hg ?ho ?hn ?hr ?_; (case ho => rfl); (case hg => rfl); (case hn => rfl); (case hr => first | (go_simp; done) | (go_simp; rfl)); intro w57 hw; replace HO_8 : Aside0 (Kd.S (Kd.slice 3 (Kd.int .i64)) 26 w57 w.heap.size (fun k_ => some k_ ≠ (v166 : Value).ownBlock ∧ some k_ ≠ (u10 : Value).ownBlock) (.slice (some ad163) t160.length co18) t160) := ⟨(by rw [hw]; exact (by (with_reducible repeat (first | apply Kd.S_alloc | apply Kd.S_drewN | apply Kd.S_drew)); exact Kd.S_mono (Kd.S_far (p := ⟨gb172, 2, none⟩) (Kd.S_far (p := ⟨gb172, 1, none⟩) (Kd.S_far (p := ⟨gb172, 0, none⟩) (Kd.S_types HO_8.out BK172.out (by decide)) (fun _ hk => hk.2) (.int .i64 ((rd_T76 l0_1 x37_2).f0))) (fun _ hk => hk.2) (.int .i64 ((rd_T76 l0_1 x37_2).f1))) (fun _ hk => hk.2) (.int .i64 ((rd_T76 l0_1 x37_2).f2))) (fun _ hk => by first | exact ⟨hk.1.1, hk.1.2⟩ | grind)))⟩; replace HO_9 : Aside0 (Kd.R (Kd.int .i64) 3 w57 w.heap.size (fun k_ => some k_ ≠ (u10 : Value).ownBlock) v166 t165) := ⟨(by rw [hw]; exact (by (with_reducible repeat (first | apply Kd.R_alloc | apply Kd.R_drewN | apply Kd.R_drew)); exact Kd.R_mono (Kd.R_far (p := ⟨gb172, 2, none⟩) (Kd.R_far (p := ⟨gb172, 1, none⟩) (Kd.R_far (p := ⟨gb172, 0, none⟩) (Kd.R_types HO_9.out BK172.out (by decide)) (fun _ hk => hk.2) (.int .i64 ((rd_T76 l0_1 x37_2).f0))) (fun _ hk => hk.2) (.int .i64 ((rd_T76 l0_1 x37_2).f1))) (fun _ hk => hk.2) (.int .i64 ((rd_T76 l0_1 x37_2).f2))) (fun _ hk => hk.1)))⟩; replace HO_10 : Aside0 (Kd.R (Kd.int .i64) 3 w57 w.heap.size (fun k_ => some k_ ≠ (v166 : Value).ownBlock) u10 x10_1) := ⟨(by rw [hw]; exact (by (with_reducible repeat (first | apply Kd.R_alloc | apply Kd.R_drewN | apply Kd.R_drew)); exact Kd.R_mono (Kd.R_far (p := ⟨gb172, 2, none⟩) (Kd.R_far (p := ⟨gb172, 1, none⟩) (Kd.R_far (p := ⟨gb172, 0, none⟩) (Kd.R_types HO_10.out BK172.out (by decide)) (fun _ hk => hk.2) (.int .i64 ((rd_T76 l0_1 x37_2).f0))) (fun _ hk => hk.2) (.int .i64 ((rd_T76 l0_1 x37_2).f1))) (fun _ hk => hk.2) (.int .i64 ((rd_T76 l0_1 x37_2).f2))) (fun _ hk => hk.1)))⟩; replace BK159 : Aside0 (w57.heap[gb159]? = some (.cells #[.int .i64 a0_0, .slice (some ad171) l0_1.length c0_1] 30 (0, 0))) := ⟨(by rw [hw]; exact (bc_ BK159))⟩; replace BK172 : Aside0 (w57.heap[gb172]? = some (.cells #[.int .i64 ((rd_T76 l0_1 x37_2).f0), .int .i64 ((rd_T76 l0_1 x37_2).f1), .int .i64 ((rd_T76 l0_1 x37_2).f2)] 76 (0, 0))) := ⟨(by rw [hw]; exact (by (with_reducible repeat (first | refine blk_drewN ?_ _ | refine blk_drew ?_ | refine blk_alloc ?_ _)); refine blk_put (cs := #[.int .i64 ((rd_T76 l0_1 x37_2).f0), .int .i64 ((rd_T76 l0_1 x37_2).f1), .int .i64 0]) ?_ 2 _ rfl; (with_reducible repeat (first | refine blk_drewN ?_ _ | refine blk_drew ?_ | refine blk_alloc ?_ _)); refine blk_put (cs := #[.int .i64 ((rd_T76 l0_1 x37_2).f0), .int .i64 0, .int .i64 0]) ?_ 1 _ rfl; (with_reducible repeat (first | refine blk_drewN ?_ _ | refine blk_drew ?_ | refine blk_alloc ?_ _)); refine blk_put (cs := #[.int .i64 0, .int .i64 0, .int .i64 0]) ?_ 0 _ rfl; (with_reducible repeat (first | refine blk_drewN ?_ _ | refine blk_drew ?_ | refine blk_alloc ?_ _)); exact BK172.out))⟩; replace HB : Aside0 (Below w.heap.size w w57) := ⟨(by rw [hw]; exact (bw_))⟩; clear hw; have hcz58_0 := cz_ BK172 0 (.int .i64 ((rd_T76 l0_1 x37_2).f0)); have hcz58_1 := cz_ BK172 1 (.int .i64 ((rd_T76 l0_1 x37_2).f1)); have hcz58_2 := cz_ BK172 2 (.int .i64 ((rd_T76 l0_1 x37_2).f2)); have hfz58_0 := blk_frozen BK172.out 0; have hfz58_1 := blk_frozen BK172.out 1; have hfz58_2 := blk_frozen BK172.out 2; have p173 : 0 ≤ (((rd_T76 l0_1 x37_2).f1) : Int) := of_decide_eq_true (by first | (with_reducible assumption) | assumption); have q173 : ((rd_T76 l0_1 x37_2).f1) < (t160.length : Int) := of_decide_eq_true (by first | (with_reducible assumption) | assumption); obtain ⟨ad173, A173_0, c173_0, e173, hx173_0, hl173_0, hi173_0⟩ := at_L2 (Kd.S_reads' HO_8.out).2.2 ((rd_T76 l0_1 x37_2).f1) p173 q173; obtain rfl : ad163 = ad173 := (by injection e173); obtain ⟨ce173, hce173, hMe173, hcc173⟩ := Kd.S_get HO_8.out [] ((rd_T76 l0_1 x37_2).f1) p173 (by first | exact q173 | exact of_decide_eq_true (by first | (with_reducible assumption) | assumption) | (have e_ := (Kd.S_reads' HO_8.out).1; omega)); obtain ⟨ve173_0, rfl, ge173_0⟩ := hMe173; have hv173_0 := hcc173 0 _ rfl; rw [Nat.add_zero, show ((Kd.slice 3 (Kd.int .i64))).sz = 1 from rfl, Nat.mul_one] at hv173_0; replace hv173_0 := Option.some.inj (hv173_0.symm.trans hx173_0); rw [hv173_0] at ge173_0; have HL173_0 := Aside0.mk (show Kd.R (Kd.int .i64) 3 _ _ _ _ (rd_L2 t160 ((rd_T76 l0_1 x37_2).f1)) from ge173_0); clear hv173_0 ge173_0; clear hcc173 hce173; have HR173_0 := Aside0.mk hi173_0; have HC173_0 := Aside0.mk hl173_0; clear hi173_0 hl173_0; replace p173 := eq_true p173; replace q173 := eq_true q173; have p174 : 0 ≤ (a2 : Int) := of_decide_eq_true (by first | (with_reducible assumption) | assumption); have q174 : a2 < ((rd_L2 t160 ((rd_T76 l0_1 x37_2).f1)).length : Int) := of_decide_eq_true (by first | (with_reducible assumption) | assumption); obtain ⟨ad174, e174, hx174_0⟩ := Kd.at_int (by repeat (first | (with_reducible exact HR173_0.out) | (with_reducible refine Kd.C_alloc ?_ _) | (with_reducible refine Kd.C_drewN ?_ _) | (with_reducible refine Kd.C_drew ?_) | exact HR173_0.out)) a2 p174 q174; cases e174; replace p174 := eq_true p174; replace q174 := eq_true q174; have p175 : 0 ≤ (x11_2 : Int) := of_decide_eq_true (by first | (with_reducible assumption) | assumption); have q175 : x11_2 < (t160.length : Int) := of_decide_eq_true (by first | (with_reducible assumption) | assumption); obtain ⟨ad175, A175_0, c175_0, e175, hx175_0, hl175_0, hi175_0⟩ := at_L2 (Kd.S_reads' HO_8.out).2.2 x11_2 p175 q175; obtain rfl : ad163 = ad175 := (by injection e175); obtain ⟨ce175, hce175, hMe175, hcc175⟩ := Kd.S_get HO_8.out [] x11_2 p175 (by first | exact q175 | exact of_decide_eq_true (by first | (with_reducible assumption) | assumption) | (have e_ := (Kd.S_reads' HO_8.out).1; omega)); obtain ⟨ve175_0, rfl, ge175_0⟩ := hMe175; have hv175_0 := hcc175 0 _ rfl; rw [Nat.add_zero, show ((Kd.slice 3 (Kd.int .i64))).sz = 1 from rfl, Nat.mul_one] at hv175_0; replace hv175_0 := Option.some.inj (hv175_0.symm.trans hx175_0); rw [hv175_0] at ge175_0; have HL175_0 := Aside0.mk (show Kd.R (Kd.int .i64) 3 _ _ _ _ (rd_L2 t160 x11_2) from ge175_0); clear hv175_0 ge175_0; clear hcc175 hce175; have HR175_0 := Aside0.mk hi175_0; have HC175_0 := Aside0.mk hl175_0; clear hi175_0 hl175_0; replace p175 := eq_true p175; replace q175 := eq_true q175; have p176 : 0 ≤ (a2 : Int) := of_decide_eq_true (by first | (with_reducible assumption) | assumption); have q176 : a2 < ((rd_L2 t160 x11_2).length : Int) := of_decide_eq_true (by first | (with_reducible assumption) | assumption); obtain ⟨ad176, e176, hx176_0⟩ := Kd.at_int (by repeat (first | (with_reducible exact HR175_0.out) | (with_reducible refine Kd.C_alloc ?_ _) | (with_reducible refine Kd.C_drewN ?_ _) | (with_reducible refine Kd.C_drew ?_) | exact HR175_0.out)) a2 p176 q176; cases e176; replace p176 := eq_true p176; replace q176 := eq_true q176))
      repeat (go_quiet (fail); try go_wp2_with (fail))
      go_roundg k2
      case measure => have := HK1.out; have := HK2.out; omega
      case rel => exact ⟨(x11_2), (wrap64 (x37_2 + 1)), (by first | rfl | (simp; done) | (simp [*]; done)), (by first | rfl | (simp; done) | (simp [*]; done)), H', ⟨by have := HK1.out; have := HK2.out; omega⟩, ⟨by (with_reducible repeat (first | apply Kd.S_alloc | apply Kd.S_drewN | apply Kd.S_drew)); exact HO_8.out⟩, ⟨by (with_reducible repeat (first | apply Kd.R_alloc | apply Kd.R_drewN | apply Kd.R_drew)); exact HO_9.out⟩, ⟨by (with_reducible repeat (first | apply Kd.R_alloc | apply Kd.R_drewN | apply Kd.R_drew)); exact HO_10.out⟩, ⟨bx_ BK159⟩, ⟨bw_⟩⟩
     rw [if_pos c36] at H
     have c36b0 : ((wrap64 (((rd_T76 l0_1 x37_2).f2) + (rd (rd_L2 t160 ((rd_T76 l0_1 x37_2).f1)) a2))) == (rd (rd_L2 t160 x11_2) a2)) = true := beq_iff_eq.mpr c36
     have c36b1 : ((wrap64 (((rd_T76 l0_1 x37_2).f2) + (rd (rd_L2 t160 ((rd_T76 l0_1 x37_2).f1)) a2))) != (rd (rd_L2 t160 x11_2) a2)) = false := bne_eq_false_iff_eq.mpr c36
     clear c36
     by_cases c37 : ((rd_T76 l0_1 x37_2).f1) < (t165.length : Int)
     rotate_left
     ·rw [if_neg c37] at H
      exact absurd H (by simp)
     rw [if_pos c37] at H
     have c37b0 : decide (((rd_T76 l0_1 x37_2).f1) < (t165.length : Int)) = true := decide_eq_true c37
     clear c37
     by_cases c38 : x11_2 < (t165.length : Int)
     rotate_left
     ·rw [if_neg c38] at H
      exact absurd H (by simp)
     rw [if_pos c38] at H
     have c38b0 : decide (x11_2 < (t165.length : Int)) = true := decide_eq_true c38
     clear c38
     by_cases c39 : (rd t165 ((rd_T76 l0_1 x37_2).f1)) = (wrap64 ((rd t165 x11_2) - 1))
     rotate_left
     ·rw [if_neg c39] at H
      have c39b0 : ((rd t165 ((rd_T76 l0_1 x37_2).f1)) == (wrap64 ((rd t165 x11_2) - 1))) = false := beq_eq_false_iff_ne.mpr c39
      have c39b1 : ((rd t165 ((rd_T76 l0_1 x37_2).f1)) != (wrap64 ((rd t165 x11_2) - 1))) = true := bne_iff_ne.mpr c39
      have H' := Aside0.mk H
      clear H
      have p171 : 0 ≤ (x37_2 : Int) := of_decide_eq_true (by first | (with_reducible assumption) | assumption)
      have q171 : x37_2 < (l0_1.length : Int) := of_decide_eq_true (by first | (with_reducible assumption) | assumption)
      obtain ⟨ad171, e171, hx171_0, hx171_1, hx171_2⟩ := at_T76 HR0_1.out x37_2 p171 q171
      cases e171
      replace hx171_0 := (HB.out.cell (World.block_lt_of_cell? w _ hx171_0)).trans hx171_0
      replace hx171_1 := (HB.out.cell (World.block_lt_of_cell? w _ hx171_1)).trans hx171_1
      replace hx171_2 := (HB.out.cell (World.block_lt_of_cell? w _ hx171_2)).trans hx171_2
      replace p171 := eq_true p171
      replace q171 := eq_true q171
      go_wp2_with (first | ((with_reducible refine gate_dst (N := 13) rfl ?_); refine box_event ?hg (N := 13) ?hd (cs := #[.int .i64 0, .int .i64 0, .int .i64 0]) (t := 76) ?hr ?_; (case hd => rfl); (case hg => rfl); (case hr => first | (go_simp; done) | (go_simp; rfl)); intro gb172 hg w48 hbox hb; have BK172 := Aside0.mk hbox; have GW172 := ge_ HB hg; have GE172 := ge_ HB hg; have NB159_172 := nl_ BK159 hg; have NB172_159 := ng_ BK159 hg; replace HO_8 := Aside0.mk (Kd.S_below (by (with_reducible repeat (first | apply Kd.S_alloc | apply Kd.S_drewN | apply Kd.S_drew)); exact HO_8.out) hb); replace HO_9 := rb_ HO_9 hb; replace HO_10 := rb_ HO_10 hb; replace HB := at_ HB hb; replace BK159 := ab_ BK159 hb; clear hb hbox hg; have hnb49 := NB172_159.out; have hnc49 := NB159_172.out; have hcz50_0 := cz_ BK172 0 (.int .i64 0); have hcz50_1 := cz_ BK172 1 (.int .i64 0); have hcz50_2 := cz_ BK172 2 (.int .i64 0); have hfz50_0 := blk_frozen BK172.out 0; have hfz50_1 := blk_frozen BK172.out 1; have hfz50_2 := blk_frozen BK172.out 2) | ((with_reducible refine gate_store (t := 76) (p := 13) rfl ?_); (try (rw [drewN_self w48]; generalize hq_ : World.drewN w48 _ = w48; replace HO_8 := Aside0.mk (Kd.S_at hq_ HO_8.out); replace HO_9 := Aside0.mk (Kd.R_at hq_ HO_9.out); replace HO_10 := Aside0.mk (Kd.R_at hq_ HO_10.out); replace BK159 := Aside0.mk (blk_at hq_ BK159.out); replace BK172 := Aside0.mk (blk_at hq_ BK172.out); replace HB := Aside0.mk (below_at hq_ HB.out); clear hq_)); refine store_event (t := 76) (p := 13) (v := ?vo_w51) (w1 := (((w48.setCell ⟨gb172, 0, none⟩ (.int .i64 ((rd_T76 l0_1 x37_2).f0))).setCell ⟨gb172, 1, none⟩ (.int .i64 ((rd_T76 l0_1 x37_2).f1))).setCell ⟨gb172, 2, none⟩ (.int .i64 ((rd_T76 l0_1 x37_2).f2)))) ?hg ?ho ?hn ?hr ?_; (case ho => rfl); (case hg => rfl); (case hn => rfl); (case hr => first | (go_simp; done) | (go_simp; rfl)); intro w51 hw; replace HO_8 : Aside0 (Kd.S (Kd.slice 3 (Kd.int .i64)) 26 w51 w.heap.size (fun k_ => some k_ ≠ (v166 : Value).ownBlock ∧ some k_ ≠ (u10 : Value).ownBlock) (.slice (some ad163) t160.length co18) t160) := ⟨(by rw [hw]; exact (by (with_reducible repeat (first | apply Kd.S_alloc | apply Kd.S_drewN | apply Kd.S_drew)); exact Kd.S_mono (Kd.S_far (p := ⟨gb172, 2, none⟩) (Kd.S_far (p := ⟨gb172, 1, none⟩) (Kd.S_far (p := ⟨gb172, 0, none⟩) (Kd.S_types HO_8.out BK172.out (by decide)) (fun _ hk => hk.2) (.int .i64 ((rd_T76 l0_1 x37_2).f0))) (fun _ hk => hk.2) (.int .i64 ((rd_T76 l0_1 x37_2).f1))) (fun _ hk => hk.2) (.int .i64 ((rd_T76 l0_1 x37_2).f2))) (fun _ hk => by first | exact ⟨hk.1.1, hk.1.2⟩ | grind)))⟩; replace HO_9 : Aside0 (Kd.R (Kd.int .i64) 3 w51 w.heap.size (fun k_ => some k_ ≠ (u10 : Value).ownBlock) v166 t165) := ⟨(by rw [hw]; exact (by (with_reducible repeat (first | apply Kd.R_alloc | apply Kd.R_drewN | apply Kd.R_drew)); exact Kd.R_mono (Kd.R_far (p := ⟨gb172, 2, none⟩) (Kd.R_far (p := ⟨gb172, 1, none⟩) (Kd.R_far (p := ⟨gb172, 0, none⟩) (Kd.R_types HO_9.out BK172.out (by decide)) (fun _ hk => hk.2) (.int .i64 ((rd_T76 l0_1 x37_2).f0))) (fun _ hk => hk.2) (.int .i64 ((rd_T76 l0_1 x37_2).f1))) (fun _ hk => hk.2) (.int .i64 ((rd_T76 l0_1 x37_2).f2))) (fun _ hk => hk.1)))⟩; replace HO_10 : Aside0 (Kd.R (Kd.int .i64) 3 w51 w.heap.size (fun k_ => some k_ ≠ (v166 : Value).ownBlock) u10 x10_1) := ⟨(by rw [hw]; exact (by (with_reducible repeat (first | apply Kd.R_alloc | apply Kd.R_drewN | apply Kd.R_drew)); exact Kd.R_mono (Kd.R_far (p := ⟨gb172, 2, none⟩) (Kd.R_far (p := ⟨gb172, 1, none⟩) (Kd.R_far (p := ⟨gb172, 0, none⟩) (Kd.R_types HO_10.out BK172.out (by decide)) (fun _ hk => hk.2) (.int .i64 ((rd_T76 l0_1 x37_2).f0))) (fun _ hk => hk.2) (.int .i64 ((rd_T76 l0_1 x37_2).f1))) (fun _ hk => hk.2) (.int .i64 ((rd_T76 l0_1 x37_2).f2))) (fun _ hk => hk.1)))⟩; replace BK159 : Aside0 (w51.heap[gb159]? = some (.cells #[.int .i64 a0_0, .slice (some ad171) l0_1.length c0_1] 30 (0, 0))) := ⟨(by rw [hw]; exact (bc_ BK159))⟩; replace BK172 : Aside0 (w51.heap[gb172]? = some (.cells #[.int .i64 ((rd_T76 l0_1 x37_2).f0), .int .i64 ((rd_T76 l0_1 x37_2).f1), .int .i64 ((rd_T76 l0_1 x37_2).f2)] 76 (0, 0))) := ⟨(by rw [hw]; exact (by (with_reducible repeat (first | refine blk_drewN ?_ _ | refine blk_drew ?_ | refine blk_alloc ?_ _)); refine blk_put (cs := #[.int .i64 ((rd_T76 l0_1 x37_2).f0), .int .i64 ((rd_T76 l0_1 x37_2).f1), .int .i64 0]) ?_ 2 _ rfl; (with_reducible repeat (first | refine blk_drewN ?_ _ | refine blk_drew ?_ | refine blk_alloc ?_ _)); refine blk_put (cs := #[.int .i64 ((rd_T76 l0_1 x37_2).f0), .int .i64 0, .int .i64 0]) ?_ 1 _ rfl; (with_reducible repeat (first | refine blk_drewN ?_ _ | refine blk_drew ?_ | refine blk_alloc ?_ _)); refine blk_put (cs := #[.int .i64 0, .int .i64 0, .int .i64 0]) ?_ 0 _ rfl; (with_reducible repeat (first | refine blk_drewN ?_ _ | refine blk_drew ?_ | refine blk_alloc ?_ _)); exact BK172.out))⟩; replace HB : Aside0 (Below w.heap.size w w51) := ⟨(by rw [hw]; exact (bw_))⟩; clear hw; have hcz52_0 := cz_ BK172 0 (.int .i64 ((rd_T76 l0_1 x37_2).f0)); have hcz52_1 := cz_ BK172 1 (.int .i64 ((rd_T76 l0_1 x37_2).f1)); have hcz52_2 := cz_ BK172 2 (.int .i64 ((rd_T76 l0_1 x37_2).f2)); have hfz52_0 := blk_frozen BK172.out 0; have hfz52_1 := blk_frozen BK172.out 1; have hfz52_2 := blk_frozen BK172.out 2; have p173 : 0 ≤ (((rd_T76 l0_1 x37_2).f1) : Int) := of_decide_eq_true (by first | (with_reducible assumption) | assumption); have q173 : ((rd_T76 l0_1 x37_2).f1) < (t160.length : Int) := of_decide_eq_true (by first | (with_reducible assumption) | assumption); obtain ⟨ad173, A173_0, c173_0, e173, hx173_0, hl173_0, hi173_0⟩ := at_L2 (Kd.S_reads' HO_8.out).2.2 ((rd_T76 l0_1 x37_2).f1) p173 q173; obtain rfl : ad163 = ad173 := (by injection e173); obtain ⟨ce173, hce173, hMe173, hcc173⟩ := Kd.S_get HO_8.out [] ((rd_T76 l0_1 x37_2).f1) p173 (by first | exact q173 | exact of_decide_eq_true (by first | (with_reducible assumption) | assumption) | (have e_ := (Kd.S_reads' HO_8.out).1; omega)); obtain ⟨ve173_0, rfl, ge173_0⟩ := hMe173; have hv173_0 := hcc173 0 _ rfl; rw [Nat.add_zero, show ((Kd.slice 3 (Kd.int .i64))).sz = 1 from rfl, Nat.mul_one] at hv173_0; replace hv173_0 := Option.some.inj (hv173_0.symm.trans hx173_0); rw [hv173_0] at ge173_0; have HL173_0 := Aside0.mk (show Kd.R (Kd.int .i64) 3 _ _ _ _ (rd_L2 t160 ((rd_T76 l0_1 x37_2).f1)) from ge173_0); clear hv173_0 ge173_0; clear hcc173 hce173; have HR173_0 := Aside0.mk hi173_0; have HC173_0 := Aside0.mk hl173_0; clear hi173_0 hl173_0; replace p173 := eq_true p173; replace q173 := eq_true q173; have p174 : 0 ≤ (a2 : Int) := of_decide_eq_true (by first | (with_reducible assumption) | assumption); have q174 : a2 < ((rd_L2 t160 ((rd_T76 l0_1 x37_2).f1)).length : Int) := of_decide_eq_true (by first | (with_reducible assumption) | assumption); obtain ⟨ad174, e174, hx174_0⟩ := Kd.at_int (by repeat (first | (with_reducible exact HR173_0.out) | (with_reducible refine Kd.C_alloc ?_ _) | (with_reducible refine Kd.C_drewN ?_ _) | (with_reducible refine Kd.C_drew ?_) | exact HR173_0.out)) a2 p174 q174; cases e174; replace p174 := eq_true p174; replace q174 := eq_true q174; have p175 : 0 ≤ (x11_2 : Int) := of_decide_eq_true (by first | (with_reducible assumption) | assumption); have q175 : x11_2 < (t160.length : Int) := of_decide_eq_true (by first | (with_reducible assumption) | assumption); obtain ⟨ad175, A175_0, c175_0, e175, hx175_0, hl175_0, hi175_0⟩ := at_L2 (Kd.S_reads' HO_8.out).2.2 x11_2 p175 q175; obtain rfl : ad163 = ad175 := (by injection e175); obtain ⟨ce175, hce175, hMe175, hcc175⟩ := Kd.S_get HO_8.out [] x11_2 p175 (by first | exact q175 | exact of_decide_eq_true (by first | (with_reducible assumption) | assumption) | (have e_ := (Kd.S_reads' HO_8.out).1; omega)); obtain ⟨ve175_0, rfl, ge175_0⟩ := hMe175; have hv175_0 := hcc175 0 _ rfl; rw [Nat.add_zero, show ((Kd.slice 3 (Kd.int .i64))).sz = 1 from rfl, Nat.mul_one] at hv175_0; replace hv175_0 := Option.some.inj (hv175_0.symm.trans hx175_0); rw [hv175_0] at ge175_0; have HL175_0 := Aside0.mk (show Kd.R (Kd.int .i64) 3 _ _ _ _ (rd_L2 t160 x11_2) from ge175_0); clear hv175_0 ge175_0; clear hcc175 hce175; have HR175_0 := Aside0.mk hi175_0; have HC175_0 := Aside0.mk hl175_0; clear hi175_0 hl175_0; replace p175 := eq_true p175; replace q175 := eq_true q175; have p176 : 0 ≤ (a2 : Int) := of_decide_eq_true (by first | (with_reducible assumption) | assumption); have q176 : a2 < ((rd_L2 t160 x11_2).length : Int) := of_decide_eq_true (by first | (with_reducible assumption) | assumption); obtain ⟨ad176, e176, hx176_0⟩ := Kd.at_int (by repeat (first | (with_reducible exact HR175_0.out) | (with_reducible refine Kd.C_alloc ?_ _) | (with_reducible refine Kd.C_drewN ?_ _) | (with_reducible refine Kd.C_drew ?_) | exact HR175_0.out)) a2 p176 q176; cases e176; replace p176 := eq_true p176; replace q176 := eq_true q176; obtain ⟨Ao53, co53, eo53⟩ := Kd.R_slice HO_9.out; subst eo53; have p177 : 0 ≤ (((rd_T76 l0_1 x37_2).f1) : Int) := of_decide_eq_true (by first | (with_reducible assumption) | assumption); have q177 : ((rd_T76 l0_1 x37_2).f1) < (t165.length : Int) := of_decide_eq_true (by first | (with_reducible assumption) | assumption); obtain ⟨ad177, e177, hx177_0⟩ := Kd.at_int (Kd.R_reads' HO_9.out).2.2 ((rd_T76 l0_1 x37_2).f1) p177 q177; cases e177; replace p177 := eq_true p177; replace q177 := eq_true q177; have p178 : 0 ≤ (x11_2 : Int) := of_decide_eq_true (by first | (with_reducible assumption) | assumption); have q178 : x11_2 < (t165.length : Int) := of_decide_eq_true (by first | (with_reducible assumption) | assumption); obtain ⟨ad178, e178, hx178_0⟩ := Kd.at_int (Kd.R_reads' HO_9.out).2.2 x11_2 p178 q178; obtain rfl : ad177 = ad178 := (by injection e178); replace p178 := eq_true p178; replace q178 := eq_true q178))
      repeat (go_quiet (fail); try go_wp2_with (fail))
      go_roundg k2
      case measure => have := HK1.out; have := HK2.out; omega
      case rel => exact ⟨(x11_2), (wrap64 (x37_2 + 1)), (by first | rfl | (simp; done) | (simp [*]; done)), (by first | rfl | (simp; done) | (simp [*]; done)), H', ⟨by have := HK1.out; have := HK2.out; omega⟩, ⟨by (with_reducible repeat (first | apply Kd.S_alloc | apply Kd.S_drewN | apply Kd.S_drew)); exact HO_8.out⟩, ⟨by (with_reducible repeat (first | apply Kd.R_alloc | apply Kd.R_drewN | apply Kd.R_drew)); exact HO_9.out⟩, ⟨by (with_reducible repeat (first | apply Kd.R_alloc | apply Kd.R_drewN | apply Kd.R_drew)); exact HO_10.out⟩, ⟨bx_ BK159⟩, ⟨bw_⟩⟩
     rw [if_pos c39] at H
     have c39b0 : ((rd t165 ((rd_T76 l0_1 x37_2).f1)) == (wrap64 ((rd t165 x11_2) - 1))) = true := beq_iff_eq.mpr c39
     have c39b1 : ((rd t165 ((rd_T76 l0_1 x37_2).f1)) != (wrap64 ((rd t165 x11_2) - 1))) = false := bne_eq_false_iff_eq.mpr c39
     clear c39
     by_cases c40 : x10_1.length < 17592186044416
     rotate_left
     ·rw [if_neg c40] at H
      exact absurd H (by simp)
     rw [if_pos c40] at H
     have LMc40 := Aside0.mk c40
     clear c40
     obtain ⟨y179, hy179⟩ : ∃ y_ : List Int, y_ = (x10_1 ++ [(rd_T76 l0_1 x37_2).f1]) := ⟨_, rfl⟩
     replace H : (impl_Graph_cheapest.l0 k2 a2 t160 t165 y179 ((rd_T76 l0_1 x37_2).f1) a0_0 l0_1) = some (r1, r2) := by first | (rw [hy179]; with_reducible exact H) | (have H2_ := (Option.bind_some _ _).symm.trans H; rw [hy179]; with_reducible exact H2_) | (have H2_ := (Option.bind_some _ _).symm.trans H; with_reducible exact H2_) | with_reducible exact H | (rw [hy179]; exact H) | exact H
     have Ny179 := Aside0.mk hy179
     clear hy179
     have H' := Aside0.mk H
     clear H
     have p171 : 0 ≤ (x37_2 : Int) := of_decide_eq_true (by first | (with_reducible assumption) | assumption)
     have q171 : x37_2 < (l0_1.length : Int) := of_decide_eq_true (by first | (with_reducible assumption) | assumption)
     obtain ⟨ad171, e171, hx171_0, hx171_1, hx171_2⟩ := at_T76 HR0_1.out x37_2 p171 q171
     cases e171
     replace hx171_0 := (HB.out.cell (World.block_lt_of_cell? w _ hx171_0)).trans hx171_0
     replace hx171_1 := (HB.out.cell (World.block_lt_of_cell? w _ hx171_1)).trans hx171_1
     replace hx171_2 := (HB.out.cell (World.block_lt_of_cell? w _ hx171_2)).trans hx171_2
     replace p171 := eq_true p171
     replace q171 := eq_true q171
     go_wp2_with (first | ((with_reducible refine gate_dst (N := 13) rfl ?_); refine box_event ?hg (N := 13) ?hd (cs := #[.int .i64 0, .int .i64 0, .int .i64 0]) (t := 76) ?hr ?_; (case hd => rfl); (case hg => rfl); (case hr => first | (go_simp; done) | (go_simp; rfl)); intro gb172 hg w41 hbox hb; have BK172 := Aside0.mk hbox; have GW172 := ge_ HB hg; have GE172 := ge_ HB hg; have NB159_172 := nl_ BK159 hg; have NB172_159 := ng_ BK159 hg; replace HO_8 := Aside0.mk (Kd.S_below (by (with_reducible repeat (first | apply Kd.S_alloc | apply Kd.S_drewN | apply Kd.S_drew)); exact HO_8.out) hb); replace HO_9 := rb_ HO_9 hb; replace HO_10 := rb_ HO_10 hb; replace HB := at_ HB hb; replace BK159 := ab_ BK159 hb; clear hb hbox hg; have hnb42 := NB172_159.out; have hnc42 := NB159_172.out; have hcz43_0 := cz_ BK172 0 (.int .i64 0); have hcz43_1 := cz_ BK172 1 (.int .i64 0); have hcz43_2 := cz_ BK172 2 (.int .i64 0); have hfz43_0 := blk_frozen BK172.out 0; have hfz43_1 := blk_frozen BK172.out 1; have hfz43_2 := blk_frozen BK172.out 2) | ((with_reducible refine gate_store (t := 76) (p := 13) rfl ?_); (try (rw [drewN_self w41]; generalize hq_ : World.drewN w41 _ = w41; replace HO_8 := Aside0.mk (Kd.S_at hq_ HO_8.out); replace HO_9 := Aside0.mk (Kd.R_at hq_ HO_9.out); replace HO_10 := Aside0.mk (Kd.R_at hq_ HO_10.out); replace BK159 := Aside0.mk (blk_at hq_ BK159.out); replace BK172 := Aside0.mk (blk_at hq_ BK172.out); replace HB := Aside0.mk (below_at hq_ HB.out); clear hq_)); refine store_event (t := 76) (p := 13) (v := ?vo_w44) (w1 := (((w41.setCell ⟨gb172, 0, none⟩ (.int .i64 ((rd_T76 l0_1 x37_2).f0))).setCell ⟨gb172, 1, none⟩ (.int .i64 ((rd_T76 l0_1 x37_2).f1))).setCell ⟨gb172, 2, none⟩ (.int .i64 ((rd_T76 l0_1 x37_2).f2)))) ?hg ?ho ?hn ?hr ?_; (case ho => rfl); (case hg => rfl); (case hn => rfl); (case hr => first | (go_simp; done) | (go_simp; rfl)); intro w44 hw; replace HO_8 : Aside0 (Kd.S (Kd.slice 3 (Kd.int .i64)) 26 w44 w.heap.size (fun k_ => some k_ ≠ (v166 : Value).ownBlock ∧ some k_ ≠ (u10 : Value).ownBlock) (.slice (some ad163) t160.length co18) t160) := ⟨(by rw [hw]; exact (by (with_reducible repeat (first | apply Kd.S_alloc | apply Kd.S_drewN | apply Kd.S_drew)); exact Kd.S_mono (Kd.S_far (p := ⟨gb172, 2, none⟩) (Kd.S_far (p := ⟨gb172, 1, none⟩) (Kd.S_far (p := ⟨gb172, 0, none⟩) (Kd.S_types HO_8.out BK172.out (by decide)) (fun _ hk => hk.2) (.int .i64 ((rd_T76 l0_1 x37_2).f0))) (fun _ hk => hk.2) (.int .i64 ((rd_T76 l0_1 x37_2).f1))) (fun _ hk => hk.2) (.int .i64 ((rd_T76 l0_1 x37_2).f2))) (fun _ hk => by first | exact ⟨hk.1.1, hk.1.2⟩ | grind)))⟩; replace HO_9 : Aside0 (Kd.R (Kd.int .i64) 3 w44 w.heap.size (fun k_ => some k_ ≠ (u10 : Value).ownBlock) v166 t165) := ⟨(by rw [hw]; exact (by (with_reducible repeat (first | apply Kd.R_alloc | apply Kd.R_drewN | apply Kd.R_drew)); exact Kd.R_mono (Kd.R_far (p := ⟨gb172, 2, none⟩) (Kd.R_far (p := ⟨gb172, 1, none⟩) (Kd.R_far (p := ⟨gb172, 0, none⟩) (Kd.R_types HO_9.out BK172.out (by decide)) (fun _ hk => hk.2) (.int .i64 ((rd_T76 l0_1 x37_2).f0))) (fun _ hk => hk.2) (.int .i64 ((rd_T76 l0_1 x37_2).f1))) (fun _ hk => hk.2) (.int .i64 ((rd_T76 l0_1 x37_2).f2))) (fun _ hk => hk.1)))⟩; replace HO_10 : Aside0 (Kd.R (Kd.int .i64) 3 w44 w.heap.size (fun k_ => some k_ ≠ (v166 : Value).ownBlock) u10 x10_1) := ⟨(by rw [hw]; exact (by (with_reducible repeat (first | apply Kd.R_alloc | apply Kd.R_drewN | apply Kd.R_drew)); exact Kd.R_mono (Kd.R_far (p := ⟨gb172, 2, none⟩) (Kd.R_far (p := ⟨gb172, 1, none⟩) (Kd.R_far (p := ⟨gb172, 0, none⟩) (Kd.R_types HO_10.out BK172.out (by decide)) (fun _ hk => hk.2) (.int .i64 ((rd_T76 l0_1 x37_2).f0))) (fun _ hk => hk.2) (.int .i64 ((rd_T76 l0_1 x37_2).f1))) (fun _ hk => hk.2) (.int .i64 ((rd_T76 l0_1 x37_2).f2))) (fun _ hk => hk.1)))⟩; replace BK159 : Aside0 (w44.heap[gb159]? = some (.cells #[.int .i64 a0_0, .slice (some ad171) l0_1.length c0_1] 30 (0, 0))) := ⟨(by rw [hw]; exact (bc_ BK159))⟩; replace BK172 : Aside0 (w44.heap[gb172]? = some (.cells #[.int .i64 ((rd_T76 l0_1 x37_2).f0), .int .i64 ((rd_T76 l0_1 x37_2).f1), .int .i64 ((rd_T76 l0_1 x37_2).f2)] 76 (0, 0))) := ⟨(by rw [hw]; exact (by (with_reducible repeat (first | refine blk_drewN ?_ _ | refine blk_drew ?_ | refine blk_alloc ?_ _)); refine blk_put (cs := #[.int .i64 ((rd_T76 l0_1 x37_2).f0), .int .i64 ((rd_T76 l0_1 x37_2).f1), .int .i64 0]) ?_ 2 _ rfl; (with_reducible repeat (first | refine blk_drewN ?_ _ | refine blk_drew ?_ | refine blk_alloc ?_ _)); refine blk_put (cs := #[.int .i64 ((rd_T76 l0_1 x37_2).f0), .int .i64 0, .int .i64 0]) ?_ 1 _ rfl; (with_reducible repeat (first | refine blk_drewN ?_ _ | refine blk_drew ?_ | refine blk_alloc ?_ _)); refine blk_put (cs := #[.int .i64 0, .int .i64 0, .int .i64 0]) ?_ 0 _ rfl; (with_reducible repeat (first | refine blk_drewN ?_ _ | refine blk_drew ?_ | refine blk_alloc ?_ _)); exact BK172.out))⟩; replace HB : Aside0 (Below w.heap.size w w44) := ⟨(by rw [hw]; exact (bw_))⟩; clear hw; have hcz45_0 := cz_ BK172 0 (.int .i64 ((rd_T76 l0_1 x37_2).f0)); have hcz45_1 := cz_ BK172 1 (.int .i64 ((rd_T76 l0_1 x37_2).f1)); have hcz45_2 := cz_ BK172 2 (.int .i64 ((rd_T76 l0_1 x37_2).f2)); have hfz45_0 := blk_frozen BK172.out 0; have hfz45_1 := blk_frozen BK172.out 1; have hfz45_2 := blk_frozen BK172.out 2; have p173 : 0 ≤ (((rd_T76 l0_1 x37_2).f1) : Int) := of_decide_eq_true (by first | (with_reducible assumption) | assumption); have q173 : ((rd_T76 l0_1 x37_2).f1) < (t160.length : Int) := of_decide_eq_true (by first | (with_reducible assumption) | assumption); obtain ⟨ad173, A173_0, c173_0, e173, hx173_0, hl173_0, hi173_0⟩ := at_L2 (Kd.S_reads' HO_8.out).2.2 ((rd_T76 l0_1 x37_2).f1) p173 q173; obtain rfl : ad163 = ad173 := (by injection e173); obtain ⟨ce173, hce173, hMe173, hcc173⟩ := Kd.S_get HO_8.out [] ((rd_T76 l0_1 x37_2).f1) p173 (by first | exact q173 | exact of_decide_eq_true (by first | (with_reducible assumption) | assumption) | (have e_ := (Kd.S_reads' HO_8.out).1; omega)); obtain ⟨ve173_0, rfl, ge173_0⟩ := hMe173; have hv173_0 := hcc173 0 _ rfl; rw [Nat.add_zero, show ((Kd.slice 3 (Kd.int .i64))).sz = 1 from rfl, Nat.mul_one] at hv173_0; replace hv173_0 := Option.some.inj (hv173_0.symm.trans hx173_0); rw [hv173_0] at ge173_0; have HL173_0 := Aside0.mk (show Kd.R (Kd.int .i64) 3 _ _ _ _ (rd_L2 t160 ((rd_T76 l0_1 x37_2).f1)) from ge173_0); clear hv173_0 ge173_0; clear hcc173 hce173; have HR173_0 := Aside0.mk hi173_0; have HC173_0 := Aside0.mk hl173_0; clear hi173_0 hl173_0; replace p173 := eq_true p173; replace q173 := eq_true q173; have p174 : 0 ≤ (a2 : Int) := of_decide_eq_true (by first | (with_reducible assumption) | assumption); have q174 : a2 < ((rd_L2 t160 ((rd_T76 l0_1 x37_2).f1)).length : Int) := of_decide_eq_true (by first | (with_reducible assumption) | assumption); obtain ⟨ad174, e174, hx174_0⟩ := Kd.at_int (by repeat (first | (with_reducible exact HR173_0.out) | (with_reducible refine Kd.C_alloc ?_ _) | (with_reducible refine Kd.C_drewN ?_ _) | (with_reducible refine Kd.C_drew ?_) | exact HR173_0.out)) a2 p174 q174; cases e174; replace p174 := eq_true p174; replace q174 := eq_true q174; have p175 : 0 ≤ (x11_2 : Int) := of_decide_eq_true (by first | (with_reducible assumption) | assumption); have q175 : x11_2 < (t160.length : Int) := of_decide_eq_true (by first | (with_reducible assumption) | assumption); obtain ⟨ad175, A175_0, c175_0, e175, hx175_0, hl175_0, hi175_0⟩ := at_L2 (Kd.S_reads' HO_8.out).2.2 x11_2 p175 q175; obtain rfl : ad163 = ad175 := (by injection e175); obtain ⟨ce175, hce175, hMe175, hcc175⟩ := Kd.S_get HO_8.out [] x11_2 p175 (by first | exact q175 | exact of_decide_eq_true (by first | (with_reducible assumption) | assumption) | (have e_ := (Kd.S_reads' HO_8.out).1; omega)); obtain ⟨ve175_0, rfl, ge175_0⟩ := hMe175; have hv175_0 := hcc175 0 _ rfl; rw [Nat.add_zero, show ((Kd.slice 3 (Kd.int .i64))).sz = 1 from rfl, Nat.mul_one] at hv175_0; replace hv175_0 := Option.some.inj (hv175_0.symm.trans hx175_0); rw [hv175_0] at ge175_0; have HL175_0 := Aside0.mk (show Kd.R (Kd.int .i64) 3 _ _ _ _ (rd_L2 t160 x11_2) from ge175_0); clear hv175_0 ge175_0; clear hcc175 hce175; have HR175_0 := Aside0.mk hi175_0; have HC175_0 := Aside0.mk hl175_0; clear hi175_0 hl175_0; replace p175 := eq_true p175; replace q175 := eq_true q175; have p176 : 0 ≤ (a2 : Int) := of_decide_eq_true (by first | (with_reducible assumption) | assumption); have q176 : a2 < ((rd_L2 t160 x11_2).length : Int) := of_decide_eq_true (by first | (with_reducible assumption) | assumption); obtain ⟨ad176, e176, hx176_0⟩ := Kd.at_int (by repeat (first | (with_reducible exact HR175_0.out) | (with_reducible refine Kd.C_alloc ?_ _) | (with_reducible refine Kd.C_drewN ?_ _) | (with_reducible refine Kd.C_drew ?_) | exact HR175_0.out)) a2 p176 q176; cases e176; replace p176 := eq_true p176; replace q176 := eq_true q176; obtain ⟨Ao46, co46, eo46⟩ := Kd.R_slice HO_9.out; subst eo46; have p177 : 0 ≤ (((rd_T76 l0_1 x37_2).f1) : Int) := of_decide_eq_true (by first | (with_reducible assumption) | assumption); have q177 : ((rd_T76 l0_1 x37_2).f1) < (t165.length : Int) := of_decide_eq_true (by first | (with_reducible assumption) | assumption); obtain ⟨ad177, e177, hx177_0⟩ := Kd.at_int (Kd.R_reads' HO_9.out).2.2 ((rd_T76 l0_1 x37_2).f1) p177 q177; cases e177; replace p177 := eq_true p177; replace q177 := eq_true q177; have p178 : 0 ≤ (x11_2 : Int) := of_decide_eq_true (by first | (with_reducible assumption) | assumption); have q178 : x11_2 < (t165.length : Int) := of_decide_eq_true (by first | (with_reducible assumption) | assumption); obtain ⟨ad178, e178, hx178_0⟩ := Kd.at_int (Kd.R_reads' HO_9.out).2.2 x11_2 p178 q178; obtain rfl : ad177 = ad178 := (by injection e178); replace p178 := eq_true p178; replace q178 := eq_true q178))
     repeat (go_quiet (fail); try go_wp2_with ((with_reducible refine gate_builtin (b := .append) (xs := #[.tmp 82, .tmp 84]) rfl ?_); at_builtin; refine Kd.R_append (Kd.int .i64) (w0 := w) w.heap.size rfl (.tmp 82) (.tmp 84) 26 3 (.int .i64 0) 8 rfl Try.underlying26 info3 rfl (by decide) (by omega) u10 x10_1 ((rd_T76 l0_1 x37_2).f1) [.int .i64 ((rd_T76 l0_1 x37_2).f1)] (fun k_ => some k_ ≠ (.slice (some ad177) t165.length co46 : Value).ownBlock) (fun _ => False) rfl rfl ?aP (fun _ hk => hk.elim) ?aF ?aO ?aB ?aS ?aL ?_; (case aP => exact rfl); (case aB => exact (bw_)); (case aF => exact (fun k_ hk => Kd.fresh' (Kd.R_lt (hd_ HO_9)) k_ hk)); (case aO => exact (hd_ HO_10)); (case aS => exact (bz_ HB)); (case aL => have := LMc40.out; omega); intro v180 w47 ho hb hg hat; rw [← Ny179.out] at ho; have HO181 := Aside0.mk ho; replace HO_8 := Aside0.mk (Kd.S_after (ok := (fun k_ => some k_ ≠ (.slice (some ad177) t165.length co46 : Value).ownBlock)) (by (with_reducible repeat (first | apply Kd.S_alloc | apply Kd.S_drewN | apply Kd.S_drew)); exact HO_8.out) hg hat); replace HO_9 := Aside0.mk (Kd.R_after (ok := (fun _ => True)) (by (with_reducible repeat (first | apply Kd.R_alloc | apply Kd.R_drewN | apply Kd.R_drew)); exact Kd.R_mono HO_9.out (fun _ hk => by first | exact ⟨trivial, hk⟩ | grind)) hg hat); replace BK159 := Aside0.mk (blk_grown (g := gb159) (o := .cells #[.int .i64 a0_0, .slice (some ad171) l0_1.length c0_1] 30 (0, 0)) (bx_ BK159) hg (Kd.R_ne HO_10.out BK159.out (by decide))); replace BK172 := Aside0.mk (blk_grown (g := gb172) (o := .cells #[.int .i64 ((rd_T76 l0_1 x37_2).f0), .int .i64 ((rd_T76 l0_1 x37_2).f1), .int .i64 ((rd_T76 l0_1 x37_2).f2)] 76 (0, 0)) (bx_ BK172) hg (Kd.R_ne HO_10.out BK172.out (by decide))); replace HL173_0 := Aside0.mk (Kd.R_after (ok := (fun k_ => some k_ ≠ (.slice (some ad163) t160.length co18 : Value).ownBlock ∧ some k_ ≠ (.slice (some ad177) t165.length co46 : Value).ownBlock)) (by (with_reducible repeat (first | apply Kd.R_alloc | apply Kd.R_drewN | apply Kd.R_drew)); exact Kd.R_mono HL173_0.out (fun _ hk => ⟨⟨hk.2, hk.1.1⟩, hk.1.2⟩)) hg hat); replace HL175_0 := Aside0.mk (Kd.R_after (ok := (fun k_ => some k_ ≠ (.slice (some ad163) t160.length co18 : Value).ownBlock ∧ some k_ ≠ (.slice (some ad177) t165.length co46 : Value).ownBlock)) (by (with_reducible repeat (first | apply Kd.R_alloc | apply Kd.R_drewN | apply Kd.R_drew)); exact Kd.R_mono HL175_0.out (fun _ hk => ⟨⟨hk.2, hk.1.1⟩, hk.1.2⟩)) hg hat); replace HB := Aside0.mk (hb); clear HO_10; clear ho hb hg hat))
     go_roundg k2
     case measure => have := HK1.out; have := HK2.out; omega
     case rel => exact ⟨(y179), ((rd_T76 l0_1 x37_2).f1), (by first | rfl | (simp; done) | (simp [*]; done)), H', ⟨by have := HK1.out; have := HK2.out; omega⟩, ⟨by (with_reducible repeat (first | apply Kd.S_alloc | apply Kd.S_drewN | apply Kd.S_drew)); exact HO_8.out⟩, ⟨by (with_reducible repeat (first | apply Kd.R_alloc | apply Kd.R_drewN | apply Kd.R_drew)); exact Kd.R_mono HO_9.out (fun _ hk => hk.2)⟩, ⟨by (with_reducible repeat (first | apply Kd.R_alloc | apply Kd.R_drewN | apply Kd.R_drew)); exact HO181.out⟩, ⟨bx_ BK159⟩, ⟨bw_⟩⟩

/-! ### impl_TreeOf: function 13 -/
mutual
def impl_TreeOf.j0 : Nat → Int → Bool → Int → List (S76) → Option (List Int)
 | 0, _, _, _, _ => none
 | k + 1, x1, x17, x186000, x186001 => if x17 = true then (some ([] : List Int)) else (impl_TreeOf.l0 k x1 (([] : List Int)) x186000 0 x186000 x186001)
def impl_TreeOf.l0 : Nat → Int → List Int → Int → Int → Int → List (S76) → Option (List Int)
 | 0, _, _, _, _, _, _ => none
 | k + 1, x1, x5, x20, x21, x186000, x186001 => if x21 < x20 then ((impl_Graph_cheapest.f k x186000 x186001 x1 x21).bind fun bt191 => (if (bt191.1.length : Int) < 2 then (if x5.length < 17592186044416 then (impl_TreeOf.l0 k x1 (x5 ++ [(-1)]) x20 (wrap64 (x21 + 1)) x186000 x186001) else (none)) else (if 0 ≤ (wrap64 ((bt191.1.length : Int) - 2)) then (if (wrap64 ((bt191.1.length : Int) - 2)) < (bt191.1.length : Int) then (if x5.length < 17592186044416 then (impl_TreeOf.l0 k x1 (x5 ++ [rd bt191.1 (wrap64 ((bt191.1.length : Int) - 2))]) x20 (wrap64 (x21 + 1)) x186000 x186001) else (none)) else (none)) else (none)))) else (some x5)
end
def impl_TreeOf.f (k : Nat) (a0_0 : Int) (l0_1 : List (S76)) (a1 : Int) : Option (List Int) := (impl_GraphOk.f k a0_0 l0_1).bind fun t186 => (if t186 = true then ((impl_Graph_isNode.f a0_0 l0_1 a1).bind fun t187 => (impl_TreeOf.j0 k a1 (!t187) a0_0 l0_1)) else (impl_TreeOf.j0 k a1 true a0_0 l0_1))
theorem impl_TreeOf.mono_l : ∀ k, (∀ y0 y1 y2 y3, LeO (impl_TreeOf.j0 k y0 y1 y2 y3) (impl_TreeOf.j0 (k + 1) y0 y1 y2 y3)) ∧ (∀ y0 y1 y2 y3 y4 y5, LeO (impl_TreeOf.l0 k y0 y1 y2 y3 y4 y5) (impl_TreeOf.l0 (k + 1) y0 y1 y2 y3 y4 y5))
 | 0 => ⟨fun _ _ _ _ r h => by simp [impl_TreeOf.j0] at h, fun _ _ _ _ _ _ r h => by simp [impl_TreeOf.l0] at h⟩
 | k + 1 => by
  obtain ⟨ih0, ih1⟩ := impl_TreeOf.mono_l k
  refine ⟨?_, ?_⟩
  ·intro y0 y1 y2 y3
   unfold impl_TreeOf.j0
   repeat' first
   | (with_reducible exact ih0 _ _ _ _)
   | (with_reducible exact ih1 _ _ _ _ _ _)
   | (with_reducible exact impl_GraphOk.mono _ _ _)
   | (with_reducible exact impl_Graph_cheapest.mono _ _ _ _ _)
   | (with_reducible exact LeO.refl _)
   | (with_reducible exact LeO.none _)
   | (with_reducible refine LeO.ite ?_ ?_)
   | (with_reducible refine LeO.bind ?_ (fun _ => ?_))
   | exact ih0 _ _ _ _
   | exact ih1 _ _ _ _ _ _
   | exact impl_GraphOk.mono _ _ _
   | exact impl_Graph_cheapest.mono _ _ _ _ _
   | exact LeO.none _
   | refine LeO.ite ?_ ?_
   | refine LeO.bind ?_ (fun _ => ?_)
  ·intro y0 y1 y2 y3 y4 y5
   unfold impl_TreeOf.l0
   repeat' first
   | (with_reducible exact ih0 _ _ _ _)
   | (with_reducible exact ih1 _ _ _ _ _ _)
   | (with_reducible exact impl_GraphOk.mono _ _ _)
   | (with_reducible exact impl_Graph_cheapest.mono _ _ _ _ _)
   | (with_reducible exact LeO.refl _)
   | (with_reducible exact LeO.none _)
   | (with_reducible refine LeO.ite ?_ ?_)
   | (with_reducible refine LeO.bind ?_ (fun _ => ?_))
   | exact ih0 _ _ _ _
   | exact ih1 _ _ _ _ _ _
   | exact impl_GraphOk.mono _ _ _
   | exact impl_Graph_cheapest.mono _ _ _ _ _
   | exact LeO.none _
   | refine LeO.ite ?_ ?_
   | refine LeO.bind ?_ (fun _ => ?_)
theorem impl_TreeOf.mono : ∀ a0 a1 a2 k, LeO (impl_TreeOf.f k a0 a1 a2) (impl_TreeOf.f (k + 1) a0 a1 a2) := by
 intro a0 a1 a2 k
 obtain ⟨ih0, ih1⟩ := impl_TreeOf.mono_l k
 unfold impl_TreeOf.f
 repeat' first
   | (with_reducible exact ih0 _ _ _ _)
   | (with_reducible exact ih1 _ _ _ _ _ _)
   | (with_reducible exact impl_GraphOk.mono _ _ _)
   | (with_reducible exact impl_Graph_cheapest.mono _ _ _ _ _)
   | (with_reducible exact LeO.refl _)
   | (with_reducible exact LeO.none _)
   | (with_reducible refine LeO.ite ?_ ?_)
   | (with_reducible refine LeO.bind ?_ (fun _ => ?_))
   | exact ih0 _ _ _ _
   | exact ih1 _ _ _ _ _ _
   | exact impl_GraphOk.mono _ _ _
   | exact impl_Graph_cheapest.mono _ _ _ _ _
   | exact LeO.none _
   | refine LeO.ite ?_ ?_
   | refine LeO.bind ?_ (fun _ => ?_)
set_option maxHeartbeats 8000000 in
set_option maxRecDepth 100000 in
theorem impl_TreeOf.calls (k : Nat) (a0_0 : Int) (A0_1 : Option Addr) (c0_1 : Nat) (l0_1 : List (S76)) (a1 : Int) (r : List Int) (w : World) (hr0_1 : Kd.C k76 w A0_1 l0_1.length l0_1) (hc0_1 : l0_1.length ≤ c0_1) (h : impl_TreeOf.f k a0_0 l0_1 a1 = some r) :
  Calls Try.prog 13 #[.agg #[.int .i64 a0_0, .slice A0_1 l0_1.length c0_1], .int .i64 a1] w fun e w' => ∃ v0_ : Value, e = .returned (v0_) ∧ Kd.R (Kd.int .i64) 3 w' w.heap.size (fun _ => True) v0_ r ∧ Below w.heap.size w w' := by
 have hu30 := Try.underlying30
 have HR0_1 := Aside0.mk hr0_1
 have HC0_1 := Aside0.mk hc0_1
 clear hr0_1 hc0_1
 have HB := Aside0.mk (Below.refl w.heap.size w)
 have H : ((impl_GraphOk.f k a0_0 l0_1).bind fun t186 => (if t186 = true then ((impl_Graph_isNode.f a0_0 l0_1 a1).bind fun t187 => (impl_TreeOf.j0 k a1 (!t187) a0_0 l0_1)) else (impl_TreeOf.j0 k a1 true a0_0 l0_1))) = some r := h
 clear h
 have HC3 := Aside0.mk H
 clear H
 go_enter Try.func13, Try.ntmps13
 go_upto_region 1 with ((with_reducible refine gate_dst (N := 2) rfl ?_); refine box_event ?hg (N := 2) ?hd (cs := #[.int .i64 a0_0, .slice A0_1 l0_1.length c0_1]) (t := 30) ?hr ?_; (case hd => rfl); (case hg => rfl); (case hr => first | (go_simp; done) | (go_simp; rfl)); intro gb185 hg w4 hbox hb; have BK185 := Aside0.mk hbox; have GW185 := ge_ HB hg; have GE185 := ge_ HB hg; replace HB := at_ HB hb; clear hb hbox hg)
 (try simp only [Act.put, List.setIfInBounds_toArray, List.set_cons_zero, List.set_cons_succ])
 go_cut [17] (fun v17 wc => ∃ (kq : Nat) (x17_2 : Bool), v17 = .bool x17_2 ∧ Aside0 (impl_TreeOf.j0 kq a1 x17_2 a0_0 l0_1 = some r) ∧ Aside0 (kq ≤ k) ∧ Aside0 (wc.heap[gb185]? = some (.cells #[.int .i64 a0_0, (.slice A0_1 l0_1.length c0_1)] 30 (0, 0))) ∧ Aside0 (Below w.heap.size w wc))
 case first =>
  have H := HC3.out
  clear HC3
  replace H := Option.bind_eq_some_iff.mp H
  obtain ⟨t186, A50, H⟩ := H
  have A5 := Aside0.mk A50
  clear A50
  by_cases c6 : t186 = true
  rotate_left
  ·replace c6 := Bool.eq_false_iff.mpr c6
   subst c6
   rw [if_neg (show ¬ (false = true) by decide)] at H
   have H' := Aside0.mk H
   clear H
   have hcz12_0 := cz_ BK185 0 (.int .i64 a0_0)
   have hcz12_1 := cz_ BK185 1 (.slice A0_1 l0_1.length c0_1)
   have hfz12_0 := blk_frozen BK185.out 0
   have hfz12_1 := blk_frozen BK185.out 1
   go_wp2_with ((with_reducible refine gate_callee (f := 47) rfl ?_); refine gl_ (some 10) Try.func47 #[.agg #[.int .i64 a0_0, .slice A0_1 l0_1.length c0_1]] ?_; (with_reducible refine (impl_GraphOk.calls k a0_0 _ _ l0_1 false _ ?side1 ?side2 A5.out).mono ?_); (case side1 => exact cb_ HR0_1 HB); (case side2 => exact HC0_1.out); rintro e w13 ⟨rfl, hb⟩; refine ⟨_, rfl, ?_⟩; replace BK185 := ab_ BK185 hb; replace HB := at_ HB hb; (try clear hb); (try clear hb2); (try clear hk); (try clear hi))
   go_meet
   case rel => exact ⟨_, (true), (by first | rfl | (simp; done) | (simp [*]; done)), H', ⟨by first | omega | exact Nat.le_refl _⟩, ⟨bx_ BK185⟩, ⟨bw_⟩⟩
  subst c6
  rw [if_pos rfl] at H
  replace H := Option.bind_eq_some_iff.mp H
  obtain ⟨t187, A70, H⟩ := H
  have A7 := Aside0.mk A70
  clear A70
  have H' := Aside0.mk H
  clear H
  have hcz8_0 := cz_ BK185 0 (.int .i64 a0_0)
  have hcz8_1 := cz_ BK185 1 (.slice A0_1 l0_1.length c0_1)
  have hfz8_0 := blk_frozen BK185.out 0
  have hfz8_1 := blk_frozen BK185.out 1
  go_wp2_with (first | ((with_reducible refine gate_callee (f := 47) rfl ?_); refine gl_ (some 10) Try.func47 #[.agg #[.int .i64 a0_0, .slice A0_1 l0_1.length c0_1]] ?_; (with_reducible refine (impl_GraphOk.calls k a0_0 _ _ l0_1 true _ ?side1 ?side2 A5.out).mono ?_); (case side1 => exact cb_ HR0_1 HB); (case side2 => exact HC0_1.out); rintro e w9 ⟨rfl, hb⟩; refine ⟨_, rfl, ?_⟩; replace BK185 := ab_ BK185 hb; replace HB := at_ HB hb; (try clear hb); (try clear hb2); (try clear hk); (try clear hi); have hcz10_0 := cz_ BK185 0 (.int .i64 a0_0); have hcz10_1 := cz_ BK185 1 (.slice A0_1 l0_1.length c0_1); have hfz10_0 := blk_frozen BK185.out 0; have hfz10_1 := blk_frozen BK185.out 1) | (go_at_call 48; (with_reducible refine (impl_Graph_isNode.calls a0_0 _ _ l0_1 a1 t187 _ ?side1 ?side2 A7.out).mono ?_); (case side1 => exact cb_ HR0_1 HB); (case side2 => exact HC0_1.out); rintro e w11 ⟨rfl, hb⟩; replace BK185 := ab_ BK185 hb; replace HB := at_ HB hb; (try clear hb); (try clear hb2); (try clear hk); (try clear hi)))
  go_meet
  case rel => exact ⟨_, (!t187), (by first | rfl | (simp; done) | (simp [*]; done)), H', ⟨by first | omega | exact Nat.le_refl _⟩, ⟨bx_ BK185⟩, ⟨bw_⟩⟩
 case rest =>
  clear HC3
  try clear c1
  try clear p2
  try clear c4
  try clear c6
  try clear c13
  try clear hcz10_0
  try clear hcz10_1
  try clear hcz12_0
  try clear hcz12_1
  try clear hcz8_0
  try clear hcz8_1
  try clear hfz10_0
  try clear hfz10_1
  try clear hfz12_0
  try clear hfz12_1
  try clear hfz8_0
  try clear hfz8_1
  obtain ⟨kq, x17_2, rfl, HA, HJ2, BK185, HB⟩ := hcut
  cases kq with
  | zero => exact absurd HA.out (by simp [impl_TreeOf.j0])
  | succ kj2 =>
   have H := HA.out
   clear HA
   simp only [impl_TreeOf.j0] at H
   by_cases c14 : x17_2 = true
   ·subst c14
    rw [if_pos rfl] at H
    obtain rfl := Option.some.inj H
    go_wp2
    go_ret
    exact ⟨_, by first | rfl | (simp [errW_none, errW_some] <;> rfl) | (simp [*, errW_none, errW_some] <;> rfl), by first | exact Kd.R_nil _ _ _ _ _ | exact Kd.N_nil _ _ _ _ _ | exact Kd.V_nil _ _ _ _ _ | exact Kd.Q_nil _ _ _ _ _ | exact Kd.S_nil _ _ _ _ _, bw_⟩
   replace c14 := Bool.eq_false_iff.mpr c14
   subst c14
   rw [if_neg (show ¬ (false = true) by decide)] at H
   obtain ⟨y188, hy188⟩ : ∃ y_ : List Int, y_ = (([] : List Int)) := ⟨_, rfl⟩
   replace H : (impl_TreeOf.l0 kj2 a1 y188 a0_0 0 a0_0 l0_1) = some r := by first | (rw [hy188]; with_reducible exact H) | (have H2_ := (Option.bind_some _ _).symm.trans H; rw [hy188]; with_reducible exact H2_) | (have H2_ := (Option.bind_some _ _).symm.trans H; with_reducible exact H2_) | with_reducible exact H | (rw [hy188]; exact H) | exact H
   have Ny188 := Aside0.mk hy188
   clear hy188
   have H' := Aside0.mk H
   clear H
   go_wp2_with ((with_reducible refine gate_dst (N := 18) rfl ?_); refine Kd.R_lit (Kd.int .i64) _ 3 ?hg (N := 18) ?hd (xs := ([] : List Int)) (inner := []) (ok := fun _ => True) (okp := fun _ => True) ?hr ?hp (fun _ hk => hk) trivial (Below.refl _ _) (Nat.le_refl _) (by simp) ?_; (case hd => rfl); (case hg => rfl); (case hr => first | (go_simp; done) | (go_simp; rfl)); (case hp => exact (Reps.none _ _)); intro v189 w15 ho16 hb hg_ hnew_; clear hg_ hnew_; (first | rw [← Ny188.out] at ho16 | (simp only [Int.reduceToNat] at ho16; rw [← Ny188.out] at ho16)); have HO190 := Aside0.mk (Kd.R_lower ho16 (bz_ HB)); replace BK185 := ab_ BK185 hb; replace HB := at_ HB hb; clear hb ho16; have hcz17_0 := cz_ BK185 0 (.int .i64 a0_0); have hcz17_1 := cz_ BK185 1 (.slice A0_1 l0_1.length c0_1); have hfz17_0 := blk_frozen BK185.out 0; have hfz17_1 := blk_frozen BK185.out 1)
   go_loopg [5, 21] kj2 (fun kq v5 v21 w' => ∃ (x5_2 : List Int) (x21_2 : Int), v21 = .int .i64 x21_2 ∧ Aside0 (impl_TreeOf.l0 kq a1 x5_2 a0_0 x21_2 a0_0 l0_1 = some r) ∧ Aside0 (kq ≤ kj2) ∧ Aside0 (Kd.R (Kd.int .i64) 3 w' w.heap.size (fun _ => True) v5 x5_2) ∧ Aside0 (w'.heap[gb185]? = some (.cells #[.int .i64 a0_0, (.slice A0_1 l0_1.length c0_1)] 30 (0, 0))) ∧ Aside0 (Below w.heap.size w w'))
   case atStart => exact ⟨(y188), (0), (by first | rfl | (simp; done) | (simp [*]; done)), H', ⟨Nat.le_refl _⟩, ⟨by (with_reducible repeat (first | apply Kd.R_alloc | apply Kd.R_drewN | apply Kd.R_drew)); exact HO190.out⟩, ⟨bx_ BK185⟩, ⟨bw_⟩⟩
   case round =>
    clear H'
    try clear c1
    try clear p2
    try clear c4
    try clear c6
    try clear c13
    try clear c14
    try clear hcz10_0
    try clear hcz10_1
    try clear hcz12_0
    try clear hcz12_1
    try clear hcz17_0
    try clear hcz17_1
    try clear hcz8_0
    try clear hcz8_1
    try clear hfz10_0
    try clear hfz10_1
    try clear hfz12_0
    try clear hfz12_1
    try clear hfz17_0
    try clear hfz17_1
    try clear hfz8_0
    try clear hfz8_1
    try clear p2
    obtain ⟨x5_2, x21_2, rfl, HA, HK2, HO_5, BK185, HB⟩ := hrel
    cases gk with
    | zero => exact absurd HA.out (by simp [impl_TreeOf.l0])
    | succ k2 =>
     have H := HA.out
     clear HA
     simp only [impl_TreeOf.l0] at H
     by_cases c18 : x21_2 < a0_0
     rotate_left
     ·rw [if_neg c18] at H
      have c18b0 : decide (x21_2 < a0_0) = false := decide_eq_false c18
      clear c18
      obtain rfl := Option.some.inj H
      go_wp2
      go_ret
      exact ⟨_, by first | rfl | (simp [errW_none, errW_some] <;> rfl) | (simp [*, errW_none, errW_some] <;> rfl), by (with_reducible repeat (first | apply Kd.R_alloc | apply Kd.R_drewN | apply Kd.R_drew)); exact HO_5.out, bw_⟩
     rw [if_pos c18] at H
     have c18b0 : decide (x21_2 < a0_0) = true := decide_eq_true c18
     clear c18
     replace H := Option.bind_eq_some_iff.mp H
     obtain ⟨⟨t191, t194⟩, A190, H⟩ := H
     have A19 := Aside0.mk A190
     clear A190
     by_cases c20 : (t191.length : Int) < 2
     ·rw [if_pos c20] at H
      have c20b0 : decide ((t191.length : Int) < 2) = true := decide_eq_true c20
      have c20b1 : decide (t191.length < 2) = true := decide_eq_true (by omega)
      clear c20
      by_cases c21 : x5_2.length < 17592186044416
      rotate_left
      ·rw [if_neg c21] at H
       exact absurd H (by simp)
      rw [if_pos c21] at H
      have LMc21 := Aside0.mk c21
      clear c21
      obtain ⟨y195, hy195⟩ : ∃ y_ : List Int, y_ = (x5_2 ++ [(-1)]) := ⟨_, rfl⟩
      replace H : (impl_TreeOf.l0 k2 a1 y195 a0_0 (wrap64 (x21_2 + 1)) a0_0 l0_1) = some r := by first | (rw [hy195]; with_reducible exact H) | (have H2_ := (Option.bind_some _ _).symm.trans H; rw [hy195]; with_reducible exact H2_) | (have H2_ := (Option.bind_some _ _).symm.trans H; with_reducible exact H2_) | with_reducible exact H | (rw [hy195]; exact H) | exact H
      have Ny195 := Aside0.mk hy195
      clear hy195
      have H' := Aside0.mk H
      clear H
      have hcz22_0 := cz_ BK185 0 (.int .i64 a0_0)
      have hcz22_1 := cz_ BK185 1 (.slice A0_1 l0_1.length c0_1)
      have hfz22_0 := blk_frozen BK185.out 0
      have hfz22_1 := blk_frozen BK185.out 1
      go_wp2_with (first | ((with_reducible refine gate_callee (f := 49) rfl ?_); refine gl_ (some 28) Try.func49 #[.agg #[.int .i64 a0_0, .slice A0_1 l0_1.length c0_1], .int .i64 a1, .int .i64 x21_2] ?_; (with_reducible refine (impl_Graph_cheapest.calls k2 a0_0 _ _ l0_1 a1 x21_2 t191 t194 _ ?side1 ?side2 A19.out).mono ?_); (case side1 => exact cb_ HR0_1 HB); (case side2 => exact HC0_1.out); rintro e w23 ⟨v192, rfl, ho0, hb⟩; refine ⟨_, rfl, ?_⟩; have HO193 := Aside0.mk (Kd.R_lower (Kd.R_new' ho0 (Kd.R_lt (hd_ HO_5))) (bz_ HB)); replace HO_5 := Aside0.mk (Kd.R_elder' (hd_ HO_5) (Kd.R_base ho0) hb); replace BK185 := ab_ BK185 hb; replace HB := at_ HB hb; (try clear hb); (try clear hb2); (try clear hk); (try clear hi); (try clear ho0); obtain ⟨Ao24, co24, eo24⟩ := Kd.R_slice HO193.out; subst eo24) | ((with_reducible refine gate_builtin (b := .append) (xs := #[.tmp 34, .tmp 35]) rfl ?_); at_builtin; refine Kd.R_append (Kd.int .i64) (w0 := w) w.heap.size rfl (.tmp 34) (.tmp 35) 26 3 (.int .i64 0) 8 rfl Try.underlying26 info3 rfl (by decide) (by omega) u5 x5_2 (-1) [.int .i64 (-1)] (fun k_ => some k_ ≠ (.slice Ao24 t191.length co24 : Value).ownBlock) (fun _ => False) rfl rfl ?aP (fun _ hk => hk.elim) ?aF ?aO ?aB ?aS ?aL ?_; (case aP => exact rfl); (case aB => exact (bw_)); (case aF => exact (fun k_ hk => Kd.fresh' (Kd.R_lt (hd_ HO193)) k_ hk)); (case aO => exact (by (with_reducible repeat (first | apply Kd.R_alloc | apply Kd.R_drewN | apply Kd.R_drew)); exact Kd.R_mono HO_5.out (fun _ hk => hk.2))); (case aS => exact (bz_ HB)); (case aL => have := LMc21.out; omega); intro v196 w25 ho hb hg hat; rw [← Ny195.out] at ho; have HO197 := Aside0.mk ho; replace BK185 := Aside0.mk (blk_grown (g := gb185) (o := .cells #[.int .i64 a0_0, .slice A0_1 l0_1.length c0_1] 30 (0, 0)) (bx_ BK185) hg (Kd.R_ne HO_5.out BK185.out (by decide))); replace HO193 := Aside0.mk (Kd.R_after (ok := (fun _ => True)) (hd_ HO193) hg hat); replace HB := Aside0.mk (hb); clear HO_5; clear ho hb hg hat))
      go_roundg k2
      case measure => have := HJ2.out; have := HK2.out; omega
      case rel => exact ⟨(y195), (wrap64 (x21_2 + 1)), (by first | rfl | (simp; done) | (simp [*]; done)), H', ⟨by have := HJ2.out; have := HK2.out; omega⟩, ⟨by (with_reducible repeat (first | apply Kd.R_alloc | apply Kd.R_drewN | apply Kd.R_drew)); exact Kd.R_mono HO197.out (fun _ hk => trivial)⟩, ⟨bx_ BK185⟩, ⟨bw_⟩⟩
     rw [if_neg c20] at H
     have c20b0 : decide ((t191.length : Int) < 2) = false := decide_eq_false c20
     have c20b1 : decide (t191.length < 2) = false := decide_eq_false (by omega)
     clear c20
     obtain ⟨ji26, hji26⟩ : ∃ j_ : Int, (wrap64 ((t191.length : Int) - 2)) = j_ := ⟨_, rfl⟩
     first | rw [hji26] at H | simp only [hji26] at H
     (try rw [hji26] at A19)
     have hji26w : (IntKind.i64.wrap ((t191.length : Int) - 2)) = ji26 := (i64_w _).trans hji26
     by_cases c27 : 0 ≤ (ji26)
     rotate_left
     ·rw [if_neg c27] at H
      exact absurd H (by simp)
     rw [if_pos c27] at H
     have c27b0 : decide (0 ≤ (ji26)) = true := decide_eq_true c27
     clear c27
     by_cases c28 : (ji26) < (t191.length : Int)
     rotate_left
     ·rw [if_neg c28] at H
      exact absurd H (by simp)
     rw [if_pos c28] at H
     have c28b0 : decide ((ji26) < (t191.length : Int)) = true := decide_eq_true c28
     clear c28
     by_cases c29 : x5_2.length < 17592186044416
     rotate_left
     ·rw [if_neg c29] at H
      exact absurd H (by simp)
     rw [if_pos c29] at H
     have LMc29 := Aside0.mk c29
     clear c29
     obtain ⟨y199, hy199⟩ : ∃ y_ : List Int, y_ = (x5_2 ++ [rd t191 (ji26)]) := ⟨_, rfl⟩
     replace H : (impl_TreeOf.l0 k2 a1 y199 a0_0 (wrap64 (x21_2 + 1)) a0_0 l0_1) = some r := by first | (rw [hy199]; with_reducible exact H) | (have H2_ := (Option.bind_some _ _).symm.trans H; rw [hy199]; with_reducible exact H2_) | (have H2_ := (Option.bind_some _ _).symm.trans H; with_reducible exact H2_) | with_reducible exact H | (rw [hy199]; exact H) | exact H
     have Ny199 := Aside0.mk hy199
     clear hy199
     have H' := Aside0.mk H
     clear H
     have hcz30_0 := cz_ BK185 0 (.int .i64 a0_0)
     have hcz30_1 := cz_ BK185 1 (.slice A0_1 l0_1.length c0_1)
     have hfz30_0 := blk_frozen BK185.out 0
     have hfz30_1 := blk_frozen BK185.out 1
     go_wp2_with (first | ((with_reducible refine gate_callee (f := 49) rfl ?_); refine gl_ (some 28) Try.func49 #[.agg #[.int .i64 a0_0, .slice A0_1 l0_1.length c0_1], .int .i64 a1, .int .i64 x21_2] ?_; (with_reducible refine (impl_Graph_cheapest.calls k2 a0_0 _ _ l0_1 a1 x21_2 t191 t194 _ ?side1 ?side2 A19.out).mono ?_); (case side1 => exact cb_ HR0_1 HB); (case side2 => exact HC0_1.out); rintro e w31 ⟨v192, rfl, ho0, hb⟩; refine ⟨_, rfl, ?_⟩; have HO193 := Aside0.mk (Kd.R_lower (Kd.R_new' ho0 (Kd.R_lt (hd_ HO_5))) (bz_ HB)); replace HO_5 := Aside0.mk (Kd.R_elder' (hd_ HO_5) (Kd.R_base ho0) hb); replace BK185 := ab_ BK185 hb; replace HB := at_ HB hb; (try clear hb); (try clear hb2); (try clear hk); (try clear hi); (try clear ho0); obtain ⟨Ao32, co32, eo32⟩ := Kd.R_slice HO193.out; subst eo32; have p198 : 0 ≤ ((ji26) : Int) := of_decide_eq_true (by first | (with_reducible assumption) | assumption); have q198 : (ji26) < (t191.length : Int) := of_decide_eq_true (by first | (with_reducible assumption) | assumption); obtain ⟨ad198, e198, hx198_0⟩ := Kd.at_int (Kd.R_reads' HO193.out).2.2 (ji26) p198 q198; cases e198; replace p198 := eq_true p198; replace q198 := eq_true q198) | ((with_reducible refine gate_builtin (b := .append) (xs := #[.tmp 37, .tmp 44]) rfl ?_); at_builtin; refine Kd.R_append (Kd.int .i64) (w0 := w) w.heap.size rfl (.tmp 37) (.tmp 44) 26 3 (.int .i64 0) 8 rfl Try.underlying26 info3 rfl (by decide) (by omega) u5 x5_2 (rd t191 (ji26)) [.int .i64 (rd t191 (ji26))] (fun k_ => some k_ ≠ (.slice (some ad198) t191.length co32 : Value).ownBlock) (fun _ => False) rfl rfl ?aP (fun _ hk => hk.elim) ?aF ?aO ?aB ?aS ?aL ?_; (case aP => exact rfl); (case aB => exact (bw_)); (case aF => exact (fun k_ hk => Kd.fresh' (Kd.R_lt (hd_ HO193)) k_ hk)); (case aO => exact (by (with_reducible repeat (first | apply Kd.R_alloc | apply Kd.R_drewN | apply Kd.R_drew)); exact Kd.R_mono HO_5.out (fun _ hk => hk.2))); (case aS => exact (bz_ HB)); (case aL => have := LMc29.out; omega); intro v200 w33 ho hb hg hat; rw [← Ny199.out] at ho; have HO201 := Aside0.mk ho; replace BK185 := Aside0.mk (blk_grown (g := gb185) (o := .cells #[.int .i64 a0_0, .slice A0_1 l0_1.length c0_1] 30 (0, 0)) (bx_ BK185) hg (Kd.R_ne HO_5.out BK185.out (by decide))); replace HO193 := Aside0.mk (Kd.R_after (ok := (fun _ => True)) (hd_ HO193) hg hat); replace HB := Aside0.mk (hb); clear HO_5; clear ho hb hg hat))
     go_roundg k2
     case measure => have := HJ2.out; have := HK2.out; omega
     case rel => exact ⟨(y199), (wrap64 (x21_2 + 1)), (by first | rfl | (simp; done) | (simp [*]; done)), H', ⟨by have := HJ2.out; have := HK2.out; omega⟩, ⟨by (with_reducible repeat (first | apply Kd.R_alloc | apply Kd.R_drewN | apply Kd.R_drew)); exact Kd.R_mono HO201.out (fun _ hk => trivial)⟩, ⟨bx_ BK185⟩, ⟨bw_⟩⟩

/-! ### laws_big: function 23 -/
def laws_big.f (l0 : List Int) : Option (Bool) := some (decide ((l0.length : Int) > 1048576))
set_option maxHeartbeats 8000000 in
set_option maxRecDepth 100000 in
theorem laws_big.calls (A0 : Option Addr) (c0 : Nat) (l0 : List Int) (r : Bool) (w : World) (hr0 : Kd.C (Kd.int .u8) w A0 l0.length l0) (hc0 : l0.length ≤ c0) (h : laws_big.f l0 = some r) :
  Calls Try.prog 23 #[.slice A0 l0.length c0] w fun e w' => e = .returned (.bool r) ∧ Drawn0 w w' := by
 have HR0 := Aside0.mk hr0
 have HC0 := Aside0.mk hc0
 clear hr0 hc0
 have H : (some (decide ((l0.length : Int) > 1048576))) = some r := h
 clear h
 obtain rfl := Option.some.inj H
 go_enter Try.func23, Try.ntmps23
 go_wp2
 go_ret
 exact ⟨by first | rfl | (simp; done) | (simp [*]; done), by repeat (first | exact Drawn0.refl _ | apply Drawn0.step)⟩

end Go.Proofs.Ythmahcohcphljaa.QFnHops
