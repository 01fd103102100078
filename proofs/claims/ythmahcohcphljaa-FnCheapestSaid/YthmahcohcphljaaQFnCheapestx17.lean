/- Contracts of functions that the law reaches: what each call returns and what it leaves in memory. Made by this session over the print of the kit. -/
import Derived.Test.YthmahcohcphljaaQFnCheapestx0
import Derived.Test.YthmahcohcphljaaQFnCheapestx3
import Derived.Test.YthmahcohcphljaaQFnCheapestx4
import Derived.Test.YthmahcohcphljaaQFnCheapestx5
import Derived.Test.YthmahcohcphljaaQFnCheapestx7
import Derived.Test.YthmahcohcphljaaQFnCheapestx16
namespace Go.Proofs.Ythmahcohcphljaa.QFnCheapest
open Go.RowKit Go.Proofs.YthmahcohcphljaaC.PrintWords Go.Proofs.YthmahcohcphljaaC.PrintLast Go.Proofs.YthmahcohcphljaaC.PrintMore
attribute [local go_sem] max2_int min2_int max_two min_two max_three min_three max_four min_four
set_option linter.unusedVariables false
set_option linter.unusedSimpArgs false
mutual
def impl_Graph_cheapest.l0 : Nat → Int → List (List Int) → List Int → List Int → Int → Int → List (S76) → Option (List Int × Bool)
 | 0, _, _, _, _, _, _, _ => none
 | k + 1, x2, x8, x9, x10, x11, x510000, x510001 => if x11 = x2 then (some (x10, true)) else (impl_Graph_cheapest.l1 k x2 x8 x9 x10 x11 x510001 (x510001.length : Int) 0 x510000 x510001)
def impl_Graph_cheapest.l1 : Nat → Int → List (List Int) → List Int → List Int → Int → List (S76) → Int → Int → Int → List (S76) → Option (List Int × Bool)
 | 0, _, _, _, _, _, _, _, _, _, _ => none
 | k + 1, x2, x8, x9, x10, x11, x35, x36, x37, x510000, x510001 => if x37 < x36 then (if 0 ≤ x37 then (if x37 < (x35.length : Int) then (if ((rd_T76 x35 x37).f0) = x11 then (if 0 ≤ ((rd_T76 x35 x37).f1) then (if ((rd_T76 x35 x37).f1) < (x8.length : Int) then (if 0 ≤ x2 then (if x2 < ((rd_L3 x8 ((rd_T76 x35 x37).f1)).length : Int) then (if 0 ≤ x11 then (if x11 < (x8.length : Int) then (if x2 < ((rd_L3 x8 x11).length : Int) then (if (wrap64 (((rd_T76 x35 x37).f2) + (rd (rd_L3 x8 ((rd_T76 x35 x37).f1)) x2))) = (rd (rd_L3 x8 x11) x2) then (if ((rd_T76 x35 x37).f1) < (x9.length : Int) then (if x11 < (x9.length : Int) then (if (rd x9 ((rd_T76 x35 x37).f1)) = (wrap64 ((rd x9 x11) - 1)) then (if x10.length < 17592186044416 then (impl_Graph_cheapest.l0 k x2 x8 x9 (x10 ++ [(rd_T76 x35 x37).f1]) ((rd_T76 x35 x37).f1) x510000 x510001) else (none)) else (impl_Graph_cheapest.l1 k x2 x8 x9 x10 x11 x35 x36 (wrap64 (x37 + 1)) x510000 x510001)) else (none)) else (none)) else (impl_Graph_cheapest.l1 k x2 x8 x9 x10 x11 x35 x36 (wrap64 (x37 + 1)) x510000 x510001)) else (none)) else (none)) else (none)) else (none)) else (none)) else (none)) else (none)) else (impl_Graph_cheapest.l1 k x2 x8 x9 x10 x11 x35 x36 (wrap64 (x37 + 1)) x510000 x510001)) else (none)) else (none)) else (if x10.length < 17592186044416 then (impl_Graph_cheapest.l0 k x2 x8 x9 (x10 ++ [x11]) x11 x510000 x510001) else (none))
end
def impl_Graph_cheapest.f (k : Nat) (a0_0 : Int) (l0_1 : List (S76)) (a1 : Int) (a2 : Int) : Option (List Int × Bool) := (impl_Graph_all.f k a0_0 l0_1).bind fun t510 => (if 0 ≤ a1 then (if a1 < (t510.length : Int) then (if 0 ≤ a2 then (if a2 < ((rd_L3 t510 a1).length : Int) then (if (rd (rd_L3 t510 a1) a2) = 1000000 then (some (([] : List Int), false)) else ((impl_Graph_steps.f k a0_0 l0_1 a2 t510).bind fun t515 => (impl_Graph_cheapest.l0 k a2 t510 t515 (([a1] : List Int)) a1 a0_0 l0_1))) else (none)) else (none)) else (none)) else (none))
set_option maxHeartbeats 8000000 in
set_option maxRecDepth 100000 in
theorem impl_Graph_cheapest.calls (k : Nat) (a0_0 : Int) (A0_1 : Option Addr) (c0_1 : Nat) (l0_1 : List (S76)) (a1 : Int) (a2 : Int) (r1 : List Int) (r2 : Bool) (w : World) (hr0_1 : Kd.C k76 w A0_1 l0_1.length l0_1) (hc0_1 : l0_1.length ≤ c0_1) (h : impl_Graph_cheapest.f k a0_0 l0_1 a1 a2 = some (r1, r2)) :
  Calls Try.prog 49 #[.agg #[.int .i64 a0_0, .slice A0_1 l0_1.length c0_1], .int .i64 a1, .int .i64 a2] w fun e w' => ∃ v0_ : Value, e = .returned (.tuple #[v0_, .bool r2]) ∧ Kd.R (Kd.int .i64) 3 w' w.heap.size (fun _ => True) v0_ r1 ∧ Below w.heap.size w w' := by
 have hu30 := Try.underlying30
 have hu76 := Try.underlying76
 have HR0_1 := Aside0.mk hr0_1
 have HC0_1 := Aside0.mk hc0_1
 clear hr0_1 hc0_1
 have HB := Aside0.mk (Below.refl w.heap.size w)
 have H : ((impl_Graph_all.f k a0_0 l0_1).bind fun t510 => (if 0 ≤ a1 then (if a1 < (t510.length : Int) then (if 0 ≤ a2 then (if a2 < ((rd_L3 t510 a1).length : Int) then (if (rd (rd_L3 t510 a1) a2) = 1000000 then (some (([] : List Int), false)) else ((impl_Graph_steps.f k a0_0 l0_1 a2 t510).bind fun t515 => (impl_Graph_cheapest.l0 k a2 t510 t515 (([a1] : List Int)) a1 a0_0 l0_1))) else (none)) else (none)) else (none)) else (none))) = some (r1, r2) := h
 clear h
 obtain ⟨t510, A4, H⟩ := ob_ H
 obtain ⟨c5b0, H⟩ := iq_ H
 obtain ⟨c6b0, H⟩ := iq_ H
 obtain ⟨c7b0, H⟩ := iq_ H
 obtain ⟨c8b0, H⟩ := iq_ H
 by_cases c9 : (rd (rd_L3 t510 a1) a2) = 1000000
 ·rw [if_pos c9] at H
  have c9b0 : ((rd (rd_L3 t510 a1) a2) == 1000000) = true := beq_iff_eq.mpr c9
  have c9b1 : ((rd (rd_L3 t510 a1) a2) != 1000000) = false := bne_eq_false_iff_eq.mpr c9
  clear c9
  simp only [Option.some.injEq, Prod.mk.injEq] at H
  obtain ⟨rfl, rfl⟩ := H
  go_enter Try.func49, Try.ntmps49
  go_wp2_with (first | ((with_reducible refine gate_dst (N := 3) rfl ?_); refine be_ 3 #[.int .i64 a0_0, .slice A0_1 l0_1.length c0_1] 30 ?_; intro gb509 hg w10 BK509 hb; have GW509 := ge_ HB hg; have GE509 := ge_ HB hg; replace HB := at_ HB hb; clear hb hg; have hcz11_0 := cz_ BK509 0 (.int .i64 a0_0); have hcz11_1 := cz_ BK509 1 (.slice A0_1 l0_1.length c0_1); have hfz11_0 := fz_ BK509 0; have hfz11_1 := fz_ BK509 1) | (go_at_call 55; (with_reducible refine (impl_Graph_all.calls k a0_0 _ _ l0_1 t510 _ ?side1 ?side2 A4.out).mono ?_); (case side1 => exact cb_ HR0_1 HB); (case side2 => exact HC0_1.out); rintro e w12 ⟨v511, rfl, ho0, hb⟩; have HO512 := Aside0.mk (Kd.S_lower ho0 (bz_ HB)); replace BK509 := ab_ BK509 hb; replace HB := at_ HB hb; clear hb ho0; obtain ⟨Ao13, co13, eo13⟩ := Kd.S_slice HO512.out; subst eo13; have p513 : 0 ≤ (a1 : Int) := oa_; have q513 : a1 < (t510.length : Int) := oa_; obtain ⟨ad513, A513_0, c513_0, e513, hx513_0, hl513_0, hi513_0⟩ := at_L3 (Kd.S_reads' HO512.out).2.2 a1 p513 q513; cases e513; obtain ⟨ce513, hce513, hMe513, hcc513⟩ := Kd.S_get HO512.out [] a1 p513 (by first | exact q513 | exact oa_ | (have e_ := (Kd.S_reads' HO512.out).1; omega)); obtain ⟨ve513_0, rfl, ge513_0⟩ := hMe513; have hv513_0 := hcc513 0 _ rfl; rw [Nat.add_zero, show ((Kd.slice 3 (Kd.int .i64))).sz = 1 from rfl, Nat.mul_one] at hv513_0; replace hv513_0 := Option.some.inj (hv513_0.symm.trans hx513_0); rw [hv513_0] at ge513_0; have HL513_0 := Aside0.mk (show Kd.R (Kd.int .i64) 3 _ _ _ _ (rd_L3 t510 a1) from ge513_0); clear hv513_0 ge513_0 hcc513 hce513; have HR513_0 := Aside0.mk hi513_0; have HC513_0 := Aside0.mk hl513_0; clear hi513_0 hl513_0; obtain ⟨p513, q513⟩ := et_ p513 q513; have p514 : 0 ≤ (a2 : Int) := oa_; have q514 : a2 < ((rd_L3 t510 a1).length : Int) := oa_; obtain ⟨ad514, e514, hx514_0⟩ := Kd.at_int (by repeat (first | (with_reducible exact HR513_0.out) | (with_reducible refine Kd.C_alloc ?_ _) | (with_reducible refine Kd.C_drewN ?_ _) | (with_reducible refine Kd.C_drew ?_) | exact HR513_0.out)) a2 p514 q514; cases e514; obtain ⟨p514, q514⟩ := et_ p514 q514))
  go_ret2
  exact ⟨_, ew_, by first | exact Kd.R_nil _ _ _ _ _ | exact Kd.N_nil _ _ _ _ _ | exact Kd.V_nil _ _ _ _ _ | exact Kd.Q_nil _ _ _ _ _ | exact Kd.S_nil _ _ _ _ _, bw115_⟩
 rw [if_neg c9] at H
 have c9b0 : ((rd (rd_L3 t510 a1) a2) == 1000000) = false := beq_eq_false_iff_ne.mpr c9
 have c9b1 : ((rd (rd_L3 t510 a1) a2) != 1000000) = true := bne_iff_ne.mpr c9
 obtain ⟨t515, A14, H⟩ := ob_ H
 obtain ⟨y518, hy518⟩ : ∃ y_ : List Int, y_ = (([a1] : List Int)) := ⟨_, rfl⟩
 replace H : (impl_Graph_cheapest.l0 k a2 t510 t515 y518 a1 a0_0 l0_1) = some (r1, r2) := by first | (rw [hy518]; with_reducible exact H) | (have H2_ := (Option.bind_some _ _).symm.trans H; rw [hy518]; with_reducible exact H2_) | (have H2_ := (Option.bind_some _ _).symm.trans H; with_reducible exact H2_) | with_reducible exact H | (rw [hy518]; exact H) | exact H
 have Ny518 := Aside0.mk hy518
 clear hy518
 have H' := Aside0.mk H
 clear H
 go_enter Try.func49, Try.ntmps49
 go_wp2_with (first | ((with_reducible refine gate_dst (N := 3) rfl ?_); refine be_ 3 #[.int .i64 a0_0, .slice A0_1 l0_1.length c0_1] 30 ?_; intro gb509 hg w15 BK509 hb; have GW509 := ge_ HB hg; have GE509 := ge_ HB hg; replace HB := at_ HB hb; clear hb hg; have hcz16_0 := cz_ BK509 0 (.int .i64 a0_0); have hcz16_1 := cz_ BK509 1 (.slice A0_1 l0_1.length c0_1); have hfz16_0 := fz_ BK509 0; have hfz16_1 := fz_ BK509 1) | (go_at_call 55; (with_reducible refine (impl_Graph_all.calls k a0_0 _ _ l0_1 t510 _ ?side1 ?side2 A4.out).mono ?_); (case side1 => exact cb_ HR0_1 HB); (case side2 => exact HC0_1.out); rintro e w17 ⟨v511, rfl, ho0, hb⟩; have HO512 := Aside0.mk (Kd.S_lower ho0 (bz_ HB)); replace BK509 := ab_ BK509 hb; replace HB := at_ HB hb; clear hb ho0; obtain ⟨Ao18, co18, eo18⟩ := Kd.S_slice HO512.out; subst eo18; have p513 : 0 ≤ (a1 : Int) := oa_; have q513 : a1 < (t510.length : Int) := oa_; obtain ⟨ad513, A513_0, c513_0, e513, hx513_0, hl513_0, hi513_0⟩ := at_L3 (Kd.S_reads' HO512.out).2.2 a1 p513 q513; cases e513; obtain ⟨ce513, hce513, hMe513, hcc513⟩ := Kd.S_get HO512.out [] a1 p513 (by first | exact q513 | exact oa_ | (have e_ := (Kd.S_reads' HO512.out).1; omega)); obtain ⟨ve513_0, rfl, ge513_0⟩ := hMe513; have hv513_0 := hcc513 0 _ rfl; rw [Nat.add_zero, show ((Kd.slice 3 (Kd.int .i64))).sz = 1 from rfl, Nat.mul_one] at hv513_0; replace hv513_0 := Option.some.inj (hv513_0.symm.trans hx513_0); rw [hv513_0] at ge513_0; have HL513_0 := Aside0.mk (show Kd.R (Kd.int .i64) 3 _ _ _ _ (rd_L3 t510 a1) from ge513_0); clear hv513_0 ge513_0 hcc513 hce513; have HR513_0 := Aside0.mk hi513_0; have HC513_0 := Aside0.mk hl513_0; clear hi513_0 hl513_0; obtain ⟨p513, q513⟩ := et_ p513 q513; have p514 : 0 ≤ (a2 : Int) := oa_; have q514 : a2 < ((rd_L3 t510 a1).length : Int) := oa_; obtain ⟨ad514, e514, hx514_0⟩ := Kd.at_int (by repeat (first | (with_reducible exact HR513_0.out) | (with_reducible refine Kd.C_alloc ?_ _) | (with_reducible refine Kd.C_drewN ?_ _) | (with_reducible refine Kd.C_drew ?_) | exact HR513_0.out)) a2 p514 q514; cases e514; obtain ⟨p514, q514⟩ := et_ p514 q514; have hcz19_0 := cz_ BK509 0 (.int .i64 a0_0); have hcz19_1 := cz_ BK509 1 (.slice A0_1 l0_1.length c0_1); have hfz19_0 := fz_ BK509 0; have hfz19_1 := fz_ BK509 1) | (go_at_call 77; (with_reducible refine (impl_Graph_steps.calls k a0_0 _ _ l0_1 a2 _ _ t510 t515 _ ?side1 ?side2 ?side3 ?side4 A14.out).mono ?_); (case side1 => exact cb_ HR0_1 HB); (case side2 => exact HC0_1.out); (case side3 => repeat (first | exact (Kd.S_reads' HO512.out).2.2 | (with_reducible refine Kd.C_alloc ?_ _) | (with_reducible refine Kd.C_drewN ?_ _) | (with_reducible refine Kd.C_drew ?_))); (case side4 => exact (Kd.S_reads' HO512.out).2.1); rintro e w20 ⟨v516, rfl, ho0, hb⟩; have HO517 := Aside0.mk (Kd.R_lower (Kd.R_new' ho0 (Kd.R_lt (hq_ (HL513_0.out)))) (bz_ HB)); replace HO512 := Aside0.mk (Kd.S_elder' (hS_ HO512) (Kd.R_base ho0) hb); replace HL513_0 := Aside0.mk (Kd.R_elder' (hq_ (HL513_0.out)) (Kd.R_base ho0) hb); replace BK509 := ab_ BK509 hb; replace HR513_0 := Aside0.mk (Kd.C_below (by repeat (first | (with_reducible exact HR513_0.out) | (with_reducible refine Kd.C_alloc ?_ _) | (with_reducible refine Kd.C_drewN ?_ _) | (with_reducible refine Kd.C_drew ?_) | exact HR513_0.out)) hb); replace HB := at_ HB hb; clear hb ho0) | ((with_reducible refine gate_dst (N := 29) rfl ?_); refine Kd.R_lit (Kd.int .i64) _ 3 ?hg (N := 29) ?hd (xs := ([a1] : List Int)) (inner := [.int .i64 a1]) (ok := fun _ => True) (okp := fun _ => True) ?hr ?hp (fun _ hk => hk) trivial (Below.refl _ _) (Nat.le_refl _) (by simp) ?_; (case hd => rfl); (case hg => rfl); (case hr => first | (go_simp; done) | (go_simp; rfl)); (case hp => exact (Reps.one (show Kd.M (Kd.int .i64) _ _ _ a1 [.int .i64 a1] from rfl) (Reps.none _ _))); intro v519 w21 ho22 hb hg_ hnew_; clear hg_ hnew_; (first | rw [← Ny518.out] at ho22 | (simp only [Int.reduceToNat] at ho22; rw [← Ny518.out] at ho22)); have HO520 := Aside0.mk (Kd.R_lower (Kd.R_new' (Kd.R_new' ho22 (Kd.R_lt (hq_ (HL513_0.out)))) (Kd.R_lt (hd_ HO517))) (bz_ HB)); replace HO512 := Aside0.mk (Kd.S_elder' (hS_ HO512) (Kd.R_base ho22) hb); replace HL513_0 := Aside0.mk (Kd.R_elder' (hq_ (HL513_0.out)) (Kd.R_base ho22) hb); replace HO517 := Aside0.mk (Kd.R_elder' (hd_ HO517) (Kd.R_base ho22) hb); replace BK509 := ab_ BK509 hb; replace HR513_0 := Aside0.mk (Kd.C_below (by repeat (first | (with_reducible exact HR513_0.out) | (with_reducible refine Kd.C_alloc ?_ _) | (with_reducible refine Kd.C_drewN ?_ _) | (with_reducible refine Kd.C_drew ?_) | exact HR513_0.out)) hb); replace HB := at_ HB hb; clear hb ho22))
 go_loopg [10, 11] k (fun kq v10 v11 w' => ∃ (x10_1 : List Int) (x11_1 : Int), v11 = .int .i64 x11_1 ∧ Aside0 (impl_Graph_cheapest.l0 kq a2 t510 t515 x10_1 x11_1 a0_0 l0_1 = some (r1, r2)) ∧ Aside0 (kq ≤ k) ∧ Aside0 (Kd.S (Kd.slice 3 (Kd.int .i64)) 26 w' w.heap.size (fun k_ => some k_ ≠ (v516 : Value).ownBlock ∧ some k_ ≠ (v10 : Value).ownBlock) (.slice (some ad513) t510.length co18) t510) ∧ Aside0 (Kd.R (Kd.int .i64) 3 w' w.heap.size (fun k_ => some k_ ≠ (v10 : Value).ownBlock) v516 t515) ∧ Aside0 (Kd.R (Kd.int .i64) 3 w' w.heap.size (fun k_ => some k_ ≠ (v516 : Value).ownBlock) v10 x10_1) ∧ Aside0 (w'.heap[gb509]? = some (.cells #[.int .i64 a0_0, (.slice A0_1 l0_1.length c0_1)] 30 (0, 0))) ∧ Aside0 (Below w.heap.size w w'))
 case atStart => exact ⟨(y518), (a1), er_, H', ⟨Nat.le_refl _⟩, ⟨by (with_reducible repeat (first | apply Kd.S_alloc | apply Kd.S_drewN | apply Kd.S_drew)); exact Kd.S_mono HO512.out (fun _ hk => by first | exact ⟨hk.1.2, hk.2⟩ | grind)⟩, ⟨hq_ (Kd.R_mono HO517.out (fun _ hk => hk.2))⟩, ⟨hq_ (Kd.R_mono HO520.out (fun _ hk => hk.2))⟩, ⟨bx_ BK509⟩, ⟨bw115_⟩⟩
 clear H' c5b0 c6b0 c7b0 c8b0 c9 c9b0 c9b1 hcz16_0 hcz16_1 hcz19_0 hcz19_1 hfz16_0 hfz16_1 hfz19_0 hfz19_1 hx513_0 hx514_0 p513 p514 q513 q514
 obtain ⟨x10_1, x11_1, rfl, HA, HK1, HO_8, HO_9, HO_10, BK509, HB⟩ := hrel
 cases gk with
 | zero => exact absurd HA.out (by simp [impl_Graph_cheapest.l0])
 | succ k1 =>
  have H := HA.out
  clear HA
  simp only [impl_Graph_cheapest.l0] at H
  by_cases c23 : x11_1 = a2
  ·rw [if_pos c23] at H
   have c23b0 : (x11_1 == a2) = true := beq_iff_eq.mpr c23
   have c23b1 : (x11_1 != a2) = false := bne_eq_false_iff_eq.mpr c23
   clear c23
   simp only [Option.some.injEq, Prod.mk.injEq] at H
   obtain ⟨rfl, rfl⟩ := H
   go_wp2
   repeat (go_quiet (fail); try go_wp2)
   go_ret2
   exact ⟨_, ew_, by (with_reducible repeat (first | apply Kd.R_alloc | apply Kd.R_drewN | apply Kd.R_drew)); exact Kd.R_mono HO_10.out (fun _ hk => trivial), bw115_⟩
  rw [if_neg c23] at H
  have c23b0 : (x11_1 == a2) = false := beq_eq_false_iff_ne.mpr c23
  have c23b1 : (x11_1 != a2) = true := bne_iff_ne.mpr c23
  have H' := Aside0.mk H
  clear H
  have hcz24_0 := cz_ BK509 0 (.int .i64 a0_0)
  have hcz24_1 := cz_ BK509 1 (.slice A0_1 l0_1.length c0_1)
  have hfz24_0 := fz_ BK509 0
  have hfz24_1 := fz_ BK509 1
  go_wp2
  repeat (go_quiet (fail); try go_wp2)
  go_loopg [11, 37] k1 (fun kq v11 v37 w' => ∃ (x11_2 : Int) (x37_2 : Int), v11 = .int .i64 x11_2 ∧ v37 = .int .i64 x37_2 ∧ Aside0 (impl_Graph_cheapest.l1 kq a2 t510 t515 x10_1 x11_2 l0_1 (l0_1.length : Int) x37_2 a0_0 l0_1 = some (r1, r2)) ∧ Aside0 (kq ≤ k1) ∧ Aside0 (Kd.S (Kd.slice 3 (Kd.int .i64)) 26 w' w.heap.size (fun k_ => some k_ ≠ (v516 : Value).ownBlock ∧ some k_ ≠ (u10 : Value).ownBlock) (.slice (some ad513) t510.length co18) t510) ∧ Aside0 (Kd.R (Kd.int .i64) 3 w' w.heap.size (fun k_ => some k_ ≠ (u10 : Value).ownBlock) v516 t515) ∧ Aside0 (Kd.R (Kd.int .i64) 3 w' w.heap.size (fun k_ => some k_ ≠ (v516 : Value).ownBlock) u10 x10_1) ∧ Aside0 (w'.heap[gb509]? = some (.cells #[.int .i64 a0_0, (.slice A0_1 l0_1.length c0_1)] 30 (0, 0))) ∧ Aside0 (Below w.heap.size w w'))
  case atStart => exact ⟨(x11_1), (0), er_, er_, H', ⟨Nat.le_refl _⟩, ⟨hS_ HO_8⟩, ⟨hd_ HO_9⟩, ⟨hd_ HO_10⟩, ⟨bx_ BK509⟩, ⟨bw115_⟩⟩
  clear H' c23 c23b0 c23b1 hcz24_0 hcz24_1 hfz24_0 hfz24_1 p513 p514 q513 q514
  obtain ⟨x11_2, x37_2, rfl, rfl, HA, HK2, HO_8, HO_9, HO_10, BK509, HB⟩ := hrel
  cases gk with
  | zero => exact absurd HA.out (by simp [impl_Graph_cheapest.l1])
  | succ k2 =>
   have H := HA.out
   clear HA
   simp only [impl_Graph_cheapest.l1] at H
   by_cases c25 : x37_2 < (l0_1.length : Int)
   rotate_left
   ·rw [if_neg c25] at H
    have c25b0 : decide (x37_2 < (l0_1.length : Int)) = false := decide_eq_false c25
    clear c25
    by_cases c62 : x10_1.length < 17592186044416
    rotate_left
    ·rw [if_neg c62] at H
     exact absurd H (by simp)
    rw [if_pos c62] at H
    have LMc62 := Aside0.mk c62
    clear c62
    obtain ⟨y532, hy532⟩ : ∃ y_ : List Int, y_ = (x10_1 ++ [x11_2]) := ⟨_, rfl⟩
    replace H : (impl_Graph_cheapest.l0 k2 a2 t510 t515 y532 x11_2 a0_0 l0_1) = some (r1, r2) := by first | (rw [hy532]; with_reducible exact H) | (have H2_ := (Option.bind_some _ _).symm.trans H; rw [hy532]; with_reducible exact H2_) | (have H2_ := (Option.bind_some _ _).symm.trans H; with_reducible exact H2_) | with_reducible exact H | (rw [hy532]; exact H) | exact H
    have Ny532 := Aside0.mk hy532
    clear hy532
    have H' := Aside0.mk H
    clear H
    go_wp2_with ((with_reducible refine gate_builtin (b := .append) (xs := #[.tmp 82, .tmp 84]) rfl ?_); at_builtin; refine Kd.R_append (Kd.int .i64) (w0 := w) w.heap.size rfl (.tmp 82) (.tmp 84) 26 3 (.int .i64 0) 8 rfl Try.underlying26 info3 rfl (by decide) (by omega) u10 x10_1 x11_2 [.int .i64 x11_2] (fun k_ => some k_ ≠ (v516 : Value).ownBlock) (fun _ => False) rfl rfl ?aP (fun _ hk => hk.elim) ?aF ?aO ?aB ?aS ?aL ?_; (case aP => exact rfl); (case aB => exact (bw115_)); (case aF => exact (fun k_ hk => Kd.fresh' (Kd.R_lt (hd_ HO_9)) k_ hk)); (case aO => exact (hd_ HO_10)); (case aS => exact (bz_ HB)); (case aL => have := LMc62.out; omega); intro v533 w63 ho hb hg hat; rw [← Ny532.out] at ho; have HO534 := Aside0.mk ho; replace HO_8 := Aside0.mk (Kd.S_after (ok := (fun k_ => some k_ ≠ (v516 : Value).ownBlock)) (hS_ HO_8) hg hat); replace HO_9 := Aside0.mk (Kd.R_after (ok := (fun _ => True)) (hq_ (Kd.R_mono HO_9.out (fun _ hk => by first | exact ⟨trivial, hk⟩ | grind))) hg hat); replace BK509 := Aside0.mk (blk_grown (g := gb509) (o := .cells #[.int .i64 a0_0, .slice A0_1 l0_1.length c0_1] 30 (0, 0)) (bx_ BK509) hg (Kd.R_ne HO_10.out BK509.out (by decide))); replace HB := Aside0.mk (hb); clear HO_10 ho hb hg hat)
    go_roundg k2
    case measure => have := HK1.out; have := HK2.out; omega
    case rel => exact ⟨(y532), (x11_2), er_, H', ⟨by have := HK1.out; have := HK2.out; omega⟩, ⟨hS_ HO_8⟩, ⟨hq_ (Kd.R_mono HO_9.out (fun _ hk => hk.2))⟩, ⟨hd_ HO534⟩, ⟨bx_ BK509⟩, ⟨bw115_⟩⟩
   rw [if_pos c25] at H
   have c25b0 : decide (x37_2 < (l0_1.length : Int)) = true := decide_eq_true c25
   clear c25
   obtain ⟨c26b0, H⟩ := iq_ H
   obtain ⟨c27b0, H⟩ := iq_ H
   by_cases c28 : ((rd_T76 l0_1 x37_2).f0) = x11_2
   rotate_left
   ·rw [if_neg c28] at H
    have c28b0 : (((rd_T76 l0_1 x37_2).f0) == x11_2) = false := beq_eq_false_iff_ne.mpr c28
    have c28b1 : (((rd_T76 l0_1 x37_2).f0) != x11_2) = true := bne_iff_ne.mpr c28
    have H' := Aside0.mk H
    clear H
    have p521 : 0 ≤ (x37_2 : Int) := oa_
    have q521 : x37_2 < (l0_1.length : Int) := oa_
    obtain ⟨ad521, e521, hx521_0, hx521_1, hx521_2⟩ := at_T76 HR0_1.out x37_2 p521 q521
    cases e521
    replace hx521_0 := hc5_ HB hx521_0
    replace hx521_1 := hc5_ HB hx521_1
    replace hx521_2 := hc5_ HB hx521_2
    obtain ⟨p521, q521⟩ := et_ p521 q521
    go_wp2_with ((with_reducible refine gate_dst (N := 13) rfl ?_); refine be_ 13 #[.int .i64 0, .int .i64 0, .int .i64 0] 76 ?_; intro gb522 hg w59 BK522 hb; have GW522 := ge_ HB hg; have GE522 := ge_ HB hg; have NB509_522 := nl_ BK509 hg; have NB522_509 := ng_ BK509 hg; replace HO_8 := Aside0.mk (Kd.S_below (hS_ HO_8) hb); replace HO_9 := rb_ HO_9 hb; replace HO_10 := rb_ HO_10 hb; replace HB := at_ HB hb; replace BK509 := ab_ BK509 hb; clear hb hg; have hnb60 := NB522_509.out; have hnc60 := NB509_522.out; have hcz61_0 := cz_ BK522 0 (.int .i64 0); have hcz61_1 := cz_ BK522 1 (.int .i64 0); have hcz61_2 := cz_ BK522 2 (.int .i64 0); have hfz61_0 := fz_ BK522 0; have hfz61_1 := fz_ BK522 1; have hfz61_2 := fz_ BK522 2)
    repeat (go_quiet (fail); try go_wp2_with (fail))
    go_roundg k2
    case measure => have := HK1.out; have := HK2.out; omega
    case rel => exact ⟨(x11_2), (wrap64 (x37_2 + 1)), er_, er_, H', ⟨by have := HK1.out; have := HK2.out; omega⟩, ⟨by (with_reducible repeat (first | apply Kd.S_alloc | apply Kd.S_drewN | apply Kd.S_drew)); exact Kd.S_mono (Kd.S_far (Kd.S_far (Kd.S_far (Kd.S_types HO_8.out BK522.out (by decide)) (fun _ hk => hk.2) _) (fun _ hk => hk.2) _) (fun _ hk => hk.2) _) (fun _ hk => by first | exact ⟨hk.1.1, hk.1.2⟩ | grind)⟩, ⟨hq_ (Kd.R_mono (Kd.R_far (Kd.R_far (Kd.R_far (Kd.R_types HO_9.out BK522.out (by decide)) (fun _ hk => hk.2) _) (fun _ hk => hk.2) _) (fun _ hk => hk.2) _) (fun _ hk => hk.1))⟩, ⟨hq_ (Kd.R_mono (Kd.R_far (Kd.R_far (Kd.R_far (Kd.R_types HO_10.out BK522.out (by decide)) (fun _ hk => hk.2) _) (fun _ hk => hk.2) _) (fun _ hk => hk.2) _) (fun _ hk => hk.1))⟩, ⟨bc_ BK509⟩, ⟨bw115_⟩⟩
   rw [if_pos c28] at H
   have c28b0 : (((rd_T76 l0_1 x37_2).f0) == x11_2) = true := beq_iff_eq.mpr c28
   have c28b1 : (((rd_T76 l0_1 x37_2).f0) != x11_2) = false := bne_eq_false_iff_eq.mpr c28
   clear c28
   obtain ⟨c29b0, H⟩ := iq_ H
   obtain ⟨c30b0, H⟩ := iq_ H
   obtain ⟨c31b0, H⟩ := iq_ H
   obtain ⟨c32b0, H⟩ := iq_ H
   obtain ⟨c33b0, H⟩ := iq_ H
   obtain ⟨c34b0, H⟩ := iq_ H
   obtain ⟨c35b0, H⟩ := iq_ H
   by_cases c36 : (wrap64 (((rd_T76 l0_1 x37_2).f2) + (rd (rd_L3 t510 ((rd_T76 l0_1 x37_2).f1)) a2))) = (rd (rd_L3 t510 x11_2) a2)
   rotate_left
   ·rw [if_neg c36] at H
    have c36b0 : ((wrap64 (((rd_T76 l0_1 x37_2).f2) + (rd (rd_L3 t510 ((rd_T76 l0_1 x37_2).f1)) a2))) == (rd (rd_L3 t510 x11_2) a2)) = false := beq_eq_false_iff_ne.mpr c36
    have c36b1 : ((wrap64 (((rd_T76 l0_1 x37_2).f2) + (rd (rd_L3 t510 ((rd_T76 l0_1 x37_2).f1)) a2))) != (rd (rd_L3 t510 x11_2) a2)) = true := bne_iff_ne.mpr c36
    have H' := Aside0.mk H
    clear H
    have p521 : 0 ≤ (x37_2 : Int) := oa_
    have q521 : x37_2 < (l0_1.length : Int) := oa_
    obtain ⟨ad521, e521, hx521_0, hx521_1, hx521_2⟩ := at_T76 HR0_1.out x37_2 p521 q521
    cases e521
    replace hx521_0 := hc5_ HB hx521_0
    replace hx521_1 := hc5_ HB hx521_1
    replace hx521_2 := hc5_ HB hx521_2
    obtain ⟨p521, q521⟩ := et_ p521 q521
    go_wp2_with (first | ((with_reducible refine gate_dst (N := 13) rfl ?_); refine be_ 13 #[.int .i64 0, .int .i64 0, .int .i64 0] 76 ?_; intro gb522 hg w54 BK522 hb; have GW522 := ge_ HB hg; have GE522 := ge_ HB hg; have NB509_522 := nl_ BK509 hg; have NB522_509 := ng_ BK509 hg; replace HO_8 := Aside0.mk (Kd.S_below (hS_ HO_8) hb); replace HO_9 := rb_ HO_9 hb; replace HO_10 := rb_ HO_10 hb; replace HB := at_ HB hb; replace BK509 := ab_ BK509 hb; clear hb hg; have hnb55 := NB522_509.out; have hnc55 := NB509_522.out; have hcz56_0 := cz_ BK522 0 (.int .i64 0); have hcz56_1 := cz_ BK522 1 (.int .i64 0); have hcz56_2 := cz_ BK522 2 (.int .i64 0); have hfz56_0 := fz_ BK522 0; have hfz56_1 := fz_ BK522 1; have hfz56_2 := fz_ BK522 2) | ((with_reducible refine gate_store (t := 76) (p := 13) rfl ?_); (try (rw [drewN_self w54]; generalize hq_ : World.drewN w54 _ = w54; replace HO_8 := Aside0.mk (Kd.S_at hq_ HO_8.out); replace HO_9 := Aside0.mk (Kd.R_at hq_ HO_9.out); replace HO_10 := Aside0.mk (Kd.R_at hq_ HO_10.out); replace BK509 := Aside0.mk (blk_at hq_ BK509.out); replace BK522 := Aside0.mk (blk_at hq_ BK522.out); replace HB := Aside0.mk (below_at hq_ HB.out); clear hq_)); refine store_event (t := 76) (p := 13) (v := ?vo_w57) (w1 := (((w54.setCell ⟨gb522, 0, none⟩ (.int .i64 ((rd_T76 l0_1 x37_2).f0))).setCell ⟨gb522, 1, none⟩ (.int .i64 ((rd_T76 l0_1 x37_2).f1))).setCell ⟨gb522, 2, none⟩ (.int .i64 ((rd_T76 l0_1 x37_2).f2)))) ?hg ?ho ?hn ?hr ?_; (case ho => rfl); (case hg => rfl); (case hn => rfl); (case hr => first | (go_simp; done) | (go_simp; rfl)); intro w57 hw; replace HO_8 : Aside0 (Kd.S (Kd.slice 3 (Kd.int .i64)) 26 w57 w.heap.size (fun k_ => some k_ ≠ (v516 : Value).ownBlock ∧ some k_ ≠ (u10 : Value).ownBlock) (.slice (some ad513) t510.length co18) t510) := ⟨(by rw [hw]; exact (by (with_reducible repeat (first | apply Kd.S_alloc | apply Kd.S_drewN | apply Kd.S_drew)); exact Kd.S_mono (Kd.S_far (Kd.S_far (Kd.S_far (Kd.S_types HO_8.out BK522.out (by decide)) (fun _ hk => hk.2) _) (fun _ hk => hk.2) _) (fun _ hk => hk.2) _) (fun _ hk => by first | exact ⟨hk.1.1, hk.1.2⟩ | grind)))⟩; replace HO_9 : Aside0 (Kd.R (Kd.int .i64) 3 w57 w.heap.size (fun k_ => some k_ ≠ (u10 : Value).ownBlock) v516 t515) := ⟨(by rw [hw]; exact (hq_ (Kd.R_mono (Kd.R_far (Kd.R_far (Kd.R_far (Kd.R_types HO_9.out BK522.out (by decide)) (fun _ hk => hk.2) _) (fun _ hk => hk.2) _) (fun _ hk => hk.2) _) (fun _ hk => hk.1))))⟩; replace HO_10 : Aside0 (Kd.R (Kd.int .i64) 3 w57 w.heap.size (fun k_ => some k_ ≠ (v516 : Value).ownBlock) u10 x10_1) := ⟨(by rw [hw]; exact (hq_ (Kd.R_mono (Kd.R_far (Kd.R_far (Kd.R_far (Kd.R_types HO_10.out BK522.out (by decide)) (fun _ hk => hk.2) _) (fun _ hk => hk.2) _) (fun _ hk => hk.2) _) (fun _ hk => hk.1))))⟩; replace BK509 : Aside0 (w57.heap[gb509]? = some (.cells #[.int .i64 a0_0, .slice (some ad521) l0_1.length c0_1] 30 (0, 0))) := ⟨(by rw [hw]; exact (bc_ BK509))⟩; replace BK522 : Aside0 (w57.heap[gb522]? = some (.cells #[.int .i64 ((rd_T76 l0_1 x37_2).f0), .int .i64 ((rd_T76 l0_1 x37_2).f1), .int .i64 ((rd_T76 l0_1 x37_2).f2)] 76 (0, 0))) := ⟨(by rw [hw]; exact (by refine bd_ ?_; refine blk_put (cs := #[.int .i64 ((rd_T76 l0_1 x37_2).f0), .int .i64 ((rd_T76 l0_1 x37_2).f1), .int .i64 0]) ?_ 2 _ rfl; refine bd_ ?_; refine blk_put (cs := #[.int .i64 ((rd_T76 l0_1 x37_2).f0), .int .i64 0, .int .i64 0]) ?_ 1 _ rfl; refine bd_ ?_; refine blk_put (cs := #[.int .i64 0, .int .i64 0, .int .i64 0]) ?_ 0 _ rfl; refine bd_ ?_; exact BK522.out))⟩; replace HB : Aside0 (Below w.heap.size w w57) := ⟨(by rw [hw]; exact (bw115_))⟩; clear hw; have hcz58_0 := cz_ BK522 0 (.int .i64 ((rd_T76 l0_1 x37_2).f0)); have hcz58_1 := cz_ BK522 1 (.int .i64 ((rd_T76 l0_1 x37_2).f1)); have hcz58_2 := cz_ BK522 2 (.int .i64 ((rd_T76 l0_1 x37_2).f2)); have hfz58_0 := fz_ BK522 0; have hfz58_1 := fz_ BK522 1; have hfz58_2 := fz_ BK522 2; have p523 : 0 ≤ (((rd_T76 l0_1 x37_2).f1) : Int) := oa_; have q523 : ((rd_T76 l0_1 x37_2).f1) < (t510.length : Int) := oa_; obtain ⟨ad523, A523_0, c523_0, e523, hx523_0, hl523_0, hi523_0⟩ := at_L3 (Kd.S_reads' HO_8.out).2.2 ((rd_T76 l0_1 x37_2).f1) p523 q523; obtain rfl : ad513 = ad523 := (by injection e523); obtain ⟨ce523, hce523, hMe523, hcc523⟩ := Kd.S_get HO_8.out [] ((rd_T76 l0_1 x37_2).f1) p523 (by first | exact q523 | exact oa_ | (have e_ := (Kd.S_reads' HO_8.out).1; omega)); obtain ⟨ve523_0, rfl, ge523_0⟩ := hMe523; have hv523_0 := hcc523 0 _ rfl; rw [Nat.add_zero, show ((Kd.slice 3 (Kd.int .i64))).sz = 1 from rfl, Nat.mul_one] at hv523_0; replace hv523_0 := Option.some.inj (hv523_0.symm.trans hx523_0); rw [hv523_0] at ge523_0; have HL523_0 := Aside0.mk (show Kd.R (Kd.int .i64) 3 _ _ _ _ (rd_L3 t510 ((rd_T76 l0_1 x37_2).f1)) from ge523_0); clear hv523_0 ge523_0 hcc523 hce523; have HR523_0 := Aside0.mk hi523_0; have HC523_0 := Aside0.mk hl523_0; clear hi523_0 hl523_0; obtain ⟨p523, q523⟩ := et_ p523 q523; have p524 : 0 ≤ (a2 : Int) := oa_; have q524 : a2 < ((rd_L3 t510 ((rd_T76 l0_1 x37_2).f1)).length : Int) := oa_; obtain ⟨ad524, e524, hx524_0⟩ := Kd.at_int (by repeat (first | (with_reducible exact HR523_0.out) | (with_reducible refine Kd.C_alloc ?_ _) | (with_reducible refine Kd.C_drewN ?_ _) | (with_reducible refine Kd.C_drew ?_) | exact HR523_0.out)) a2 p524 q524; cases e524; obtain ⟨p524, q524⟩ := et_ p524 q524; have p525 : 0 ≤ (x11_2 : Int) := oa_; have q525 : x11_2 < (t510.length : Int) := oa_; obtain ⟨ad525, A525_0, c525_0, e525, hx525_0, hl525_0, hi525_0⟩ := at_L3 (Kd.S_reads' HO_8.out).2.2 x11_2 p525 q525; obtain rfl : ad513 = ad525 := (by injection e525); obtain ⟨ce525, hce525, hMe525, hcc525⟩ := Kd.S_get HO_8.out [] x11_2 p525 (by first | exact q525 | exact oa_ | (have e_ := (Kd.S_reads' HO_8.out).1; omega)); obtain ⟨ve525_0, rfl, ge525_0⟩ := hMe525; have hv525_0 := hcc525 0 _ rfl; rw [Nat.add_zero, show ((Kd.slice 3 (Kd.int .i64))).sz = 1 from rfl, Nat.mul_one] at hv525_0; replace hv525_0 := Option.some.inj (hv525_0.symm.trans hx525_0); rw [hv525_0] at ge525_0; have HL525_0 := Aside0.mk (show Kd.R (Kd.int .i64) 3 _ _ _ _ (rd_L3 t510 x11_2) from ge525_0); clear hv525_0 ge525_0 hcc525 hce525; have HR525_0 := Aside0.mk hi525_0; have HC525_0 := Aside0.mk hl525_0; clear hi525_0 hl525_0; obtain ⟨p525, q525⟩ := et_ p525 q525; have p526 : 0 ≤ (a2 : Int) := oa_; have q526 : a2 < ((rd_L3 t510 x11_2).length : Int) := oa_; obtain ⟨ad526, e526, hx526_0⟩ := Kd.at_int (by repeat (first | (with_reducible exact HR525_0.out) | (with_reducible refine Kd.C_alloc ?_ _) | (with_reducible refine Kd.C_drewN ?_ _) | (with_reducible refine Kd.C_drew ?_) | exact HR525_0.out)) a2 p526 q526; cases e526; obtain ⟨p526, q526⟩ := et_ p526 q526))
    repeat (go_quiet (fail); try go_wp2_with (fail))
    go_roundg k2
    case measure => have := HK1.out; have := HK2.out; omega
    case rel => exact ⟨(x11_2), (wrap64 (x37_2 + 1)), er_, er_, H', ⟨by have := HK1.out; have := HK2.out; omega⟩, ⟨hS_ HO_8⟩, ⟨hd_ HO_9⟩, ⟨hd_ HO_10⟩, ⟨bx_ BK509⟩, ⟨bw115_⟩⟩
   rw [if_pos c36] at H
   have c36b0 : ((wrap64 (((rd_T76 l0_1 x37_2).f2) + (rd (rd_L3 t510 ((rd_T76 l0_1 x37_2).f1)) a2))) == (rd (rd_L3 t510 x11_2) a2)) = true := beq_iff_eq.mpr c36
   have c36b1 : ((wrap64 (((rd_T76 l0_1 x37_2).f2) + (rd (rd_L3 t510 ((rd_T76 l0_1 x37_2).f1)) a2))) != (rd (rd_L3 t510 x11_2) a2)) = false := bne_eq_false_iff_eq.mpr c36
   clear c36
   obtain ⟨c37b0, H⟩ := iq_ H
   obtain ⟨c38b0, H⟩ := iq_ H
   by_cases c39 : (rd t515 ((rd_T76 l0_1 x37_2).f1)) = (wrap64 ((rd t515 x11_2) - 1))
   rotate_left
   ·rw [if_neg c39] at H
    have c39b0 : ((rd t515 ((rd_T76 l0_1 x37_2).f1)) == (wrap64 ((rd t515 x11_2) - 1))) = false := beq_eq_false_iff_ne.mpr c39
    have c39b1 : ((rd t515 ((rd_T76 l0_1 x37_2).f1)) != (wrap64 ((rd t515 x11_2) - 1))) = true := bne_iff_ne.mpr c39
    have H' := Aside0.mk H
    clear H
    have p521 : 0 ≤ (x37_2 : Int) := oa_
    have q521 : x37_2 < (l0_1.length : Int) := oa_
    obtain ⟨ad521, e521, hx521_0, hx521_1, hx521_2⟩ := at_T76 HR0_1.out x37_2 p521 q521
    cases e521
    replace hx521_0 := hc5_ HB hx521_0
    replace hx521_1 := hc5_ HB hx521_1
    replace hx521_2 := hc5_ HB hx521_2
    obtain ⟨p521, q521⟩ := et_ p521 q521
    go_wp2_with (first | ((with_reducible refine gate_dst (N := 13) rfl ?_); refine be_ 13 #[.int .i64 0, .int .i64 0, .int .i64 0] 76 ?_; intro gb522 hg w48 BK522 hb; have GW522 := ge_ HB hg; have GE522 := ge_ HB hg; have NB509_522 := nl_ BK509 hg; have NB522_509 := ng_ BK509 hg; replace HO_8 := Aside0.mk (Kd.S_below (hS_ HO_8) hb); replace HO_9 := rb_ HO_9 hb; replace HO_10 := rb_ HO_10 hb; replace HB := at_ HB hb; replace BK509 := ab_ BK509 hb; clear hb hg; have hnb49 := NB522_509.out; have hnc49 := NB509_522.out; have hcz50_0 := cz_ BK522 0 (.int .i64 0); have hcz50_1 := cz_ BK522 1 (.int .i64 0); have hcz50_2 := cz_ BK522 2 (.int .i64 0); have hfz50_0 := fz_ BK522 0; have hfz50_1 := fz_ BK522 1; have hfz50_2 := fz_ BK522 2) | ((with_reducible refine gate_store (t := 76) (p := 13) rfl ?_); (try (rw [drewN_self w48]; generalize hq_ : World.drewN w48 _ = w48; replace HO_8 := Aside0.mk (Kd.S_at hq_ HO_8.out); replace HO_9 := Aside0.mk (Kd.R_at hq_ HO_9.out); replace HO_10 := Aside0.mk (Kd.R_at hq_ HO_10.out); replace BK509 := Aside0.mk (blk_at hq_ BK509.out); replace BK522 := Aside0.mk (blk_at hq_ BK522.out); replace HB := Aside0.mk (below_at hq_ HB.out); clear hq_)); refine store_event (t := 76) (p := 13) (v := ?vo_w51) (w1 := (((w48.setCell ⟨gb522, 0, none⟩ (.int .i64 ((rd_T76 l0_1 x37_2).f0))).setCell ⟨gb522, 1, none⟩ (.int .i64 ((rd_T76 l0_1 x37_2).f1))).setCell ⟨gb522, 2, none⟩ (.int .i64 ((rd_T76 l0_1 x37_2).f2)))) ?hg ?ho ?hn ?hr ?_; (case ho => rfl); (case hg => rfl); (case hn => rfl); (case hr => first | (go_simp; done) | (go_simp; rfl)); intro w51 hw; replace HO_8 : Aside0 (Kd.S (Kd.slice 3 (Kd.int .i64)) 26 w51 w.heap.size (fun k_ => some k_ ≠ (v516 : Value).ownBlock ∧ some k_ ≠ (u10 : Value).ownBlock) (.slice (some ad513) t510.length co18) t510) := ⟨(by rw [hw]; exact (by (with_reducible repeat (first | apply Kd.S_alloc | apply Kd.S_drewN | apply Kd.S_drew)); exact Kd.S_mono (Kd.S_far (Kd.S_far (Kd.S_far (Kd.S_types HO_8.out BK522.out (by decide)) (fun _ hk => hk.2) _) (fun _ hk => hk.2) _) (fun _ hk => hk.2) _) (fun _ hk => by first | exact ⟨hk.1.1, hk.1.2⟩ | grind)))⟩; replace HO_9 : Aside0 (Kd.R (Kd.int .i64) 3 w51 w.heap.size (fun k_ => some k_ ≠ (u10 : Value).ownBlock) v516 t515) := ⟨(by rw [hw]; exact (hq_ (Kd.R_mono (Kd.R_far (Kd.R_far (Kd.R_far (Kd.R_types HO_9.out BK522.out (by decide)) (fun _ hk => hk.2) _) (fun _ hk => hk.2) _) (fun _ hk => hk.2) _) (fun _ hk => hk.1))))⟩; replace HO_10 : Aside0 (Kd.R (Kd.int .i64) 3 w51 w.heap.size (fun k_ => some k_ ≠ (v516 : Value).ownBlock) u10 x10_1) := ⟨(by rw [hw]; exact (hq_ (Kd.R_mono (Kd.R_far (Kd.R_far (Kd.R_far (Kd.R_types HO_10.out BK522.out (by decide)) (fun _ hk => hk.2) _) (fun _ hk => hk.2) _) (fun _ hk => hk.2) _) (fun _ hk => hk.1))))⟩; replace BK509 : Aside0 (w51.heap[gb509]? = some (.cells #[.int .i64 a0_0, .slice (some ad521) l0_1.length c0_1] 30 (0, 0))) := ⟨(by rw [hw]; exact (bc_ BK509))⟩; replace BK522 : Aside0 (w51.heap[gb522]? = some (.cells #[.int .i64 ((rd_T76 l0_1 x37_2).f0), .int .i64 ((rd_T76 l0_1 x37_2).f1), .int .i64 ((rd_T76 l0_1 x37_2).f2)] 76 (0, 0))) := ⟨(by rw [hw]; exact (by refine bd_ ?_; refine blk_put (cs := #[.int .i64 ((rd_T76 l0_1 x37_2).f0), .int .i64 ((rd_T76 l0_1 x37_2).f1), .int .i64 0]) ?_ 2 _ rfl; refine bd_ ?_; refine blk_put (cs := #[.int .i64 ((rd_T76 l0_1 x37_2).f0), .int .i64 0, .int .i64 0]) ?_ 1 _ rfl; refine bd_ ?_; refine blk_put (cs := #[.int .i64 0, .int .i64 0, .int .i64 0]) ?_ 0 _ rfl; refine bd_ ?_; exact BK522.out))⟩; replace HB : Aside0 (Below w.heap.size w w51) := ⟨(by rw [hw]; exact (bw115_))⟩; clear hw; have hcz52_0 := cz_ BK522 0 (.int .i64 ((rd_T76 l0_1 x37_2).f0)); have hcz52_1 := cz_ BK522 1 (.int .i64 ((rd_T76 l0_1 x37_2).f1)); have hcz52_2 := cz_ BK522 2 (.int .i64 ((rd_T76 l0_1 x37_2).f2)); have hfz52_0 := fz_ BK522 0; have hfz52_1 := fz_ BK522 1; have hfz52_2 := fz_ BK522 2; have p523 : 0 ≤ (((rd_T76 l0_1 x37_2).f1) : Int) := oa_; have q523 : ((rd_T76 l0_1 x37_2).f1) < (t510.length : Int) := oa_; obtain ⟨ad523, A523_0, c523_0, e523, hx523_0, hl523_0, hi523_0⟩ := at_L3 (Kd.S_reads' HO_8.out).2.2 ((rd_T76 l0_1 x37_2).f1) p523 q523; obtain rfl : ad513 = ad523 := (by injection e523); obtain ⟨ce523, hce523, hMe523, hcc523⟩ := Kd.S_get HO_8.out [] ((rd_T76 l0_1 x37_2).f1) p523 (by first | exact q523 | exact oa_ | (have e_ := (Kd.S_reads' HO_8.out).1; omega)); obtain ⟨ve523_0, rfl, ge523_0⟩ := hMe523; have hv523_0 := hcc523 0 _ rfl; rw [Nat.add_zero, show ((Kd.slice 3 (Kd.int .i64))).sz = 1 from rfl, Nat.mul_one] at hv523_0; replace hv523_0 := Option.some.inj (hv523_0.symm.trans hx523_0); rw [hv523_0] at ge523_0; have HL523_0 := Aside0.mk (show Kd.R (Kd.int .i64) 3 _ _ _ _ (rd_L3 t510 ((rd_T76 l0_1 x37_2).f1)) from ge523_0); clear hv523_0 ge523_0 hcc523 hce523; have HR523_0 := Aside0.mk hi523_0; have HC523_0 := Aside0.mk hl523_0; clear hi523_0 hl523_0; obtain ⟨p523, q523⟩ := et_ p523 q523; have p524 : 0 ≤ (a2 : Int) := oa_; have q524 : a2 < ((rd_L3 t510 ((rd_T76 l0_1 x37_2).f1)).length : Int) := oa_; obtain ⟨ad524, e524, hx524_0⟩ := Kd.at_int (by repeat (first | (with_reducible exact HR523_0.out) | (with_reducible refine Kd.C_alloc ?_ _) | (with_reducible refine Kd.C_drewN ?_ _) | (with_reducible refine Kd.C_drew ?_) | exact HR523_0.out)) a2 p524 q524; cases e524; obtain ⟨p524, q524⟩ := et_ p524 q524; have p525 : 0 ≤ (x11_2 : Int) := oa_; have q525 : x11_2 < (t510.length : Int) := oa_; obtain ⟨ad525, A525_0, c525_0, e525, hx525_0, hl525_0, hi525_0⟩ := at_L3 (Kd.S_reads' HO_8.out).2.2 x11_2 p525 q525; obtain rfl : ad513 = ad525 := (by injection e525); obtain ⟨ce525, hce525, hMe525, hcc525⟩ := Kd.S_get HO_8.out [] x11_2 p525 (by first | exact q525 | exact oa_ | (have e_ := (Kd.S_reads' HO_8.out).1; omega)); obtain ⟨ve525_0, rfl, ge525_0⟩ := hMe525; have hv525_0 := hcc525 0 _ rfl; rw [Nat.add_zero, show ((Kd.slice 3 (Kd.int .i64))).sz = 1 from rfl, Nat.mul_one] at hv525_0; replace hv525_0 := Option.some.inj (hv525_0.symm.trans hx525_0); rw [hv525_0] at ge525_0; have HL525_0 := Aside0.mk (show Kd.R (Kd.int .i64) 3 _ _ _ _ (rd_L3 t510 x11_2) from ge525_0); clear hv525_0 ge525_0 hcc525 hce525; have HR525_0 := Aside0.mk hi525_0; have HC525_0 := Aside0.mk hl525_0; clear hi525_0 hl525_0; obtain ⟨p525, q525⟩ := et_ p525 q525; have p526 : 0 ≤ (a2 : Int) := oa_; have q526 : a2 < ((rd_L3 t510 x11_2).length : Int) := oa_; obtain ⟨ad526, e526, hx526_0⟩ := Kd.at_int (by repeat (first | (with_reducible exact HR525_0.out) | (with_reducible refine Kd.C_alloc ?_ _) | (with_reducible refine Kd.C_drewN ?_ _) | (with_reducible refine Kd.C_drew ?_) | exact HR525_0.out)) a2 p526 q526; cases e526; obtain ⟨p526, q526⟩ := et_ p526 q526; obtain ⟨Ao53, co53, eo53⟩ := Kd.R_slice HO_9.out; subst eo53; have p527 : 0 ≤ (((rd_T76 l0_1 x37_2).f1) : Int) := oa_; have q527 : ((rd_T76 l0_1 x37_2).f1) < (t515.length : Int) := oa_; obtain ⟨ad527, e527, hx527_0⟩ := Kd.at_int (Kd.R_reads' HO_9.out).2.2 ((rd_T76 l0_1 x37_2).f1) p527 q527; cases e527; obtain ⟨p527, q527⟩ := et_ p527 q527; have p528 : 0 ≤ (x11_2 : Int) := oa_; have q528 : x11_2 < (t515.length : Int) := oa_; obtain ⟨ad528, e528, hx528_0⟩ := Kd.at_int (Kd.R_reads' HO_9.out).2.2 x11_2 p528 q528; obtain rfl : ad527 = ad528 := (by injection e528); obtain ⟨p528, q528⟩ := et_ p528 q528))
    repeat (go_quiet (fail); try go_wp2_with (fail))
    go_roundg k2
    case measure => have := HK1.out; have := HK2.out; omega
    case rel => exact ⟨(x11_2), (wrap64 (x37_2 + 1)), er_, er_, H', ⟨by have := HK1.out; have := HK2.out; omega⟩, ⟨hS_ HO_8⟩, ⟨hd_ HO_9⟩, ⟨hd_ HO_10⟩, ⟨bx_ BK509⟩, ⟨bw115_⟩⟩
   rw [if_pos c39] at H
   have c39b0 : ((rd t515 ((rd_T76 l0_1 x37_2).f1)) == (wrap64 ((rd t515 x11_2) - 1))) = true := beq_iff_eq.mpr c39
   have c39b1 : ((rd t515 ((rd_T76 l0_1 x37_2).f1)) != (wrap64 ((rd t515 x11_2) - 1))) = false := bne_eq_false_iff_eq.mpr c39
   clear c39
   by_cases c40 : x10_1.length < 17592186044416
   rotate_left
   ·rw [if_neg c40] at H
    exact absurd H (by simp)
   rw [if_pos c40] at H
   have LMc40 := Aside0.mk c40
   clear c40
   obtain ⟨y529, hy529⟩ : ∃ y_ : List Int, y_ = (x10_1 ++ [(rd_T76 l0_1 x37_2).f1]) := ⟨_, rfl⟩
   replace H : (impl_Graph_cheapest.l0 k2 a2 t510 t515 y529 ((rd_T76 l0_1 x37_2).f1) a0_0 l0_1) = some (r1, r2) := by first | (rw [hy529]; with_reducible exact H) | (have H2_ := (Option.bind_some _ _).symm.trans H; rw [hy529]; with_reducible exact H2_) | (have H2_ := (Option.bind_some _ _).symm.trans H; with_reducible exact H2_) | with_reducible exact H | (rw [hy529]; exact H) | exact H
   have Ny529 := Aside0.mk hy529
   clear hy529
   have H' := Aside0.mk H
   clear H
   have p521 : 0 ≤ (x37_2 : Int) := oa_
   have q521 : x37_2 < (l0_1.length : Int) := oa_
   obtain ⟨ad521, e521, hx521_0, hx521_1, hx521_2⟩ := at_T76 HR0_1.out x37_2 p521 q521
   cases e521
   replace hx521_0 := hc5_ HB hx521_0
   replace hx521_1 := hc5_ HB hx521_1
   replace hx521_2 := hc5_ HB hx521_2
   obtain ⟨p521, q521⟩ := et_ p521 q521
   go_wp2_with (first | ((with_reducible refine gate_dst (N := 13) rfl ?_); refine be_ 13 #[.int .i64 0, .int .i64 0, .int .i64 0] 76 ?_; intro gb522 hg w41 BK522 hb; have GW522 := ge_ HB hg; have GE522 := ge_ HB hg; have NB509_522 := nl_ BK509 hg; have NB522_509 := ng_ BK509 hg; replace HO_8 := Aside0.mk (Kd.S_below (hS_ HO_8) hb); replace HO_9 := rb_ HO_9 hb; replace HO_10 := rb_ HO_10 hb; replace HB := at_ HB hb; replace BK509 := ab_ BK509 hb; clear hb hg; have hnb42 := NB522_509.out; have hnc42 := NB509_522.out; have hcz43_0 := cz_ BK522 0 (.int .i64 0); have hcz43_1 := cz_ BK522 1 (.int .i64 0); have hcz43_2 := cz_ BK522 2 (.int .i64 0); have hfz43_0 := fz_ BK522 0; have hfz43_1 := fz_ BK522 1; have hfz43_2 := fz_ BK522 2) | ((with_reducible refine gate_store (t := 76) (p := 13) rfl ?_); (try (rw [drewN_self w41]; generalize hq_ : World.drewN w41 _ = w41; replace HO_8 := Aside0.mk (Kd.S_at hq_ HO_8.out); replace HO_9 := Aside0.mk (Kd.R_at hq_ HO_9.out); replace HO_10 := Aside0.mk (Kd.R_at hq_ HO_10.out); replace BK509 := Aside0.mk (blk_at hq_ BK509.out); replace BK522 := Aside0.mk (blk_at hq_ BK522.out); replace HB := Aside0.mk (below_at hq_ HB.out); clear hq_)); refine store_event (t := 76) (p := 13) (v := ?vo_w44) (w1 := (((w41.setCell ⟨gb522, 0, none⟩ (.int .i64 ((rd_T76 l0_1 x37_2).f0))).setCell ⟨gb522, 1, none⟩ (.int .i64 ((rd_T76 l0_1 x37_2).f1))).setCell ⟨gb522, 2, none⟩ (.int .i64 ((rd_T76 l0_1 x37_2).f2)))) ?hg ?ho ?hn ?hr ?_; (case ho => rfl); (case hg => rfl); (case hn => rfl); (case hr => first | (go_simp; done) | (go_simp; rfl)); intro w44 hw; replace HO_8 : Aside0 (Kd.S (Kd.slice 3 (Kd.int .i64)) 26 w44 w.heap.size (fun k_ => some k_ ≠ (v516 : Value).ownBlock ∧ some k_ ≠ (u10 : Value).ownBlock) (.slice (some ad513) t510.length co18) t510) := ⟨(by rw [hw]; exact (by (with_reducible repeat (first | apply Kd.S_alloc | apply Kd.S_drewN | apply Kd.S_drew)); exact Kd.S_mono (Kd.S_far (Kd.S_far (Kd.S_far (Kd.S_types HO_8.out BK522.out (by decide)) (fun _ hk => hk.2) _) (fun _ hk => hk.2) _) (fun _ hk => hk.2) _) (fun _ hk => by first | exact ⟨hk.1.1, hk.1.2⟩ | grind)))⟩; replace HO_9 : Aside0 (Kd.R (Kd.int .i64) 3 w44 w.heap.size (fun k_ => some k_ ≠ (u10 : Value).ownBlock) v516 t515) := ⟨(by rw [hw]; exact (hq_ (Kd.R_mono (Kd.R_far (Kd.R_far (Kd.R_far (Kd.R_types HO_9.out BK522.out (by decide)) (fun _ hk => hk.2) _) (fun _ hk => hk.2) _) (fun _ hk => hk.2) _) (fun _ hk => hk.1))))⟩; replace HO_10 : Aside0 (Kd.R (Kd.int .i64) 3 w44 w.heap.size (fun k_ => some k_ ≠ (v516 : Value).ownBlock) u10 x10_1) := ⟨(by rw [hw]; exact (hq_ (Kd.R_mono (Kd.R_far (Kd.R_far (Kd.R_far (Kd.R_types HO_10.out BK522.out (by decide)) (fun _ hk => hk.2) _) (fun _ hk => hk.2) _) (fun _ hk => hk.2) _) (fun _ hk => hk.1))))⟩; replace BK509 : Aside0 (w44.heap[gb509]? = some (.cells #[.int .i64 a0_0, .slice (some ad521) l0_1.length c0_1] 30 (0, 0))) := ⟨(by rw [hw]; exact (bc_ BK509))⟩; replace BK522 : Aside0 (w44.heap[gb522]? = some (.cells #[.int .i64 ((rd_T76 l0_1 x37_2).f0), .int .i64 ((rd_T76 l0_1 x37_2).f1), .int .i64 ((rd_T76 l0_1 x37_2).f2)] 76 (0, 0))) := ⟨(by rw [hw]; exact (by refine bd_ ?_; refine blk_put (cs := #[.int .i64 ((rd_T76 l0_1 x37_2).f0), .int .i64 ((rd_T76 l0_1 x37_2).f1), .int .i64 0]) ?_ 2 _ rfl; refine bd_ ?_; refine blk_put (cs := #[.int .i64 ((rd_T76 l0_1 x37_2).f0), .int .i64 0, .int .i64 0]) ?_ 1 _ rfl; refine bd_ ?_; refine blk_put (cs := #[.int .i64 0, .int .i64 0, .int .i64 0]) ?_ 0 _ rfl; refine bd_ ?_; exact BK522.out))⟩; replace HB : Aside0 (Below w.heap.size w w44) := ⟨(by rw [hw]; exact (bw115_))⟩; clear hw; have hcz45_0 := cz_ BK522 0 (.int .i64 ((rd_T76 l0_1 x37_2).f0)); have hcz45_1 := cz_ BK522 1 (.int .i64 ((rd_T76 l0_1 x37_2).f1)); have hcz45_2 := cz_ BK522 2 (.int .i64 ((rd_T76 l0_1 x37_2).f2)); have hfz45_0 := fz_ BK522 0; have hfz45_1 := fz_ BK522 1; have hfz45_2 := fz_ BK522 2; have p523 : 0 ≤ (((rd_T76 l0_1 x37_2).f1) : Int) := oa_; have q523 : ((rd_T76 l0_1 x37_2).f1) < (t510.length : Int) := oa_; obtain ⟨ad523, A523_0, c523_0, e523, hx523_0, hl523_0, hi523_0⟩ := at_L3 (Kd.S_reads' HO_8.out).2.2 ((rd_T76 l0_1 x37_2).f1) p523 q523; obtain rfl : ad513 = ad523 := (by injection e523); obtain ⟨ce523, hce523, hMe523, hcc523⟩ := Kd.S_get HO_8.out [] ((rd_T76 l0_1 x37_2).f1) p523 (by first | exact q523 | exact oa_ | (have e_ := (Kd.S_reads' HO_8.out).1; omega)); obtain ⟨ve523_0, rfl, ge523_0⟩ := hMe523; have hv523_0 := hcc523 0 _ rfl; rw [Nat.add_zero, show ((Kd.slice 3 (Kd.int .i64))).sz = 1 from rfl, Nat.mul_one] at hv523_0; replace hv523_0 := Option.some.inj (hv523_0.symm.trans hx523_0); rw [hv523_0] at ge523_0; have HL523_0 := Aside0.mk (show Kd.R (Kd.int .i64) 3 _ _ _ _ (rd_L3 t510 ((rd_T76 l0_1 x37_2).f1)) from ge523_0); clear hv523_0 ge523_0 hcc523 hce523; have HR523_0 := Aside0.mk hi523_0; have HC523_0 := Aside0.mk hl523_0; clear hi523_0 hl523_0; obtain ⟨p523, q523⟩ := et_ p523 q523; have p524 : 0 ≤ (a2 : Int) := oa_; have q524 : a2 < ((rd_L3 t510 ((rd_T76 l0_1 x37_2).f1)).length : Int) := oa_; obtain ⟨ad524, e524, hx524_0⟩ := Kd.at_int (by repeat (first | (with_reducible exact HR523_0.out) | (with_reducible refine Kd.C_alloc ?_ _) | (with_reducible refine Kd.C_drewN ?_ _) | (with_reducible refine Kd.C_drew ?_) | exact HR523_0.out)) a2 p524 q524; cases e524; obtain ⟨p524, q524⟩ := et_ p524 q524; have p525 : 0 ≤ (x11_2 : Int) := oa_; have q525 : x11_2 < (t510.length : Int) := oa_; obtain ⟨ad525, A525_0, c525_0, e525, hx525_0, hl525_0, hi525_0⟩ := at_L3 (Kd.S_reads' HO_8.out).2.2 x11_2 p525 q525; obtain rfl : ad513 = ad525 := (by injection e525); obtain ⟨ce525, hce525, hMe525, hcc525⟩ := Kd.S_get HO_8.out [] x11_2 p525 (by first | exact q525 | exact oa_ | (have e_ := (Kd.S_reads' HO_8.out).1; omega)); obtain ⟨ve525_0, rfl, ge525_0⟩ := hMe525; have hv525_0 := hcc525 0 _ rfl; rw [Nat.add_zero, show ((Kd.slice 3 (Kd.int .i64))).sz = 1 from rfl, Nat.mul_one] at hv525_0; replace hv525_0 := Option.some.inj (hv525_0.symm.trans hx525_0); rw [hv525_0] at ge525_0; have HL525_0 := Aside0.mk (show Kd.R (Kd.int .i64) 3 _ _ _ _ (rd_L3 t510 x11_2) from ge525_0); clear hv525_0 ge525_0 hcc525 hce525; have HR525_0 := Aside0.mk hi525_0; have HC525_0 := Aside0.mk hl525_0; clear hi525_0 hl525_0; obtain ⟨p525, q525⟩ := et_ p525 q525; have p526 : 0 ≤ (a2 : Int) := oa_; have q526 : a2 < ((rd_L3 t510 x11_2).length : Int) := oa_; obtain ⟨ad526, e526, hx526_0⟩ := Kd.at_int (by repeat (first | (with_reducible exact HR525_0.out) | (with_reducible refine Kd.C_alloc ?_ _) | (with_reducible refine Kd.C_drewN ?_ _) | (with_reducible refine Kd.C_drew ?_) | exact HR525_0.out)) a2 p526 q526; cases e526; obtain ⟨p526, q526⟩ := et_ p526 q526; obtain ⟨Ao46, co46, eo46⟩ := Kd.R_slice HO_9.out; subst eo46; have p527 : 0 ≤ (((rd_T76 l0_1 x37_2).f1) : Int) := oa_; have q527 : ((rd_T76 l0_1 x37_2).f1) < (t515.length : Int) := oa_; obtain ⟨ad527, e527, hx527_0⟩ := Kd.at_int (Kd.R_reads' HO_9.out).2.2 ((rd_T76 l0_1 x37_2).f1) p527 q527; cases e527; obtain ⟨p527, q527⟩ := et_ p527 q527; have p528 : 0 ≤ (x11_2 : Int) := oa_; have q528 : x11_2 < (t515.length : Int) := oa_; obtain ⟨ad528, e528, hx528_0⟩ := Kd.at_int (Kd.R_reads' HO_9.out).2.2 x11_2 p528 q528; obtain rfl : ad527 = ad528 := (by injection e528); obtain ⟨p528, q528⟩ := et_ p528 q528))
   repeat (go_quiet (fail); try go_wp2_with ((with_reducible refine gate_builtin (b := .append) (xs := #[.tmp 82, .tmp 84]) rfl ?_); at_builtin; refine Kd.R_append (Kd.int .i64) (w0 := w) w.heap.size rfl (.tmp 82) (.tmp 84) 26 3 (.int .i64 0) 8 rfl Try.underlying26 info3 rfl (by decide) (by omega) u10 x10_1 ((rd_T76 l0_1 x37_2).f1) [.int .i64 ((rd_T76 l0_1 x37_2).f1)] (fun k_ => some k_ ≠ (.slice (some ad527) t515.length co46 : Value).ownBlock) (fun _ => False) rfl rfl ?aP (fun _ hk => hk.elim) ?aF ?aO ?aB ?aS ?aL ?_; (case aP => exact rfl); (case aB => exact (bw115_)); (case aF => exact (fun k_ hk => Kd.fresh' (Kd.R_lt (hd_ HO_9)) k_ hk)); (case aO => exact (hd_ HO_10)); (case aS => exact (bz_ HB)); (case aL => have := LMc40.out; omega); intro v530 w47 ho hb hg hat; rw [← Ny529.out] at ho; have HO531 := Aside0.mk ho; replace HO_8 := Aside0.mk (Kd.S_after (ok := (fun k_ => some k_ ≠ (.slice (some ad527) t515.length co46 : Value).ownBlock)) (hS_ HO_8) hg hat); replace HO_9 := Aside0.mk (Kd.R_after (ok := (fun _ => True)) (hq_ (Kd.R_mono HO_9.out (fun _ hk => by first | exact ⟨trivial, hk⟩ | grind))) hg hat); replace BK509 := Aside0.mk (blk_grown (g := gb509) (o := .cells #[.int .i64 a0_0, .slice (some ad521) l0_1.length c0_1] 30 (0, 0)) (bx_ BK509) hg (Kd.R_ne HO_10.out BK509.out (by decide))); replace BK522 := Aside0.mk (blk_grown (g := gb522) (o := .cells #[.int .i64 ((rd_T76 l0_1 x37_2).f0), .int .i64 ((rd_T76 l0_1 x37_2).f1), .int .i64 ((rd_T76 l0_1 x37_2).f2)] 76 (0, 0)) (bx_ BK522) hg (Kd.R_ne HO_10.out BK522.out (by decide))); replace HL523_0 := Aside0.mk (Kd.R_after (ok := (fun k_ => some k_ ≠ (.slice (some ad513) t510.length co18 : Value).ownBlock ∧ some k_ ≠ (.slice (some ad527) t515.length co46 : Value).ownBlock)) (hq_ (Kd.R_mono HL523_0.out (fun _ hk => ⟨⟨hk.2, hk.1.1⟩, hk.1.2⟩))) hg hat); replace HL525_0 := Aside0.mk (Kd.R_after (ok := (fun k_ => some k_ ≠ (.slice (some ad513) t510.length co18 : Value).ownBlock ∧ some k_ ≠ (.slice (some ad527) t515.length co46 : Value).ownBlock)) (hq_ (Kd.R_mono HL525_0.out (fun _ hk => ⟨⟨hk.2, hk.1.1⟩, hk.1.2⟩))) hg hat); replace HB := Aside0.mk (hb); clear HO_10 ho hb hg hat))
   go_roundg k2
   case measure => have := HK1.out; have := HK2.out; omega
   case rel => exact ⟨(y529), ((rd_T76 l0_1 x37_2).f1), er_, H', ⟨by have := HK1.out; have := HK2.out; omega⟩, ⟨hS_ HO_8⟩, ⟨hq_ (Kd.R_mono HO_9.out (fun _ hk => hk.2))⟩, ⟨hd_ HO531⟩, ⟨bx_ BK509⟩, ⟨bw115_⟩⟩
def impl_CheapestWay.f (k : Nat) (a0_0 : Int) (l0_1 : List (S76)) (a1 : Int) (a2 : Int) : Option (List Int × Bool) := (impl_GraphOk.f k a0_0 l0_1).bind fun t536 => (if t536 = true then ((impl_Graph_isNode.f a0_0 l0_1 a1).bind fun t537 => (if t537 = true then ((impl_Graph_isNode.f a0_0 l0_1 a2).bind fun t538 => (if t538 = true then ((impl_Graph_cheapest.f k a0_0 l0_1 a1 a2).bind fun bt539 => (some (bt539.1, bt539.2))) else (some (([] : List Int), false)))) else (some (([] : List Int), false)))) else (some (([] : List Int), false)))
set_option maxHeartbeats 8000000 in
set_option maxRecDepth 100000 in
theorem impl_CheapestWay.calls (k : Nat) (a0_0 : Int) (A0_1 : Option Addr) (c0_1 : Nat) (l0_1 : List (S76)) (a1 : Int) (a2 : Int) (r1 : List Int) (r2 : Bool) (w : World) (hr0_1 : Kd.C k76 w A0_1 l0_1.length l0_1) (hc0_1 : l0_1.length ≤ c0_1) (h : impl_CheapestWay.f k a0_0 l0_1 a1 a2 = some (r1, r2)) :
  Calls Try.prog 40 #[.agg #[.int .i64 a0_0, .slice A0_1 l0_1.length c0_1], .int .i64 a1, .int .i64 a2] w fun e w' => ∃ v0_ : Value, e = .returned (.tuple #[v0_, .bool r2]) ∧ Kd.R (Kd.int .i64) 3 w' w.heap.size (fun _ => True) v0_ r1 ∧ Below w.heap.size w w' := by
 have hu30 := Try.underlying30
 have HR0_1 := Aside0.mk hr0_1
 have HC0_1 := Aside0.mk hc0_1
 clear hr0_1 hc0_1
 have HB := Aside0.mk (Below.refl w.heap.size w)
 have H : ((impl_GraphOk.f k a0_0 l0_1).bind fun t536 => (if t536 = true then ((impl_Graph_isNode.f a0_0 l0_1 a1).bind fun t537 => (if t537 = true then ((impl_Graph_isNode.f a0_0 l0_1 a2).bind fun t538 => (if t538 = true then ((impl_Graph_cheapest.f k a0_0 l0_1 a1 a2).bind fun bt539 => (some (bt539.1, bt539.2))) else (some (([] : List Int), false)))) else (some (([] : List Int), false)))) else (some (([] : List Int), false)))) = some (r1, r2) := h
 clear h
 obtain ⟨t536, A4, H⟩ := ob_ H
 by_cases c5 : t536 = true
 rotate_left
 ·replace c5 := Bool.eq_false_iff.mpr c5
  subst c5
  rw [if_neg (show ¬ (false = true) by decide)] at H
  simp only [Option.some.injEq, Prod.mk.injEq] at H
  obtain ⟨rfl, rfl⟩ := H
  go_enter Try.func40, Try.ntmps40
  go_wp2_with (first | ((with_reducible refine gate_dst (N := 3) rfl ?_); refine be_ 3 #[.int .i64 a0_0, .slice A0_1 l0_1.length c0_1] 30 ?_; intro gb535 hg w32 BK535 hb; have GW535 := ge_ HB hg; have GE535 := ge_ HB hg; replace HB := at_ HB hb; clear hb hg; have hcz33_0 := cz_ BK535 0 (.int .i64 a0_0); have hcz33_1 := cz_ BK535 1 (.slice A0_1 l0_1.length c0_1); have hfz33_0 := fz_ BK535 0; have hfz33_1 := fz_ BK535 1) | ((with_reducible refine gate_callee (f := 47) rfl ?_); refine gl_ (some 9) Try.func47 #[.agg #[.int .i64 a0_0, .slice A0_1 l0_1.length c0_1]] ?_; (with_reducible refine (impl_GraphOk.calls k a0_0 _ _ l0_1 false _ ?side1 ?side2 A4.out).mono ?_); (case side1 => exact cb_ HR0_1 HB); (case side2 => exact HC0_1.out); rintro e w34 ⟨rfl, hb⟩; refine ⟨_, rfl, ?_⟩; replace BK535 := ab_ BK535 hb; replace HB := at_ HB hb; clear hb))
  go_ret2
  exact ⟨_, ew_, by first | exact Kd.R_nil _ _ _ _ _ | exact Kd.N_nil _ _ _ _ _ | exact Kd.V_nil _ _ _ _ _ | exact Kd.Q_nil _ _ _ _ _ | exact Kd.S_nil _ _ _ _ _, bw115_⟩
 subst c5
 rw [if_pos rfl] at H
 obtain ⟨t537, A6, H⟩ := ob_ H
 by_cases c7 : t537 = true
 rotate_left
 ·replace c7 := Bool.eq_false_iff.mpr c7
  subst c7
  rw [if_neg (show ¬ (false = true) by decide)] at H
  simp only [Option.some.injEq, Prod.mk.injEq] at H
  obtain ⟨rfl, rfl⟩ := H
  go_enter Try.func40, Try.ntmps40
  go_wp2_with (first | ((with_reducible refine gate_dst (N := 3) rfl ?_); refine be_ 3 #[.int .i64 a0_0, .slice A0_1 l0_1.length c0_1] 30 ?_; intro gb535 hg w27 BK535 hb; have GW535 := ge_ HB hg; have GE535 := ge_ HB hg; replace HB := at_ HB hb; clear hb hg; have hcz28_0 := cz_ BK535 0 (.int .i64 a0_0); have hcz28_1 := cz_ BK535 1 (.slice A0_1 l0_1.length c0_1); have hfz28_0 := fz_ BK535 0; have hfz28_1 := fz_ BK535 1) | ((with_reducible refine gate_callee (f := 47) rfl ?_); refine gl_ (some 9) Try.func47 #[.agg #[.int .i64 a0_0, .slice A0_1 l0_1.length c0_1]] ?_; (with_reducible refine (impl_GraphOk.calls k a0_0 _ _ l0_1 true _ ?side1 ?side2 A4.out).mono ?_); (case side1 => exact cb_ HR0_1 HB); (case side2 => exact HC0_1.out); rintro e w29 ⟨rfl, hb⟩; refine ⟨_, rfl, ?_⟩; replace BK535 := ab_ BK535 hb; replace HB := at_ HB hb; clear hb; have hcz30_0 := cz_ BK535 0 (.int .i64 a0_0); have hcz30_1 := cz_ BK535 1 (.slice A0_1 l0_1.length c0_1); have hfz30_0 := fz_ BK535 0; have hfz30_1 := fz_ BK535 1) | (go_at_call 48; (with_reducible refine (impl_Graph_isNode.calls a0_0 _ _ l0_1 a1 false _ ?side1 ?side2 A6.out).mono ?_); (case side1 => exact cb_ HR0_1 HB); (case side2 => exact HC0_1.out); rintro e w31 ⟨rfl, hb⟩; replace BK535 := ab_ BK535 hb; replace HB := at_ HB hb; clear hb))
  go_ret2
  exact ⟨_, ew_, by first | exact Kd.R_nil _ _ _ _ _ | exact Kd.N_nil _ _ _ _ _ | exact Kd.V_nil _ _ _ _ _ | exact Kd.Q_nil _ _ _ _ _ | exact Kd.S_nil _ _ _ _ _, bw115_⟩
 subst c7
 rw [if_pos rfl] at H
 obtain ⟨t538, A8, H⟩ := ob_ H
 by_cases c9 : t538 = true
 rotate_left
 ·replace c9 := Bool.eq_false_iff.mpr c9
  subst c9
  rw [if_neg (show ¬ (false = true) by decide)] at H
  simp only [Option.some.injEq, Prod.mk.injEq] at H
  obtain ⟨rfl, rfl⟩ := H
  go_enter Try.func40, Try.ntmps40
  go_wp2_with (first | ((with_reducible refine gate_dst (N := 3) rfl ?_); refine be_ 3 #[.int .i64 a0_0, .slice A0_1 l0_1.length c0_1] 30 ?_; intro gb535 hg w20 BK535 hb; have GW535 := ge_ HB hg; have GE535 := ge_ HB hg; replace HB := at_ HB hb; clear hb hg; have hcz21_0 := cz_ BK535 0 (.int .i64 a0_0); have hcz21_1 := cz_ BK535 1 (.slice A0_1 l0_1.length c0_1); have hfz21_0 := fz_ BK535 0; have hfz21_1 := fz_ BK535 1) | ((with_reducible refine gate_callee (f := 47) rfl ?_); refine gl_ (some 9) Try.func47 #[.agg #[.int .i64 a0_0, .slice A0_1 l0_1.length c0_1]] ?_; (with_reducible refine (impl_GraphOk.calls k a0_0 _ _ l0_1 true _ ?side1 ?side2 A4.out).mono ?_); (case side1 => exact cb_ HR0_1 HB); (case side2 => exact HC0_1.out); rintro e w22 ⟨rfl, hb⟩; refine ⟨_, rfl, ?_⟩; replace BK535 := ab_ BK535 hb; replace HB := at_ HB hb; clear hb; have hcz23_0 := cz_ BK535 0 (.int .i64 a0_0); have hcz23_1 := cz_ BK535 1 (.slice A0_1 l0_1.length c0_1); have hfz23_0 := fz_ BK535 0; have hfz23_1 := fz_ BK535 1) | (go_at_call 48; (with_reducible refine (impl_Graph_isNode.calls a0_0 _ _ l0_1 a1 true _ ?side1 ?side2 A6.out).mono ?_); (case side1 => exact cb_ HR0_1 HB); (case side2 => exact HC0_1.out); rintro e w24 ⟨rfl, hb⟩; replace BK535 := ab_ BK535 hb; replace HB := at_ HB hb; clear hb; have hcz25_0 := cz_ BK535 0 (.int .i64 a0_0); have hcz25_1 := cz_ BK535 1 (.slice A0_1 l0_1.length c0_1); have hfz25_0 := fz_ BK535 0; have hfz25_1 := fz_ BK535 1) | (go_at_call 48; (with_reducible refine (impl_Graph_isNode.calls a0_0 _ _ l0_1 a2 false _ ?side1 ?side2 A8.out).mono ?_); (case side1 => exact cb_ HR0_1 HB); (case side2 => exact HC0_1.out); rintro e w26 ⟨rfl, hb⟩; replace BK535 := ab_ BK535 hb; replace HB := at_ HB hb; clear hb))
  go_ret2
  exact ⟨_, ew_, by first | exact Kd.R_nil _ _ _ _ _ | exact Kd.N_nil _ _ _ _ _ | exact Kd.V_nil _ _ _ _ _ | exact Kd.Q_nil _ _ _ _ _ | exact Kd.S_nil _ _ _ _ _, bw115_⟩
 subst c9
 rw [if_pos rfl] at H
 obtain ⟨⟨t539, t542⟩, A10, H⟩ := ob_ H
 simp only [Option.some.injEq, Prod.mk.injEq] at H
 obtain ⟨rfl, rfl⟩ := H
 go_enter Try.func40, Try.ntmps40
 go_wp2_with (first | ((with_reducible refine gate_dst (N := 3) rfl ?_); refine be_ 3 #[.int .i64 a0_0, .slice A0_1 l0_1.length c0_1] 30 ?_; intro gb535 hg w11 BK535 hb; have GW535 := ge_ HB hg; have GE535 := ge_ HB hg; replace HB := at_ HB hb; clear hb hg; have hcz12_0 := cz_ BK535 0 (.int .i64 a0_0); have hcz12_1 := cz_ BK535 1 (.slice A0_1 l0_1.length c0_1); have hfz12_0 := fz_ BK535 0; have hfz12_1 := fz_ BK535 1) | ((with_reducible refine gate_callee (f := 47) rfl ?_); refine gl_ (some 9) Try.func47 #[.agg #[.int .i64 a0_0, .slice A0_1 l0_1.length c0_1]] ?_; (with_reducible refine (impl_GraphOk.calls k a0_0 _ _ l0_1 true _ ?side1 ?side2 A4.out).mono ?_); (case side1 => exact cb_ HR0_1 HB); (case side2 => exact HC0_1.out); rintro e w13 ⟨rfl, hb⟩; refine ⟨_, rfl, ?_⟩; replace BK535 := ab_ BK535 hb; replace HB := at_ HB hb; clear hb; have hcz14_0 := cz_ BK535 0 (.int .i64 a0_0); have hcz14_1 := cz_ BK535 1 (.slice A0_1 l0_1.length c0_1); have hfz14_0 := fz_ BK535 0; have hfz14_1 := fz_ BK535 1) | (go_at_call 48; (with_reducible refine (impl_Graph_isNode.calls a0_0 _ _ l0_1 a1 true _ ?side1 ?side2 A6.out).mono ?_); (case side1 => exact cb_ HR0_1 HB); (case side2 => exact HC0_1.out); rintro e w15 ⟨rfl, hb⟩; replace BK535 := ab_ BK535 hb; replace HB := at_ HB hb; clear hb; have hcz16_0 := cz_ BK535 0 (.int .i64 a0_0); have hcz16_1 := cz_ BK535 1 (.slice A0_1 l0_1.length c0_1); have hfz16_0 := fz_ BK535 0; have hfz16_1 := fz_ BK535 1) | (go_at_call 48; (with_reducible refine (impl_Graph_isNode.calls a0_0 _ _ l0_1 a2 true _ ?side1 ?side2 A8.out).mono ?_); (case side1 => exact cb_ HR0_1 HB); (case side2 => exact HC0_1.out); rintro e w17 ⟨rfl, hb⟩; replace BK535 := ab_ BK535 hb; replace HB := at_ HB hb; clear hb; have hcz18_0 := cz_ BK535 0 (.int .i64 a0_0); have hcz18_1 := cz_ BK535 1 (.slice A0_1 l0_1.length c0_1); have hfz18_0 := fz_ BK535 0; have hfz18_1 := fz_ BK535 1) | ((with_reducible refine gate_callee (f := 49) rfl ?_); refine gl_ (some 26) Try.func49 #[.agg #[.int .i64 a0_0, .slice A0_1 l0_1.length c0_1], .int .i64 a1, .int .i64 a2] ?_; (with_reducible refine (impl_Graph_cheapest.calls k a0_0 _ _ l0_1 a1 a2 t539 t542 _ ?side1 ?side2 A10.out).mono ?_); (case side1 => exact cb_ HR0_1 HB); (case side2 => exact HC0_1.out); rintro e w19 ⟨v540, rfl, ho0, hb⟩; refine ⟨_, rfl, ?_⟩; have HO541 := Aside0.mk (Kd.R_lower ho0 (bz_ HB)); replace BK535 := ab_ BK535 hb; replace HB := at_ HB hb; clear hb ho0))
 go_ret2
 exact ⟨_, ew_, by (with_reducible repeat (first | apply Kd.R_alloc | apply Kd.R_drewN | apply Kd.R_drew)); exact HO541.out, bw115_⟩
def impl_CountWays_1.f (a0 : Int) (a1 : Int) (l2 : List (List Int)) : Option (Int) := if 0 < (l2.length : Int) then (if 0 ≤ a0 then (if a0 < ((rd_L3 l2 0).length : Int) then (if 0 ≤ a1 then (if a1 < ((rd_L3 l2 0).length : Int) then (some (wrap64 ((rd (rd_L3 l2 0) a0) - (rd (rd_L3 l2 0) a1)))) else (none)) else (none)) else (none)) else (none)) else (none)
set_option maxHeartbeats 8000000 in
set_option maxRecDepth 100000 in
theorem impl_CountWays_1.calls (a0 : Int) (a1 : Int) (A2 : Option Addr) (l2 : List (List Int)) (r : Int) (w : World) (hr2 : Kd.C (Kd.slice 3 (Kd.int .i64)) w A2 l2.length l2) (h : impl_CountWays_1.f a0 a1 l2 = some r) :
  Calls Try.prog 74 #[.int .i64 a0, .int .i64 a1, .pointer A2] w fun e w' => e = .returned (.int .i64 r) ∧ Drawn0 w w' := by
 have HR2 := Aside0.mk hr2
 clear hr2
 have H : (if 0 < (l2.length : Int) then (if 0 ≤ a0 then (if a0 < ((rd_L3 l2 0).length : Int) then (if 0 ≤ a1 then (if a1 < ((rd_L3 l2 0).length : Int) then (some (wrap64 ((rd (rd_L3 l2 0) a0) - (rd (rd_L3 l2 0) a1)))) else (none)) else (none)) else (none)) else (none)) else (none)) = some r := h
 clear h
 by_cases c4 : 0 < (l2.length : Int)
 rotate_left
 ·rw [if_neg c4] at H
  exact absurd H (by simp)
 rw [if_pos c4] at H
 have c4b0 : decide (0 < (l2.length : Int)) = true := decide_eq_true c4
 have c4b1 : decide (0 < l2.length) = true := decide_eq_true (by omega)
 clear c4
 obtain ⟨c5b0, H⟩ := iq_ H
 obtain ⟨c6b0, H⟩ := iq_ H
 obtain ⟨c7b0, H⟩ := iq_ H
 obtain ⟨c8b0, H⟩ := iq_ H
 obtain rfl := Option.some.inj H
 have p543 : 0 ≤ (0 : Int) := (by omega)
 have q543 : 0 < (l2.length : Int) := oa_
 obtain ⟨ad543, A543_0, c543_0, e543, hx543_0, hl543_0, hi543_0⟩ := at_L3 HR2.out 0 p543 q543
 cases e543
 have qi543 : (0 < l2.length) = True := eq_true (by omega)
 (try rw [show ((0 : Int)).toNat = 0 from rfl] at hx543_0)
 (try rw [Addr.add_zero'] at hx543_0)
 have HR543_0 := Aside0.mk hi543_0
 have HC543_0 := Aside0.mk hl543_0
 clear hi543_0 hl543_0
 obtain ⟨p543, q543⟩ := et_ p543 q543
 have p544 : 0 ≤ (a0 : Int) := oa_
 have q544 : a0 < ((rd_L3 l2 0).length : Int) := oa_
 obtain ⟨ad544, e544, hx544_0⟩ := Kd.at_int HR543_0.out a0 p544 q544
 cases e544
 obtain ⟨p544, q544⟩ := et_ p544 q544
 have p545 : 0 ≤ (0 : Int) := (by omega)
 have q545 : 0 < (l2.length : Int) := oa_
 obtain ⟨ad545, A545_0, c545_0, e545, hx545_0, hl545_0, hi545_0⟩ := at_L3 HR2.out 0 p545 q545
 obtain rfl : ad543 = ad545 := (by injection e545)
 have qi545 : (0 < l2.length) = True := eq_true (by omega)
 (try rw [show ((0 : Int)).toNat = 0 from rfl] at hx545_0)
 (try rw [Addr.add_zero'] at hx545_0)
 have HR545_0 := Aside0.mk hi545_0
 have HC545_0 := Aside0.mk hl545_0
 clear hi545_0 hl545_0
 obtain ⟨p545, q545⟩ := et_ p545 q545
 have ea_ := Option.some.inj (hx543_0.symm.trans hx545_0)
 injection ea_ with ea_ en_ ec_
 subst ea_
 subst ec_
 clear en_
 have p546 : 0 ≤ (a1 : Int) := oa_
 have q546 : a1 < ((rd_L3 l2 0).length : Int) := oa_
 obtain ⟨ad546, e546, hx546_0⟩ := Kd.at_int HR545_0.out a1 p546 q546
 cases e546
 obtain ⟨p546, q546⟩ := et_ p546 q546
 go_enter Try.func74, Try.ntmps74
 go_wp2
 repeat (go_quiet (fail); try go_wp2)
 go_ret
 exact ⟨by first | rfl | (simp; done) | (simp [*]; done), by repeat (first | exact Drawn0.refl _ | apply Drawn0.step)⟩
end Go.Proofs.Ythmahcohcphljaa.QFnCheapest
