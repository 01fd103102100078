/- Contracts of functions that the law reaches: what each call returns and what it leaves in memory. Made by this session over the print of the kit. -/
import Derived.Test.YthmahcohcphljaaQFnCheapestx0
import Derived.Test.YthmahcohcphljaaQFnCheapestx3
import Derived.Test.YthmahcohcphljaaQFnCheapestx4
import Derived.Test.YthmahcohcphljaaQFnCheapestx5
namespace Go.Proofs.Ythmahcohcphljaa.QFnCheapest
open Go.RowKit Go.Proofs.YthmahcohcphljaaC.PrintWords Go.Proofs.YthmahcohcphljaaC.PrintLast Go.Proofs.YthmahcohcphljaaC.PrintMore
attribute [local go_sem] max2_int min2_int max_two min_two max_three min_three max_four min_four
set_option linter.unusedVariables false
set_option linter.unusedSimpArgs false
def ba6_0 := bs_ 7 0
def ba6_1 := bs_ 7 2
def ba6_2 := bs_ 7 6
def ba6_3 := bs_ 7 7
def ba6_4 := bs_ 7 15
def ba6_5 := bs_ 7 31
def ba6_6 := bs_ 7 63
def ba6_7 := bs_ 7 127
mutual
def impl_Graph_hopsTo.j0 : Nat → Int → Int → List (List Int) → List Int → Bool → Int → List (S76) → Option (List Int)
 | 0, _, _, _, _, _, _, _ => none
 | k + 1, x1, x2, x3, x9, x25, x171000, x171001 => if x25 = true then (some x9) else (impl_Graph_hopsTo.l0 k x1 x2 x3 x9 x171001 (x171001.length : Int) 0)
def impl_Graph_hopsTo.l0 : Nat → Int → Int → List (List Int) → List Int → List (S76) → Int → Int → Option (List Int)
 | 0, _, _, _, _, _, _, _ => none
 | k + 1, x1, x2, x3, x9, x28, x29, x30 => if x30 < x29 then (if 0 ≤ x30 then (if x30 < (x28.length : Int) then (if ((rd_T76 x28 x30).f0) = x1 then (if 0 ≤ ((rd_T76 x28 x30).f1) then (if ((rd_T76 x28 x30).f1) < (x3.length : Int) then (if 0 ≤ x2 then (if x2 < ((rd_L3 x3 ((rd_T76 x28 x30).f1)).length : Int) then (if 0 ≤ x1 then (if x1 < (x3.length : Int) then (if x2 < ((rd_L3 x3 x1).length : Int) then (if (wrap64 (((rd_T76 x28 x30).f2) + (rd (rd_L3 x3 ((rd_T76 x28 x30).f1)) x2))) = (rd (rd_L3 x3 x1) x2) then (if x9.length < 17592186044416 then (impl_Graph_hopsTo.l0 k x1 x2 x3 (x9 ++ [(rd_T76 x28 x30).f1]) x28 x29 (wrap64 (x30 + 1))) else (none)) else (impl_Graph_hopsTo.l0 k x1 x2 x3 x9 x28 x29 (wrap64 (x30 + 1)))) else (none)) else (none)) else (none)) else (none)) else (none)) else (none)) else (none)) else (impl_Graph_hopsTo.l0 k x1 x2 x3 x9 x28 x29 (wrap64 (x30 + 1)))) else (none)) else (none)) else (some x9)
end
def impl_Graph_hopsTo.f (k : Nat) (a0_0 : Int) (l0_1 : List (S76)) (a1 : Int) (a2 : Int) (l3 : List (List Int)) : Option (List Int) := (some (([] : List Int) : List Int)).bind fun y171 => (if a1 = a2 then (impl_Graph_hopsTo.j0 k a1 a2 l3 y171 true a0_0 l0_1) else (if 0 ≤ a1 then (if a1 < (l3.length : Int) then (if 0 ≤ a2 then (if a2 < ((rd_L3 l3 a1).length : Int) then (impl_Graph_hopsTo.j0 k a1 a2 l3 y171 ((rd (rd_L3 l3 a1) a2) == 1000000) a0_0 l0_1) else (none)) else (none)) else (none)) else (none)))
set_option maxHeartbeats 8000000 in
set_option maxRecDepth 100000 in
theorem impl_Graph_hopsTo.calls (k : Nat) (a0_0 : Int) (A0_1 : Option Addr) (c0_1 : Nat) (l0_1 : List (S76)) (a1 : Int) (a2 : Int) (A3 : Option Addr) (c3 : Nat) (l3 : List (List Int)) (r : List Int) (w : World) (hr0_1 : Kd.C k76 w A0_1 l0_1.length l0_1) (hc0_1 : l0_1.length ≤ c0_1) (hr3 : Kd.C (Kd.slice 3 (Kd.int .i64)) w A3 l3.length l3) (hc3 : l3.length ≤ c3) (h : impl_Graph_hopsTo.f k a0_0 l0_1 a1 a2 l3 = some r) :
  Calls Try.prog 58 #[.agg #[.int .i64 a0_0, .slice A0_1 l0_1.length c0_1], .int .i64 a1, .int .i64 a2, .slice A3 l3.length c3] w fun e w' => ∃ v0_ : Value, e = .returned (v0_) ∧ Kd.R (Kd.int .i64) 3 w' w.heap.size (fun _ => True) v0_ r ∧ Below w.heap.size w w' := by
 have hu30 := Try.underlying30
 have hu76 := Try.underlying76
 have HR0_1 := Aside0.mk hr0_1
 have HC0_1 := Aside0.mk hc0_1
 clear hr0_1 hc0_1
 have HR3 := Aside0.mk hr3
 have HC3 := Aside0.mk hc3
 clear hr3 hc3
 have HB := Aside0.mk (Below.refl w.heap.size w)
 have H : ((some (([] : List Int) : List Int)).bind fun y171 => (if a1 = a2 then (impl_Graph_hopsTo.j0 k a1 a2 l3 y171 true a0_0 l0_1) else (if 0 ≤ a1 then (if a1 < (l3.length : Int) then (if 0 ≤ a2 then (if a2 < ((rd_L3 l3 a1).length : Int) then (impl_Graph_hopsTo.j0 k a1 a2 l3 y171 ((rd (rd_L3 l3 a1) a2) == 1000000) a0_0 l0_1) else (none)) else (none)) else (none)) else (none)))) = some r := h
 clear h
 obtain ⟨y171, hy171⟩ : ∃ y_ : List Int, y_ = (([] : List Int)) := ⟨_, rfl⟩
 replace H : (if a1 = a2 then (impl_Graph_hopsTo.j0 k a1 a2 l3 y171 true a0_0 l0_1) else (if 0 ≤ a1 then (if a1 < (l3.length : Int) then (if 0 ≤ a2 then (if a2 < ((rd_L3 l3 a1).length : Int) then (impl_Graph_hopsTo.j0 k a1 a2 l3 y171 ((rd (rd_L3 l3 a1) a2) == 1000000) a0_0 l0_1) else (none)) else (none)) else (none)) else (none))) = some r := by first | (rw [hy171]; with_reducible exact H) | (have H2_ := (Option.bind_some _ _).symm.trans H; rw [hy171]; with_reducible exact H2_) | (have H2_ := (Option.bind_some _ _).symm.trans H; with_reducible exact H2_) | with_reducible exact H | (rw [hy171]; exact H) | exact H
 have Ny171 := Aside0.mk hy171
 clear hy171
 have HC5 := Aside0.mk H
 clear H
 go_enter Try.func58, Try.ntmps58
 go_upto_region 2 with (first | ((with_reducible refine gate_dst (N := 4) rfl ?_); refine be_ 4 #[.int .i64 a0_0, .slice A0_1 l0_1.length c0_1] 30 ?_; intro gb170 hg w6 BK170 hb; have GW170 := ge_ HB hg; have GE170 := ge_ HB hg; replace HB := at_ HB hb; clear hb hg) | ((with_reducible refine gate_dst (N := 12) rfl ?_); refine Kd.R_lit (Kd.int .i64) _ 3 ?hg (N := 12) ?hd (xs := ([] : List Int)) (inner := []) (ok := fun _ => True) (okp := fun _ => True) ?hr ?hp (fun _ hk => hk) trivial (Below.refl _ _) (Nat.le_refl _) (by simp) ?_; (case hd => rfl); (case hg => rfl); (case hr => first | (go_simp; done) | (go_simp; rfl)); (case hp => exact (Reps.none _ _)); intro v172 w7 ho8 hb hg_ hnew_; clear hg_ hnew_; (first | rw [← Ny171.out] at ho8 | (simp only [Int.reduceToNat] at ho8; rw [← Ny171.out] at ho8)); have HO173 := Aside0.mk (Kd.R_lower ho8 (bz_ HB)); replace BK170 := ab_ BK170 hb; replace HB := at_ HB hb; clear hb ho8))
 (try simp only [Act.put, List.setIfInBounds_toArray, List.set_cons_zero, List.set_cons_succ])
 go_cut [25] (fun v25 wc => ∃ (kq : Nat) (x25_4 : Bool), v25 = .bool x25_4 ∧ Aside0 (impl_Graph_hopsTo.j0 kq a1 a2 l3 y171 x25_4 a0_0 l0_1 = some r) ∧ Aside0 (kq ≤ k) ∧ Aside0 (Kd.R (Kd.int .i64) 3 wc w.heap.size (fun _ => True) v172 y171) ∧ Aside0 (wc.heap[gb170]? = some (.cells #[.int .i64 a0_0, (.slice A0_1 l0_1.length c0_1)] 30 (0, 0))) ∧ Aside0 (Below w.heap.size w wc))
 case first =>
  have H := HC5.out
  clear HC5
  by_cases c9 : a1 = a2
  ·rw [if_pos c9] at H
   have c9b0 : (a1 == a2) = true := beq_iff_eq.mpr c9
   have c9b1 : (a1 != a2) = false := bne_eq_false_iff_eq.mpr c9
   clear c9
   (first | rw [c9b0] | (simp only [i64_w, i32_w]; rw [c9b0]) | skip)
   have H' := Aside0.mk H
   clear H
   go_wp2
   repeat (go_quiet (fail); try go_wp2)
   go_meet
   case rel => exact ⟨_, (true), er_, H', ⟨by first | omega | exact Nat.le_refl _⟩, ⟨hd_ HO173⟩, ⟨bx_ BK170⟩, ⟨bw_⟩⟩
  rw [if_neg c9] at H
  have c9b0 : (a1 == a2) = false := beq_eq_false_iff_ne.mpr c9
  have c9b1 : (a1 != a2) = true := bne_iff_ne.mpr c9
  (first | rw [c9b0] | (simp only [i64_w, i32_w]; rw [c9b0]) | skip)
  obtain ⟨c10b0, H⟩ := iq_ H
  obtain ⟨c11b0, H⟩ := iq_ H
  obtain ⟨c12b0, H⟩ := iq_ H
  obtain ⟨c13b0, H⟩ := iq_ H
  have H' := Aside0.mk H
  clear H
  have p174 : 0 ≤ (a1 : Int) := oa_
  have q174 : a1 < (l3.length : Int) := oa_
  obtain ⟨ad174, A174_0, c174_0, e174, hx174_0, hl174_0, hi174_0⟩ := at_L3 HR3.out a1 p174 q174
  cases e174
  replace hx174_0 := hc5_ HB hx174_0
  have HR174_0 := Aside0.mk hi174_0
  have HC174_0 := Aside0.mk hl174_0
  clear hi174_0 hl174_0
  obtain ⟨p174, q174⟩ := et_ p174 q174
  have p175 : 0 ≤ (a2 : Int) := oa_
  have q175 : a2 < ((rd_L3 l3 a1).length : Int) := oa_
  obtain ⟨ad175, e175, hx175_0⟩ := Kd.at_int HR174_0.out a2 p175 q175
  cases e175
  replace hx175_0 := hc5_ HB hx175_0
  obtain ⟨p175, q175⟩ := et_ p175 q175
  go_wp2
  repeat (go_quiet (fail); try go_wp2)
  go_meet
  case rel => exact ⟨_, (((rd (rd_L3 l3 a1) a2) == 1000000)), er_, H', ⟨by first | omega | exact Nat.le_refl _⟩, ⟨hd_ HO173⟩, ⟨bx_ BK170⟩, ⟨bw_⟩⟩
 clear HC5
 obtain ⟨kq, x25_4, rfl, HA, HJ4, HO_9, BK170, HB⟩ := hcut
 cases kq with
 | zero => exact absurd HA.out (by simp [impl_Graph_hopsTo.j0])
 | succ kj4 =>
  have H := HA.out
  clear HA
  simp only [impl_Graph_hopsTo.j0] at H
  by_cases c14 : x25_4 = true
  ·subst c14
   rw [if_pos rfl] at H
   obtain rfl := Option.some.inj H
   go_wp2
   repeat (go_quiet (fail); try go_wp2)
   go_ret
   exact ⟨_, ew_, by (with_reducible repeat (first | apply Kd.R_alloc | apply Kd.R_drewN | apply Kd.R_drew)); exact HO_9.out, bw_⟩
  replace c14 := Bool.eq_false_iff.mpr c14
  subst c14
  rw [if_neg (show ¬ (false = true) by decide)] at H
  have H' := Aside0.mk H
  clear H
  have hcz15_0 := cz_ BK170 0 (.int .i64 a0_0)
  have hcz15_1 := cz_ BK170 1 (.slice A0_1 l0_1.length c0_1)
  have hfz15_0 := fz_ BK170 0
  have hfz15_1 := fz_ BK170 1
  go_wp2
  repeat (go_quiet (fail); try go_wp2)
  go_loopg [9, 30] kj4 (fun kq v9 v30 w' => ∃ (x9_2 : List Int) (x30_2 : Int), v30 = .int .i64 x30_2 ∧ Aside0 (impl_Graph_hopsTo.l0 kq a1 a2 l3 x9_2 l0_1 (l0_1.length : Int) x30_2 = some r) ∧ Aside0 (kq ≤ kj4) ∧ Aside0 (Kd.R (Kd.int .i64) 3 w' w.heap.size (fun _ => True) v9 x9_2) ∧ Aside0 (w'.heap[gb170]? = some (.cells #[.int .i64 a0_0, (.slice A0_1 l0_1.length c0_1)] 30 (0, 0))) ∧ Aside0 (Below w.heap.size w w'))
  case atStart => exact ⟨(y171), (0), er_, H', ⟨Nat.le_refl _⟩, ⟨hd_ HO_9⟩, ⟨bx_ BK170⟩, ⟨bw_⟩⟩
  clear H' hcz15_0 hcz15_1 hfz15_0 hfz15_1
  obtain ⟨x9_2, x30_2, rfl, HA, HK2, HO_9, BK170, HB⟩ := hrel
  cases gk with
  | zero => exact absurd HA.out (by simp [impl_Graph_hopsTo.l0])
  | succ k2 =>
   have H := HA.out
   clear HA
   simp only [impl_Graph_hopsTo.l0] at H
   by_cases c16 : x30_2 < (l0_1.length : Int)
   rotate_left
   ·rw [if_neg c16] at H
    have c16b0 : decide (x30_2 < (l0_1.length : Int)) = false := decide_eq_false c16
    clear c16
    obtain rfl := Option.some.inj H
    go_wp2
    repeat (go_quiet (fail); try go_wp2)
    go_ret
    exact ⟨_, ew_, by (with_reducible repeat (first | apply Kd.R_alloc | apply Kd.R_drewN | apply Kd.R_drew)); exact HO_9.out, bw_⟩
   rw [if_pos c16] at H
   have c16b0 : decide (x30_2 < (l0_1.length : Int)) = true := decide_eq_true c16
   clear c16
   obtain ⟨c17b0, H⟩ := iq_ H
   obtain ⟨c18b0, H⟩ := iq_ H
   by_cases c19 : ((rd_T76 l0_1 x30_2).f0) = a1
   rotate_left
   ·rw [if_neg c19] at H
    have c19b0 : (((rd_T76 l0_1 x30_2).f0) == a1) = false := beq_eq_false_iff_ne.mpr c19
    have c19b1 : (((rd_T76 l0_1 x30_2).f0) != a1) = true := bne_iff_ne.mpr c19
    have H' := Aside0.mk H
    clear H
    have p176 : 0 ≤ (x30_2 : Int) := oa_
    have q176 : x30_2 < (l0_1.length : Int) := oa_
    obtain ⟨ad176, e176, hx176_0, hx176_1, hx176_2⟩ := at_T76 HR0_1.out x30_2 p176 q176
    cases e176
    replace hx176_0 := hc5_ HB hx176_0
    replace hx176_1 := hc5_ HB hx176_1
    replace hx176_2 := hc5_ HB hx176_2
    obtain ⟨p176, q176⟩ := et_ p176 q176
    go_wp2_with ((with_reducible refine gate_dst (N := 11) rfl ?_); refine be_ 11 #[.int .i64 0, .int .i64 0, .int .i64 0] 76 ?_; intro gb177 hg w36 BK177 hb; have GW177 := ge_ HB hg; have GE177 := ge_ HB hg; have NB170_177 := nl_ BK170 hg; have NB177_170 := ng_ BK170 hg; replace HO_9 := rb_ HO_9 hb; replace HB := at_ HB hb; replace BK170 := ab_ BK170 hb; clear hb hg; have hnb37 := NB177_170.out; have hnc37 := NB170_177.out; have hcz38_0 := cz_ BK177 0 (.int .i64 0); have hcz38_1 := cz_ BK177 1 (.int .i64 0); have hcz38_2 := cz_ BK177 2 (.int .i64 0); have hfz38_0 := fz_ BK177 0; have hfz38_1 := fz_ BK177 1; have hfz38_2 := fz_ BK177 2)
    repeat (go_quiet (fail); try go_wp2_with (fail))
    go_roundg k2
    case measure => have := HJ4.out; have := HK2.out; omega
    case rel => exact ⟨(x9_2), (wrap64 (x30_2 + 1)), er_, H', ⟨by have := HJ4.out; have := HK2.out; omega⟩, ⟨hq_ (Kd.R_mono (Kd.R_far (Kd.R_far (Kd.R_far (Kd.R_types HO_9.out BK177.out (by decide)) (fun _ hk => hk.2) _) (fun _ hk => hk.2) _) (fun _ hk => hk.2) _) (fun _ hk => trivial))⟩, ⟨bc_ BK170⟩, ⟨bw_⟩⟩
   rw [if_pos c19] at H
   have c19b0 : (((rd_T76 l0_1 x30_2).f0) == a1) = true := beq_iff_eq.mpr c19
   have c19b1 : (((rd_T76 l0_1 x30_2).f0) != a1) = false := bne_eq_false_iff_eq.mpr c19
   clear c19
   obtain ⟨c20b0, H⟩ := iq_ H
   obtain ⟨c21b0, H⟩ := iq_ H
   obtain ⟨c22b0, H⟩ := iq_ H
   obtain ⟨c23b0, H⟩ := iq_ H
   obtain ⟨c24b0, H⟩ := iq_ H
   obtain ⟨c25b0, H⟩ := iq_ H
   obtain ⟨c26b0, H⟩ := iq_ H
   by_cases c27 : (wrap64 (((rd_T76 l0_1 x30_2).f2) + (rd (rd_L3 l3 ((rd_T76 l0_1 x30_2).f1)) a2))) = (rd (rd_L3 l3 a1) a2)
   rotate_left
   ·rw [if_neg c27] at H
    have c27b0 : ((wrap64 (((rd_T76 l0_1 x30_2).f2) + (rd (rd_L3 l3 ((rd_T76 l0_1 x30_2).f1)) a2))) == (rd (rd_L3 l3 a1) a2)) = false := beq_eq_false_iff_ne.mpr c27
    have c27b1 : ((wrap64 (((rd_T76 l0_1 x30_2).f2) + (rd (rd_L3 l3 ((rd_T76 l0_1 x30_2).f1)) a2))) != (rd (rd_L3 l3 a1) a2)) = true := bne_iff_ne.mpr c27
    have H' := Aside0.mk H
    clear H
    have p176 : 0 ≤ (x30_2 : Int) := oa_
    have q176 : x30_2 < (l0_1.length : Int) := oa_
    obtain ⟨ad176, e176, hx176_0, hx176_1, hx176_2⟩ := at_T76 HR0_1.out x30_2 p176 q176
    cases e176
    replace hx176_0 := hc5_ HB hx176_0
    replace hx176_1 := hc5_ HB hx176_1
    replace hx176_2 := hc5_ HB hx176_2
    obtain ⟨p176, q176⟩ := et_ p176 q176
    go_wp2_with ((with_reducible refine gate_dst (N := 11) rfl ?_); refine be_ 11 #[.int .i64 0, .int .i64 0, .int .i64 0] 76 ?_; intro gb177 hg w33 BK177 hb; have GW177 := ge_ HB hg; have GE177 := ge_ HB hg; have NB170_177 := nl_ BK170 hg; have NB177_170 := ng_ BK170 hg; replace HO_9 := rb_ HO_9 hb; replace HB := at_ HB hb; replace BK170 := ab_ BK170 hb; clear hb hg; have hnb34 := NB177_170.out; have hnc34 := NB170_177.out; have hcz35_0 := cz_ BK177 0 (.int .i64 0); have hcz35_1 := cz_ BK177 1 (.int .i64 0); have hcz35_2 := cz_ BK177 2 (.int .i64 0); have hfz35_0 := fz_ BK177 0; have hfz35_1 := fz_ BK177 1; have hfz35_2 := fz_ BK177 2; have p178 : 0 ≤ (((rd_T76 l0_1 x30_2).f1) : Int) := oa_; have q178 : ((rd_T76 l0_1 x30_2).f1) < (l3.length : Int) := oa_; obtain ⟨ad178, A178_0, c178_0, e178, hx178_0, hl178_0, hi178_0⟩ := at_L3 HR3.out ((rd_T76 l0_1 x30_2).f1) p178 q178; cases e178; have hn178_0 : ad178.block ≠ gb177 := hn_ hx178_0 GW177; have hn178_1 : ad178.block ≠ gb177 := hn_ hx178_0 GW177; have hn178_2 : ad178.block ≠ gb177 := hn_ hx178_0 GW177; replace hx178_0 := hc5_ HB hx178_0; have HR178_0 := Aside0.mk hi178_0; have HC178_0 := Aside0.mk hl178_0; clear hi178_0 hl178_0; replace hx178_0 := cf_ (p := ⟨gb177, 0, none⟩) (u := (.int .i64 ((rd_T76 l0_1 x30_2).f0))) hx178_0 hn178_0; replace hx178_0 := cf_ (p := ⟨gb177, 1, none⟩) (u := (.int .i64 ((rd_T76 l0_1 x30_2).f1))) hx178_0 hn178_1; replace hx178_0 := cf_ (p := ⟨gb177, 2, none⟩) (u := (.int .i64 ((rd_T76 l0_1 x30_2).f2))) hx178_0 hn178_2; (try have hy178_0 := fun (n_ : Nat) => (show (((((w33.drewN n_).setCell ⟨gb177, 0, none⟩ (.int .i64 ((rd_T76 l0_1 x30_2).f0))).setCell ⟨gb177, 1, none⟩ (.int .i64 ((rd_T76 l0_1 x30_2).f1))).setCell ⟨gb177, 2, none⟩ (.int .i64 ((rd_T76 l0_1 x30_2).f2)))).cell? _ = some _ from hx178_0)); clear hn178_0 hn178_1 hn178_2; obtain ⟨p178, q178⟩ := et_ p178 q178; have p179 : 0 ≤ (a2 : Int) := oa_; have q179 : a2 < ((rd_L3 l3 ((rd_T76 l0_1 x30_2).f1)).length : Int) := oa_; obtain ⟨ad179, e179, hx179_0⟩ := Kd.at_int HR178_0.out a2 p179 q179; cases e179; have hn179_0 : ad179.block ≠ gb177 := hn_ hx179_0 GW177; have hn179_1 : ad179.block ≠ gb177 := hn_ hx179_0 GW177; have hn179_2 : ad179.block ≠ gb177 := hn_ hx179_0 GW177; replace hx179_0 := hc5_ HB hx179_0; replace hx179_0 := cf_ (p := ⟨gb177, 0, none⟩) (u := (.int .i64 ((rd_T76 l0_1 x30_2).f0))) hx179_0 hn179_0; replace hx179_0 := cf_ (p := ⟨gb177, 1, none⟩) (u := (.int .i64 ((rd_T76 l0_1 x30_2).f1))) hx179_0 hn179_1; replace hx179_0 := cf_ (p := ⟨gb177, 2, none⟩) (u := (.int .i64 ((rd_T76 l0_1 x30_2).f2))) hx179_0 hn179_2; (try have hy179_0 := fun (n_ : Nat) => (show (((((w33.drewN n_).setCell ⟨gb177, 0, none⟩ (.int .i64 ((rd_T76 l0_1 x30_2).f0))).setCell ⟨gb177, 1, none⟩ (.int .i64 ((rd_T76 l0_1 x30_2).f1))).setCell ⟨gb177, 2, none⟩ (.int .i64 ((rd_T76 l0_1 x30_2).f2)))).cell? _ = some _ from hx179_0)); clear hn179_0 hn179_1 hn179_2; obtain ⟨p179, q179⟩ := et_ p179 q179; have p180 : 0 ≤ (a1 : Int) := oa_; have q180 : a1 < (l3.length : Int) := oa_; obtain ⟨ad180, A180_0, c180_0, e180, hx180_0, hl180_0, hi180_0⟩ := at_L3 HR3.out a1 p180 q180; obtain rfl : ad178 = ad180 := (by injection e180); have hn180_0 : ad178.block ≠ gb177 := hn_ hx180_0 GW177; have hn180_1 : ad178.block ≠ gb177 := hn_ hx180_0 GW177; have hn180_2 : ad178.block ≠ gb177 := hn_ hx180_0 GW177; replace hx180_0 := hc5_ HB hx180_0; have HR180_0 := Aside0.mk hi180_0; have HC180_0 := Aside0.mk hl180_0; clear hi180_0 hl180_0; replace hx180_0 := cf_ (p := ⟨gb177, 0, none⟩) (u := (.int .i64 ((rd_T76 l0_1 x30_2).f0))) hx180_0 hn180_0; replace hx180_0 := cf_ (p := ⟨gb177, 1, none⟩) (u := (.int .i64 ((rd_T76 l0_1 x30_2).f1))) hx180_0 hn180_1; replace hx180_0 := cf_ (p := ⟨gb177, 2, none⟩) (u := (.int .i64 ((rd_T76 l0_1 x30_2).f2))) hx180_0 hn180_2; (try have hy180_0 := fun (n_ : Nat) => (show (((((w33.drewN n_).setCell ⟨gb177, 0, none⟩ (.int .i64 ((rd_T76 l0_1 x30_2).f0))).setCell ⟨gb177, 1, none⟩ (.int .i64 ((rd_T76 l0_1 x30_2).f1))).setCell ⟨gb177, 2, none⟩ (.int .i64 ((rd_T76 l0_1 x30_2).f2)))).cell? _ = some _ from hx180_0)); clear hn180_0 hn180_1 hn180_2; obtain ⟨p180, q180⟩ := et_ p180 q180; have p181 : 0 ≤ (a2 : Int) := oa_; have q181 : a2 < ((rd_L3 l3 a1).length : Int) := oa_; obtain ⟨ad181, e181, hx181_0⟩ := Kd.at_int HR180_0.out a2 p181 q181; cases e181; have hn181_0 : ad181.block ≠ gb177 := hn_ hx181_0 GW177; have hn181_1 : ad181.block ≠ gb177 := hn_ hx181_0 GW177; have hn181_2 : ad181.block ≠ gb177 := hn_ hx181_0 GW177; replace hx181_0 := hc5_ HB hx181_0; replace hx181_0 := cf_ (p := ⟨gb177, 0, none⟩) (u := (.int .i64 ((rd_T76 l0_1 x30_2).f0))) hx181_0 hn181_0; replace hx181_0 := cf_ (p := ⟨gb177, 1, none⟩) (u := (.int .i64 ((rd_T76 l0_1 x30_2).f1))) hx181_0 hn181_1; replace hx181_0 := cf_ (p := ⟨gb177, 2, none⟩) (u := (.int .i64 ((rd_T76 l0_1 x30_2).f2))) hx181_0 hn181_2; (try have hy181_0 := fun (n_ : Nat) => (show (((((w33.drewN n_).setCell ⟨gb177, 0, none⟩ (.int .i64 ((rd_T76 l0_1 x30_2).f0))).setCell ⟨gb177, 1, none⟩ (.int .i64 ((rd_T76 l0_1 x30_2).f1))).setCell ⟨gb177, 2, none⟩ (.int .i64 ((rd_T76 l0_1 x30_2).f2)))).cell? _ = some _ from hx181_0)); clear hn181_0 hn181_1 hn181_2; obtain ⟨p181, q181⟩ := et_ p181 q181)
    repeat (go_quiet (fail); try go_wp2_with (fail))
    go_roundg k2
    case measure => have := HJ4.out; have := HK2.out; omega
    case rel => exact ⟨(x9_2), (wrap64 (x30_2 + 1)), er_, H', ⟨by have := HJ4.out; have := HK2.out; omega⟩, ⟨hq_ (Kd.R_mono (Kd.R_far (Kd.R_far (Kd.R_far (Kd.R_types HO_9.out BK177.out (by decide)) (fun _ hk => hk.2) _) (fun _ hk => hk.2) _) (fun _ hk => hk.2) _) (fun _ hk => trivial))⟩, ⟨bc_ BK170⟩, ⟨bw_⟩⟩
   rw [if_pos c27] at H
   have c27b0 : ((wrap64 (((rd_T76 l0_1 x30_2).f2) + (rd (rd_L3 l3 ((rd_T76 l0_1 x30_2).f1)) a2))) == (rd (rd_L3 l3 a1) a2)) = true := beq_iff_eq.mpr c27
   have c27b1 : ((wrap64 (((rd_T76 l0_1 x30_2).f2) + (rd (rd_L3 l3 ((rd_T76 l0_1 x30_2).f1)) a2))) != (rd (rd_L3 l3 a1) a2)) = false := bne_eq_false_iff_eq.mpr c27
   clear c27
   by_cases c28 : x9_2.length < 17592186044416
   rotate_left
   ·rw [if_neg c28] at H
    exact absurd H (by simp)
   rw [if_pos c28] at H
   have LMc28 := Aside0.mk c28
   clear c28
   obtain ⟨y182, hy182⟩ : ∃ y_ : List Int, y_ = (x9_2 ++ [(rd_T76 l0_1 x30_2).f1]) := ⟨_, rfl⟩
   replace H : (impl_Graph_hopsTo.l0 k2 a1 a2 l3 y182 l0_1 (l0_1.length : Int) (wrap64 (x30_2 + 1))) = some r := by first | (rw [hy182]; with_reducible exact H) | (have H2_ := (Option.bind_some _ _).symm.trans H; rw [hy182]; with_reducible exact H2_) | (have H2_ := (Option.bind_some _ _).symm.trans H; with_reducible exact H2_) | with_reducible exact H | (rw [hy182]; exact H) | exact H
   have Ny182 := Aside0.mk hy182
   clear hy182
   have H' := Aside0.mk H
   clear H
   have p176 : 0 ≤ (x30_2 : Int) := oa_
   have q176 : x30_2 < (l0_1.length : Int) := oa_
   obtain ⟨ad176, e176, hx176_0, hx176_1, hx176_2⟩ := at_T76 HR0_1.out x30_2 p176 q176
   cases e176
   replace hx176_0 := hc5_ HB hx176_0
   replace hx176_1 := hc5_ HB hx176_1
   replace hx176_2 := hc5_ HB hx176_2
   obtain ⟨p176, q176⟩ := et_ p176 q176
   go_wp2_with ((with_reducible refine gate_dst (N := 11) rfl ?_); refine be_ 11 #[.int .i64 0, .int .i64 0, .int .i64 0] 76 ?_; intro gb177 hg w29 BK177 hb; have GW177 := ge_ HB hg; have GE177 := ge_ HB hg; have NB170_177 := nl_ BK170 hg; have NB177_170 := ng_ BK170 hg; replace HO_9 := rb_ HO_9 hb; replace HB := at_ HB hb; replace BK170 := ab_ BK170 hb; clear hb hg; have hnb30 := NB177_170.out; have hnc30 := NB170_177.out; have hcz31_0 := cz_ BK177 0 (.int .i64 0); have hcz31_1 := cz_ BK177 1 (.int .i64 0); have hcz31_2 := cz_ BK177 2 (.int .i64 0); have hfz31_0 := fz_ BK177 0; have hfz31_1 := fz_ BK177 1; have hfz31_2 := fz_ BK177 2; have p178 : 0 ≤ (((rd_T76 l0_1 x30_2).f1) : Int) := oa_; have q178 : ((rd_T76 l0_1 x30_2).f1) < (l3.length : Int) := oa_; obtain ⟨ad178, A178_0, c178_0, e178, hx178_0, hl178_0, hi178_0⟩ := at_L3 HR3.out ((rd_T76 l0_1 x30_2).f1) p178 q178; cases e178; have hn178_0 : ad178.block ≠ gb177 := hn_ hx178_0 GW177; have hn178_1 : ad178.block ≠ gb177 := hn_ hx178_0 GW177; have hn178_2 : ad178.block ≠ gb177 := hn_ hx178_0 GW177; replace hx178_0 := hc5_ HB hx178_0; have HR178_0 := Aside0.mk hi178_0; have HC178_0 := Aside0.mk hl178_0; clear hi178_0 hl178_0; replace hx178_0 := cf_ (p := ⟨gb177, 0, none⟩) (u := (.int .i64 ((rd_T76 l0_1 x30_2).f0))) hx178_0 hn178_0; replace hx178_0 := cf_ (p := ⟨gb177, 1, none⟩) (u := (.int .i64 ((rd_T76 l0_1 x30_2).f1))) hx178_0 hn178_1; replace hx178_0 := cf_ (p := ⟨gb177, 2, none⟩) (u := (.int .i64 ((rd_T76 l0_1 x30_2).f2))) hx178_0 hn178_2; (try have hy178_0 := fun (n_ : Nat) => (show (((((w29.drewN n_).setCell ⟨gb177, 0, none⟩ (.int .i64 ((rd_T76 l0_1 x30_2).f0))).setCell ⟨gb177, 1, none⟩ (.int .i64 ((rd_T76 l0_1 x30_2).f1))).setCell ⟨gb177, 2, none⟩ (.int .i64 ((rd_T76 l0_1 x30_2).f2)))).cell? _ = some _ from hx178_0)); clear hn178_0 hn178_1 hn178_2; obtain ⟨p178, q178⟩ := et_ p178 q178; have p179 : 0 ≤ (a2 : Int) := oa_; have q179 : a2 < ((rd_L3 l3 ((rd_T76 l0_1 x30_2).f1)).length : Int) := oa_; obtain ⟨ad179, e179, hx179_0⟩ := Kd.at_int HR178_0.out a2 p179 q179; cases e179; have hn179_0 : ad179.block ≠ gb177 := hn_ hx179_0 GW177; have hn179_1 : ad179.block ≠ gb177 := hn_ hx179_0 GW177; have hn179_2 : ad179.block ≠ gb177 := hn_ hx179_0 GW177; replace hx179_0 := hc5_ HB hx179_0; replace hx179_0 := cf_ (p := ⟨gb177, 0, none⟩) (u := (.int .i64 ((rd_T76 l0_1 x30_2).f0))) hx179_0 hn179_0; replace hx179_0 := cf_ (p := ⟨gb177, 1, none⟩) (u := (.int .i64 ((rd_T76 l0_1 x30_2).f1))) hx179_0 hn179_1; replace hx179_0 := cf_ (p := ⟨gb177, 2, none⟩) (u := (.int .i64 ((rd_T76 l0_1 x30_2).f2))) hx179_0 hn179_2; (try have hy179_0 := fun (n_ : Nat) => (show (((((w29.drewN n_).setCell ⟨gb177, 0, none⟩ (.int .i64 ((rd_T76 l0_1 x30_2).f0))).setCell ⟨gb177, 1, none⟩ (.int .i64 ((rd_T76 l0_1 x30_2).f1))).setCell ⟨gb177, 2, none⟩ (.int .i64 ((rd_T76 l0_1 x30_2).f2)))).cell? _ = some _ from hx179_0)); clear hn179_0 hn179_1 hn179_2; obtain ⟨p179, q179⟩ := et_ p179 q179; have p180 : 0 ≤ (a1 : Int) := oa_; have q180 : a1 < (l3.length : Int) := oa_; obtain ⟨ad180, A180_0, c180_0, e180, hx180_0, hl180_0, hi180_0⟩ := at_L3 HR3.out a1 p180 q180; obtain rfl : ad178 = ad180 := (by injection e180); have hn180_0 : ad178.block ≠ gb177 := hn_ hx180_0 GW177; have hn180_1 : ad178.block ≠ gb177 := hn_ hx180_0 GW177; have hn180_2 : ad178.block ≠ gb177 := hn_ hx180_0 GW177; replace hx180_0 := hc5_ HB hx180_0; have HR180_0 := Aside0.mk hi180_0; have HC180_0 := Aside0.mk hl180_0; clear hi180_0 hl180_0; replace hx180_0 := cf_ (p := ⟨gb177, 0, none⟩) (u := (.int .i64 ((rd_T76 l0_1 x30_2).f0))) hx180_0 hn180_0; replace hx180_0 := cf_ (p := ⟨gb177, 1, none⟩) (u := (.int .i64 ((rd_T76 l0_1 x30_2).f1))) hx180_0 hn180_1; replace hx180_0 := cf_ (p := ⟨gb177, 2, none⟩) (u := (.int .i64 ((rd_T76 l0_1 x30_2).f2))) hx180_0 hn180_2; (try have hy180_0 := fun (n_ : Nat) => (show (((((w29.drewN n_).setCell ⟨gb177, 0, none⟩ (.int .i64 ((rd_T76 l0_1 x30_2).f0))).setCell ⟨gb177, 1, none⟩ (.int .i64 ((rd_T76 l0_1 x30_2).f1))).setCell ⟨gb177, 2, none⟩ (.int .i64 ((rd_T76 l0_1 x30_2).f2)))).cell? _ = some _ from hx180_0)); clear hn180_0 hn180_1 hn180_2; obtain ⟨p180, q180⟩ := et_ p180 q180; have p181 : 0 ≤ (a2 : Int) := oa_; have q181 : a2 < ((rd_L3 l3 a1).length : Int) := oa_; obtain ⟨ad181, e181, hx181_0⟩ := Kd.at_int HR180_0.out a2 p181 q181; cases e181; have hn181_0 : ad181.block ≠ gb177 := hn_ hx181_0 GW177; have hn181_1 : ad181.block ≠ gb177 := hn_ hx181_0 GW177; have hn181_2 : ad181.block ≠ gb177 := hn_ hx181_0 GW177; replace hx181_0 := hc5_ HB hx181_0; replace hx181_0 := cf_ (p := ⟨gb177, 0, none⟩) (u := (.int .i64 ((rd_T76 l0_1 x30_2).f0))) hx181_0 hn181_0; replace hx181_0 := cf_ (p := ⟨gb177, 1, none⟩) (u := (.int .i64 ((rd_T76 l0_1 x30_2).f1))) hx181_0 hn181_1; replace hx181_0 := cf_ (p := ⟨gb177, 2, none⟩) (u := (.int .i64 ((rd_T76 l0_1 x30_2).f2))) hx181_0 hn181_2; (try have hy181_0 := fun (n_ : Nat) => (show (((((w29.drewN n_).setCell ⟨gb177, 0, none⟩ (.int .i64 ((rd_T76 l0_1 x30_2).f0))).setCell ⟨gb177, 1, none⟩ (.int .i64 ((rd_T76 l0_1 x30_2).f1))).setCell ⟨gb177, 2, none⟩ (.int .i64 ((rd_T76 l0_1 x30_2).f2)))).cell? _ = some _ from hx181_0)); clear hn181_0 hn181_1 hn181_2; obtain ⟨p181, q181⟩ := et_ p181 q181)
   repeat (go_quiet (fail); try go_wp2_with ((with_reducible refine gate_builtin (b := .append) (xs := #[.tmp 59, .tmp 62]) rfl ?_); at_builtin; refine Kd.R_append (Kd.int .i64) (w0 := w) w.heap.size rfl (.tmp 59) (.tmp 62) 26 3 (.int .i64 0) 8 rfl Try.underlying26 info3 rfl (by decide) (by omega) u9 x9_2 ((rd_T76 l0_1 x30_2).f1) [.int .i64 ((rd_T76 l0_1 x30_2).f1)] (fun _ => True) (fun _ => False) rfl (by first | (go_simp; done) | (go_simp; rfl)) ?aP (fun _ hk => hk.elim) ?aF ?aO ?aB ?aS ?aL ?_; (case aP => exact rfl); (case aB => exact (bw_)); (case aF => exact (fun _ _ => trivial)); (case aO => exact (hq_ (Kd.R_mono (Kd.R_far (Kd.R_far (Kd.R_far (Kd.R_types HO_9.out BK177.out (by decide)) (fun _ hk => hk.2) _) (fun _ hk => hk.2) _) (fun _ hk => hk.2) _) (fun _ hk => trivial)))); (case aS => exact (bz_ HB)); (case aL => have := LMc28.out; omega); intro v183 w32 ho hb hg hat; rw [← Ny182.out] at ho; have HO184 := Aside0.mk ho; replace BK170 := Aside0.mk (blk_grown (g := gb170) (o := .cells #[.int .i64 a0_0, .slice (some ad176) l0_1.length c0_1] 30 (0, 0)) (bc_ BK170) hg (Kd.R_ne HO_9.out BK170.out (by decide))); replace BK177 := Aside0.mk (blk_grown (g := gb177) (o := .cells #[.int .i64 ((rd_T76 l0_1 x30_2).f0), .int .i64 ((rd_T76 l0_1 x30_2).f1), .int .i64 ((rd_T76 l0_1 x30_2).f2)] 76 (0, 0)) (by refine bd_ ?_; refine blk_put (cs := #[.int .i64 ((rd_T76 l0_1 x30_2).f0), .int .i64 ((rd_T76 l0_1 x30_2).f1), .int .i64 0]) ?_ 2 _ rfl; refine bd_ ?_; refine blk_put (cs := #[.int .i64 ((rd_T76 l0_1 x30_2).f0), .int .i64 0, .int .i64 0]) ?_ 1 _ rfl; refine bd_ ?_; refine blk_put (cs := #[.int .i64 0, .int .i64 0, .int .i64 0]) ?_ 0 _ rfl; refine bd_ ?_; exact BK177.out) hg (Kd.R_ne HO_9.out BK177.out (by decide))); replace HB := Aside0.mk (hb); clear HO_9 ho hb hg hat))
   go_roundg k2
   case measure => have := HJ4.out; have := HK2.out; omega
   case rel => exact ⟨(y182), (wrap64 (x30_2 + 1)), er_, H', ⟨by have := HJ4.out; have := HK2.out; omega⟩, ⟨hd_ HO184⟩, ⟨bx_ BK170⟩, ⟨bw_⟩⟩
def impl_HopsTo.j0 : Nat → Int → Int → Bool → Int → List (S76) → Option (List Int)
 | 0, _, _, _, _, _ => none
 | k + 1, x1, x2, x21, x186000, x186001 => if x21 = true then (some ([] : List Int)) else ((impl_Graph_all.f k x186000 x186001).bind fun t189 => ((impl_Graph_hopsTo.f k x186000 x186001 x1 x2 t189).bind fun t192 => (some t192)))
def impl_HopsTo.f (k : Nat) (a0_0 : Int) (l0_1 : List (S76)) (a1 : Int) (a2 : Int) : Option (List Int) := (impl_GraphOk.f k a0_0 l0_1).bind fun t186 => (if t186 = true then ((impl_Graph_isNode.f a0_0 l0_1 a1).bind fun t187 => (if t187 = true then ((impl_Graph_isNode.f a0_0 l0_1 a2).bind fun t188 => (impl_HopsTo.j0 k a1 a2 (!t188) a0_0 l0_1)) else (impl_HopsTo.j0 k a1 a2 true a0_0 l0_1))) else (impl_HopsTo.j0 k a1 a2 true a0_0 l0_1))
set_option maxHeartbeats 8000000 in
set_option maxRecDepth 100000 in
theorem impl_HopsTo.calls (k : Nat) (a0_0 : Int) (A0_1 : Option Addr) (c0_1 : Nat) (l0_1 : List (S76)) (a1 : Int) (a2 : Int) (r : List Int) (w : World) (hr0_1 : Kd.C k76 w A0_1 l0_1.length l0_1) (hc0_1 : l0_1.length ≤ c0_1) (h : impl_HopsTo.f k a0_0 l0_1 a1 a2 = some r) :
  Calls Try.prog 34 #[.agg #[.int .i64 a0_0, .slice A0_1 l0_1.length c0_1], .int .i64 a1, .int .i64 a2] w fun e w' => ∃ v0_ : Value, e = .returned (v0_) ∧ Kd.R (Kd.int .i64) 3 w' w.heap.size (fun _ => True) v0_ r ∧ Below w.heap.size w w' := by
 have hu30 := Try.underlying30
 have HR0_1 := Aside0.mk hr0_1
 have HC0_1 := Aside0.mk hc0_1
 clear hr0_1 hc0_1
 have HB := Aside0.mk (Below.refl w.heap.size w)
 have H : ((impl_GraphOk.f k a0_0 l0_1).bind fun t186 => (if t186 = true then ((impl_Graph_isNode.f a0_0 l0_1 a1).bind fun t187 => (if t187 = true then ((impl_Graph_isNode.f a0_0 l0_1 a2).bind fun t188 => (impl_HopsTo.j0 k a1 a2 (!t188) a0_0 l0_1)) else (impl_HopsTo.j0 k a1 a2 true a0_0 l0_1))) else (impl_HopsTo.j0 k a1 a2 true a0_0 l0_1))) = some r := h
 clear h
 have HC4 := Aside0.mk H
 clear H
 go_enter Try.func34, Try.ntmps34
 go_upto_region 1 with ((with_reducible refine gate_dst (N := 3) rfl ?_); refine be_ 3 #[.int .i64 a0_0, .slice A0_1 l0_1.length c0_1] 30 ?_; intro gb185 hg w5 BK185 hb; have GW185 := ge_ HB hg; have GE185 := ge_ HB hg; replace HB := at_ HB hb; clear hb hg)
 (try simp only [Act.put, List.setIfInBounds_toArray, List.set_cons_zero, List.set_cons_succ])
 go_cut [21] (fun v21 wc => ∃ (kq : Nat) (x21_3 : Bool), v21 = .bool x21_3 ∧ Aside0 (impl_HopsTo.j0 kq a1 a2 x21_3 a0_0 l0_1 = some r) ∧ Aside0 (kq ≤ k) ∧ Aside0 (wc.heap[gb185]? = some (.cells #[.int .i64 a0_0, (.slice A0_1 l0_1.length c0_1)] 30 (0, 0))) ∧ Aside0 (Below w.heap.size w wc))
 case first =>
  have H := HC4.out
  clear HC4
  obtain ⟨t186, A6, H⟩ := ob_ H
  by_cases c7 : t186 = true
  rotate_left
  ·replace c7 := Bool.eq_false_iff.mpr c7
   subst c7
   rw [if_neg (show ¬ (false = true) by decide)] at H
   have H' := Aside0.mk H
   clear H
   have hcz21_0 := cz_ BK185 0 (.int .i64 a0_0)
   have hcz21_1 := cz_ BK185 1 (.slice A0_1 l0_1.length c0_1)
   have hfz21_0 := fz_ BK185 0
   have hfz21_1 := fz_ BK185 1
   go_wp2_with ((with_reducible refine gate_callee (f := 47) rfl ?_); refine gl_ (some 8) Try.func47 #[.agg #[.int .i64 a0_0, .slice A0_1 l0_1.length c0_1]] ?_; (with_reducible refine (impl_GraphOk.calls k a0_0 _ _ l0_1 false _ ?side1 ?side2 A6.out).mono ?_); (case side1 => exact cb_ HR0_1 HB); (case side2 => exact HC0_1.out); rintro e w22 ⟨rfl, hb⟩; refine ⟨_, rfl, ?_⟩; replace BK185 := ab_ BK185 hb; replace HB := at_ HB hb; clear hb)
   go_meet
   case rel => exact ⟨_, (true), er_, H', ⟨by first | omega | exact Nat.le_refl _⟩, ⟨bx_ BK185⟩, ⟨bw_⟩⟩
  subst c7
  rw [if_pos rfl] at H
  obtain ⟨t187, A8, H⟩ := ob_ H
  by_cases c9 : t187 = true
  rotate_left
  ·replace c9 := Bool.eq_false_iff.mpr c9
   subst c9
   rw [if_neg (show ¬ (false = true) by decide)] at H
   have H' := Aside0.mk H
   clear H
   have hcz17_0 := cz_ BK185 0 (.int .i64 a0_0)
   have hcz17_1 := cz_ BK185 1 (.slice A0_1 l0_1.length c0_1)
   have hfz17_0 := fz_ BK185 0
   have hfz17_1 := fz_ BK185 1
   go_wp2_with (first | ((with_reducible refine gate_callee (f := 47) rfl ?_); refine gl_ (some 8) Try.func47 #[.agg #[.int .i64 a0_0, .slice A0_1 l0_1.length c0_1]] ?_; (with_reducible refine (impl_GraphOk.calls k a0_0 _ _ l0_1 true _ ?side1 ?side2 A6.out).mono ?_); (case side1 => exact cb_ HR0_1 HB); (case side2 => exact HC0_1.out); rintro e w18 ⟨rfl, hb⟩; refine ⟨_, rfl, ?_⟩; replace BK185 := ab_ BK185 hb; replace HB := at_ HB hb; clear hb; have hcz19_0 := cz_ BK185 0 (.int .i64 a0_0); have hcz19_1 := cz_ BK185 1 (.slice A0_1 l0_1.length c0_1); have hfz19_0 := fz_ BK185 0; have hfz19_1 := fz_ BK185 1) | (go_at_call 48; (with_reducible refine (impl_Graph_isNode.calls a0_0 _ _ l0_1 a1 false _ ?side1 ?side2 A8.out).mono ?_); (case side1 => exact cb_ HR0_1 HB); (case side2 => exact HC0_1.out); rintro e w20 ⟨rfl, hb⟩; replace BK185 := ab_ BK185 hb; replace HB := at_ HB hb; clear hb))
   go_meet
   case rel => exact ⟨_, (true), er_, H', ⟨by first | omega | exact Nat.le_refl _⟩, ⟨bx_ BK185⟩, ⟨bw_⟩⟩
  subst c9
  rw [if_pos rfl] at H
  obtain ⟨t188, A10, H⟩ := ob_ H
  have H' := Aside0.mk H
  clear H
  have hcz11_0 := cz_ BK185 0 (.int .i64 a0_0)
  have hcz11_1 := cz_ BK185 1 (.slice A0_1 l0_1.length c0_1)
  have hfz11_0 := fz_ BK185 0
  have hfz11_1 := fz_ BK185 1
  go_wp2_with (first | ((with_reducible refine gate_callee (f := 47) rfl ?_); refine gl_ (some 8) Try.func47 #[.agg #[.int .i64 a0_0, .slice A0_1 l0_1.length c0_1]] ?_; (with_reducible refine (impl_GraphOk.calls k a0_0 _ _ l0_1 true _ ?side1 ?side2 A6.out).mono ?_); (case side1 => exact cb_ HR0_1 HB); (case side2 => exact HC0_1.out); rintro e w12 ⟨rfl, hb⟩; refine ⟨_, rfl, ?_⟩; replace BK185 := ab_ BK185 hb; replace HB := at_ HB hb; clear hb; have hcz13_0 := cz_ BK185 0 (.int .i64 a0_0); have hcz13_1 := cz_ BK185 1 (.slice A0_1 l0_1.length c0_1); have hfz13_0 := fz_ BK185 0; have hfz13_1 := fz_ BK185 1) | (go_at_call 48; (with_reducible refine (impl_Graph_isNode.calls a0_0 _ _ l0_1 a1 true _ ?side1 ?side2 A8.out).mono ?_); (case side1 => exact cb_ HR0_1 HB); (case side2 => exact HC0_1.out); rintro e w14 ⟨rfl, hb⟩; replace BK185 := ab_ BK185 hb; replace HB := at_ HB hb; clear hb; have hcz15_0 := cz_ BK185 0 (.int .i64 a0_0); have hcz15_1 := cz_ BK185 1 (.slice A0_1 l0_1.length c0_1); have hfz15_0 := fz_ BK185 0; have hfz15_1 := fz_ BK185 1) | (go_at_call 48; (with_reducible refine (impl_Graph_isNode.calls a0_0 _ _ l0_1 a2 t188 _ ?side1 ?side2 A10.out).mono ?_); (case side1 => exact cb_ HR0_1 HB); (case side2 => exact HC0_1.out); rintro e w16 ⟨rfl, hb⟩; replace BK185 := ab_ BK185 hb; replace HB := at_ HB hb; clear hb))
  go_meet
  case rel => exact ⟨_, (!t188), er_, H', ⟨by first | omega | exact Nat.le_refl _⟩, ⟨bx_ BK185⟩, ⟨bw_⟩⟩
 clear HC4
 obtain ⟨kq, x21_3, rfl, HA, HJ3, BK185, HB⟩ := hcut
 cases kq with
 | zero => exact absurd HA.out (by simp [impl_HopsTo.j0])
 | succ kj3 =>
  have H := HA.out
  clear HA
  simp only [impl_HopsTo.j0] at H
  by_cases c23 : x21_3 = true
  ·subst c23
   rw [if_pos rfl] at H
   obtain rfl := Option.some.inj H
   go_wp2
   go_ret
   exact ⟨_, ew_, by first | exact Kd.R_nil _ _ _ _ _ | exact Kd.N_nil _ _ _ _ _ | exact Kd.V_nil _ _ _ _ _ | exact Kd.Q_nil _ _ _ _ _ | exact Kd.S_nil _ _ _ _ _, bw_⟩
  replace c23 := Bool.eq_false_iff.mpr c23
  subst c23
  rw [if_neg (show ¬ (false = true) by decide)] at H
  obtain ⟨t189, A24, H⟩ := ob_ H
  obtain ⟨t192, A25, H⟩ := ob_ H
  obtain rfl := Option.some.inj H
  go_wp2
  replace BK185 := ad_ BK185
  replace HB := Aside0.mk (below_drew1 HB.out)
  refine start_ (n := 7) (S := fun w' => w'.cell? ⟨gb185, 0, none⟩ = some (.int .i64 a0_0) ∧ w'.cell? ⟨gb185, 1, none⟩ = some (.slice A0_1 l0_1.length c0_1)) (ds := []) ba6_0 (by kernel_rfl) rfl rfl ⟨bq5_ BK185 0, bq5_ BK185 1⟩ (fun hHeld => ?_)
  generalize wc.drew = w26 at BK185 HB hHeld ⊢
  refine pure_ (i := 1) (N := some 23) (v := ?_) (a' := ?_) ba6_1 rfl rfl (by kernel_rfl) (fun _ _ _ h => h) (Or.inl ⟨by rfl, ?_⟩) ?_ ?_
  rotate_left; · intro w'; go_simp; with_reducible rfl
  rotate_left; · simp only [Act.put, List.setIfInBounds_toArray, List.set_cons_zero, List.set_cons_succ, i64_w, i32_w]; rfl
  refine pure_ (i := 2) (N := some 24) (v := ?_) (a' := ?_) ba6_2 rfl rfl (by kernel_rfl) (fun _ _ _ h => h) (Or.inl ⟨by rfl, ?_⟩) ?_ ?_
  rotate_left; · intro w'; go_simp; with_reducible rfl
  rotate_left; · simp only [Act.put, List.setIfInBounds_toArray, List.set_cons_zero, List.set_cons_succ, i64_w, i32_w]; rfl
  refine take_ (i := 0) (N := some 22) (v := ?_) (a' := ?_) ba6_3 rfl rfl (by kernel_rfl) (fun _ _ _ h => h) (Or.inl ⟨by rfl, ?_⟩) hHeld ?_ ?_
  rotate_left; · rintro w' ⟨s0, s1⟩; go_simp; with_reducible rfl
  rotate_left; · simp only [Act.put, List.setIfInBounds_toArray, List.set_cons_zero, List.set_cons_succ, i64_w, i32_w]; rfl
  refine take_ (i := 3) (N := some 25) (v := ?_) (a' := ?_) ba6_4 rfl rfl (by kernel_rfl) (fun _ _ _ h => h) (Or.inl ⟨by rfl, ?_⟩) hHeld ?_ ?_
  rotate_left; · rintro w' ⟨s0, s1⟩; go_simp; with_reducible rfl
  rotate_left; · simp only [Act.put, List.setIfInBounds_toArray, List.set_cons_zero, List.set_cons_succ, i64_w, i32_w]; rfl
  refine one_ (i := 4) (N := some 26) ba6_5 rfl rfl (by kernel_rfl) (by decide) (fun K hK => ?_)
  refine gz_ Try.func55 #[.agg #[.int .i64 a0_0, .slice A0_1 l0_1.length c0_1]] ?_
  with_reducible refine (impl_Graph_all.calls kj3 a0_0 _ _ l0_1 t189 _ ?side1 ?side2 A24.out).mono ?_
  (case side1 => exact cb_ HR0_1 HB)
  (case side2 => exact HC0_1.out)
  rintro e w27 ⟨v190, rfl, ho0, hb⟩
  refine ⟨_, rfl, ?_⟩
  have HO191 := Aside0.mk (Kd.S_lower ho0 (bz_ HB))
  replace BK185 := ab_ BK185 hb
  replace HB := at_ HB hb
  clear hb ho0
  obtain ⟨Ao28, co28, eo28⟩ := Kd.S_slice HO191.out
  subst eo28
  refine hK.out _ _ ⟨bq5_ BK185 0, bq5_ BK185 1⟩ (fun hHeld => ?_)
  clear hK K
  refine nz_ 26 ?_
  refine one_ (i := 5) (N := some 27) ba6_6 rfl rfl (by kernel_rfl) (by decide) (fun K hK => ?_)
  refine gz_ Try.func58 #[.agg #[.int .i64 a0_0, .slice A0_1 l0_1.length c0_1], .int .i64 a1, .int .i64 a2, .slice Ao28 t189.length co28] ?_
  with_reducible refine (impl_Graph_hopsTo.calls kj3 a0_0 _ _ l0_1 a1 a2 _ _ t189 t192 _ ?side1 ?side2 ?side3 ?side4 A25.out).mono ?_
  (case side1 => exact cb_ HR0_1 HB)
  (case side2 => exact HC0_1.out)
  (case side3 => repeat (first | exact (Kd.S_reads' HO191.out).2.2 | (with_reducible refine Kd.C_alloc ?_ _) | (with_reducible refine Kd.C_drewN ?_ _) | (with_reducible refine Kd.C_drew ?_)))
  (case side4 => exact (Kd.S_reads' HO191.out).2.1)
  rintro e w29 ⟨v193, rfl, ho0, hb⟩
  refine ⟨_, rfl, ?_⟩
  have HO194 := Aside0.mk (Kd.R_lower ho0 (bz_ HB))
  replace HO191 := Aside0.mk (Kd.S_elder' (hS_ HO191) (Kd.R_base ho0) hb)
  replace BK185 := ab_ BK185 hb
  replace HB := at_ HB hb
  clear hb ho0
  refine hK.out _ _ ⟨bq5_ BK185 0, bq5_ BK185 1⟩ (fun hHeld => ?_)
  clear hK K
  refine nz_ 27 ?_
  refine pure_ (i := 6) (N := some 6) (v := ?_) (a' := ?_) ba6_7 rfl rfl (by kernel_rfl) (fun _ _ _ h => h) (Or.inl ⟨by rfl, ?_⟩) ?_ ?_
  rotate_left; · intro w'; go_simp; with_reducible rfl
  rotate_left; · simp only [Act.put, List.setIfInBounds_toArray, List.set_cons_zero, List.set_cons_succ, i64_w, i32_w]; rfl
  refine done_ (by kernel_rfl) ?_
  go_wp2
  go_ret
  exact ⟨_, ew_, by (with_reducible repeat (first | apply Kd.R_alloc | apply Kd.R_drewN | apply Kd.R_drew)); exact HO194.out, bw_⟩
def laws_within.l0 : Nat → List Int → Int → Int → Option (Bool)
 | 0, _, _, _ => none
 | k + 1, x0, x1, x5 => if x5 < (x0.length : Int) then (if 0 ≤ x5 then (if (rd x0 x5) = x1 then (some true) else (laws_within.l0 k x0 x1 (wrap64 (x5 + 1)))) else (none)) else (some false)
def laws_within.f (k : Nat) (l0 : List Int) (a1 : Int) : Option (Bool) := laws_within.l0 k l0 a1 0
set_option maxHeartbeats 8000000 in
set_option maxRecDepth 100000 in
theorem laws_within.calls (k : Nat) (A0 : Option Addr) (c0 : Nat) (l0 : List Int) (a1 : Int) (r : Bool) (w : World) (hr0 : Kd.C (Kd.int .i64) w A0 l0.length l0) (hc0 : l0.length ≤ c0) (h : laws_within.f k l0 a1 = some r) :
  Calls Try.prog 35 #[.slice A0 l0.length c0, .int .i64 a1] w fun e w' => e = .returned (.bool r) ∧ Drawn0 w w' := by
 have HR0 := Aside0.mk hr0
 have HC0 := Aside0.mk hc0
 clear hr0 hc0
 have H : (laws_within.l0 k l0 a1 0) = some r := h
 clear h
 have H' := Aside0.mk H
 clear H
 go_enter Try.func35, Try.ntmps35
 go_wp2
 go_loopg [5] k (fun kq v5 w' => ∃ (x5_1 : Int), v5 = .int .i64 x5_1 ∧ Aside0 (laws_within.l0 kq l0 a1 x5_1 = some r) ∧ Aside0 (kq ≤ k) ∧ Drawn0 w w')
 case atStart => exact ⟨(0), er_, H', ⟨Nat.le_refl _⟩, by repeat (first | exact Drawn0.refl _ | apply Drawn0.step)⟩
 clear H'
 obtain ⟨x5_1, rfl, HA, HK1, ⟨m1, rfl⟩⟩ := hrel
 cases gk with
 | zero => exact absurd HA.out (by simp [laws_within.l0])
 | succ k1 =>
  have H := HA.out
  clear HA
  simp only [laws_within.l0] at H
  by_cases c3 : x5_1 < (l0.length : Int)
  rotate_left
  ·rw [if_neg c3] at H
   have c3b0 : decide (x5_1 < (l0.length : Int)) = false := decide_eq_false c3
   clear c3
   obtain rfl := Option.some.inj H
   go_wp2
   go_ret
   exact ⟨by first | rfl | (simp; done) | (simp [*]; done), by repeat (first | exact Drawn0.refl _ | apply Drawn0.step)⟩
  rw [if_pos c3] at H
  have c3b0 : decide (x5_1 < (l0.length : Int)) = true := decide_eq_true c3
  clear c3
  obtain ⟨c4b0, H⟩ := iq_ H
  by_cases c5 : (rd l0 x5_1) = a1
  ·rw [if_pos c5] at H
   have c5b0 : ((rd l0 x5_1) == a1) = true := beq_iff_eq.mpr c5
   have c5b1 : ((rd l0 x5_1) != a1) = false := bne_eq_false_iff_eq.mpr c5
   clear c5
   obtain rfl := Option.some.inj H
   have p195 : 0 ≤ (x5_1 : Int) := oa_
   have q195 : x5_1 < (l0.length : Int) := oa_
   obtain ⟨ad195, e195, hx195_0⟩ := Kd.at_int HR0.out x5_1 p195 q195
   cases e195
   obtain ⟨p195, q195⟩ := et_ p195 q195
   go_wp2
   go_ret
   exact ⟨by first | rfl | (simp; done) | (simp [*]; done), by repeat (first | exact Drawn0.refl _ | apply Drawn0.step)⟩
  rw [if_neg c5] at H
  have c5b0 : ((rd l0 x5_1) == a1) = false := beq_eq_false_iff_ne.mpr c5
  have c5b1 : ((rd l0 x5_1) != a1) = true := bne_iff_ne.mpr c5
  have H' := Aside0.mk H
  clear H
  have p195 : 0 ≤ (x5_1 : Int) := oa_
  have q195 : x5_1 < (l0.length : Int) := oa_
  obtain ⟨ad195, e195, hx195_0⟩ := Kd.at_int HR0.out x5_1 p195 q195
  cases e195
  obtain ⟨p195, q195⟩ := et_ p195 q195
  go_wp2
  go_roundg k1
  case measure => have := HK1.out; omega
  case rel => exact ⟨(wrap64 (x5_1 + 1)), er_, H', ⟨by have := HK1.out; omega⟩, by repeat (first | exact Drawn0.refl _ | apply Drawn0.step)⟩
end Go.Proofs.Ythmahcohcphljaa.QFnCheapest
