/- Contracts of functions that the law reaches: what each call returns and what it leaves in memory. Made by this session over the print of the kit. -/
import Derived.Test.YthmahcohcphljaaQFnCheapestx0
import Derived.Test.YthmahcohcphljaaQFnCheapestx7
namespace Go.Proofs.Ythmahcohcphljaa.QFnCheapest
open Go.RowKit Go.Proofs.YthmahcohcphljaaC.PrintWords Go.Proofs.YthmahcohcphljaaC.PrintLast Go.Proofs.YthmahcohcphljaaC.PrintMore
attribute [local go_sem] max2_int min2_int max_two min_two max_three min_three max_four min_four
set_option linter.unusedVariables false
set_option linter.unusedSimpArgs false
mutual
def spec_l03Put.l0 : Nat → List (S76) → List (S76) → Bool → Int → Int → Int → Int → Option ((List (S76)))
 | 0, _, _, _, _, _, _, _ => none
 | k + 1, x0, x5, x6, x7, x237000, x237001, x237002 => if x7 < (x0.length : Int) then (if 0 ≤ x7 then (if x6 = true then (spec_l03Put.j1 k x0 x5 x6 x7 false x237000 x237001 x237002 ((rd_T76 x0 x7).f0) ((rd_T76 x0 x7).f1) ((rd_T76 x0 x7).f2)) else (if x237000 < ((rd_T76 x0 x7).f0) then (spec_l03Put.j1 k x0 x5 x6 x7 true x237000 x237001 x237002 ((rd_T76 x0 x7).f0) ((rd_T76 x0 x7).f1) ((rd_T76 x0 x7).f2)) else (if x237000 = ((rd_T76 x0 x7).f0) then (spec_l03Put.j1 k x0 x5 x6 x7 (decide (x237001 ≤ ((rd_T76 x0 x7).f1))) x237000 x237001 x237002 ((rd_T76 x0 x7).f0) ((rd_T76 x0 x7).f1) ((rd_T76 x0 x7).f2)) else (spec_l03Put.j1 k x0 x5 x6 x7 false x237000 x237001 x237002 ((rd_T76 x0 x7).f0) ((rd_T76 x0 x7).f1) ((rd_T76 x0 x7).f2))))) else (none)) else (if x6 = true then (some x5) else (if x5.length < 5864062014805 then (some (x5 ++ [(⟨x237000, x237001, x237002⟩ : S76)])) else (none)))
def spec_l03Put.j1 : Nat → List (S76) → List (S76) → Bool → Int → Bool → Int → Int → Int → Int → Int → Int → Option ((List (S76)))
 | 0, _, _, _, _, _, _, _, _, _, _, _ => none
 | k + 1, x0, x5, x6, x7, x42, x237000, x237001, x237002, x245000, x245001, x245002 => if x42 = true then (if x5.length < 5864062014805 then ((some (x5 ++ [(⟨x237000, x237001, x237002⟩ : S76)] : List (S76))).bind fun y245 => (if x245000 = x237000 then (if x245001 = x237001 then (spec_l03Put.l0 k x0 y245 true (wrap64 (x7 + 1)) x237000 x237001 x237002) else (if y245.length < 5864062014805 then (spec_l03Put.l0 k x0 (y245 ++ [(⟨x245000, x245001, x245002⟩ : S76)]) true (wrap64 (x7 + 1)) x237000 x237001 x237002) else (none))) else (if y245.length < 5864062014805 then (spec_l03Put.l0 k x0 (y245 ++ [(⟨x245000, x245001, x245002⟩ : S76)]) true (wrap64 (x7 + 1)) x237000 x237001 x237002) else (none)))) else (none)) else (if x245000 = x237000 then (if x245001 = x237001 then (spec_l03Put.l0 k x0 x5 x6 (wrap64 (x7 + 1)) x237000 x237001 x237002) else (if x5.length < 5864062014805 then (spec_l03Put.l0 k x0 (x5 ++ [(⟨x245000, x245001, x245002⟩ : S76)]) x6 (wrap64 (x7 + 1)) x237000 x237001 x237002) else (none))) else (if x5.length < 5864062014805 then (spec_l03Put.l0 k x0 (x5 ++ [(⟨x245000, x245001, x245002⟩ : S76)]) x6 (wrap64 (x7 + 1)) x237000 x237001 x237002) else (none)))
end
def spec_l03Put.f (k : Nat) (l0 : List (S76)) (a1_0 : Int) (a1_1 : Int) (a1_2 : Int) : Option ((List (S76))) := spec_l03Put.l0 k l0 (([] : List (S76))) false 0 a1_0 a1_1 a1_2
set_option maxHeartbeats 8000000 in
set_option maxRecDepth 100000 in
theorem spec_l03Put.calls (k : Nat) (A0 : Option Addr) (c0 : Nat) (l0 : List (S76)) (a1_0 : Int) (a1_1 : Int) (a1_2 : Int) (r : List (S76)) (w : World) (hr0 : Kd.C k76 w A0 l0.length l0) (hc0 : l0.length ≤ c0) (h : spec_l03Put.f k l0 a1_0 a1_1 a1_2 = some r) :
  Calls Try.prog 98 #[.slice A0 l0.length c0, .agg #[.int .i64 a1_0, .int .i64 a1_1, .int .i64 a1_2]] w fun e w' => ∃ v0_ : Value, e = .returned (v0_) ∧ Kd.R k76 76 w' w.heap.size (fun _ => True) v0_ r ∧ Below w.heap.size w w' := by
 have hu76 := Try.underlying76
 have HR0 := Aside0.mk hr0
 have HC0 := Aside0.mk hc0
 clear hr0 hc0
 have HB := Aside0.mk (Below.refl w.heap.size w)
 have H : (spec_l03Put.l0 k l0 (([] : List (S76))) false 0 a1_0 a1_1 a1_2) = some r := h
 clear h
 obtain ⟨y237, hy237⟩ : ∃ y_ : List (S76), y_ = (([] : List (S76))) := ⟨_, rfl⟩
 replace H : (spec_l03Put.l0 k l0 y237 false 0 a1_0 a1_1 a1_2) = some r := by first | (rw [hy237]; with_reducible exact H) | (have H2_ := (Option.bind_some _ _).symm.trans H; rw [hy237]; with_reducible exact H2_) | (have H2_ := (Option.bind_some _ _).symm.trans H; with_reducible exact H2_) | with_reducible exact H | (rw [hy237]; exact H) | exact H
 have Ny237 := Aside0.mk hy237
 clear hy237
 have H' := Aside0.mk H
 clear H
 go_enter Try.func98, Try.ntmps98
 go_wp2_with (first | ((with_reducible refine gate_dst (N := 3) rfl ?_); refine be_ 3 #[.int .i64 a1_0, .int .i64 a1_1, .int .i64 a1_2] 76 ?_; intro gb236 hg w3 BK236 hb; have GW236 := ge_ HB hg; have GE236 := ge_ HB hg; replace HB := at_ HB hb; clear hb hg) | ((with_reducible refine gate_dst (N := 9) rfl ?_); refine Kd.R_lit k76 _ 76 ?hg (N := 9) ?hd (xs := ([] : List (S76))) (inner := []) (ok := fun _ => True) (okp := fun _ => True) ?hr ?hp (fun _ hk => hk) trivial (Below.refl _ _) (Nat.le_refl _) (by simp) ?_; (case hd => rfl); (case hg => rfl); (case hr => first | (go_simp; done) | (go_simp; rfl)); (case hp => exact (Reps.none _ _)); intro v238 w4 ho5 hb hg_ hnew_; clear hg_ hnew_; (first | rw [← Ny237.out] at ho5 | (simp only [Int.reduceToNat] at ho5; rw [← Ny237.out] at ho5)); have HO239 := Aside0.mk (Kd.R_lower (Kd.R_newB ho5 (g := gb236) (o := .cells #[.int .i64 a1_0, .int .i64 a1_1, .int .i64 a1_2] 76 (0, 0)) (bx_ BK236)) (bz_ HB)); replace BK236 := ab_ BK236 hb; replace HB := at_ HB hb; clear hb ho5))
 go_loopg [5, 6, 7] k (fun kq v5 v6 v7 w' => ∃ (x5_1 : List (S76)) (x6_1 : Bool) (x7_1 : Int), v6 = .bool x6_1 ∧ v7 = .int .i64 x7_1 ∧ Aside0 (spec_l03Put.l0 kq l0 x5_1 x6_1 x7_1 a1_0 a1_1 a1_2 = some r) ∧ Aside0 (kq ≤ k) ∧ Aside0 (Kd.R k76 76 w' w.heap.size (fun k_ => k_ ≠ gb236) v5 x5_1) ∧ Aside0 (w'.heap[gb236]? = some (.cells #[.int .i64 a1_0, .int .i64 a1_1, .int .i64 a1_2] 76 (0, 0))) ∧ Aside0 (Below w.heap.size w w'))
 case atStart => exact ⟨(y237), (false), (0), er_, er_, H', ⟨Nat.le_refl _⟩, ⟨hq_ (Kd.R_mono HO239.out (fun _ hk => hk.2))⟩, ⟨bx_ BK236⟩, ⟨bw115_⟩⟩
 clear H'
 obtain ⟨x5_1, x6_1, x7_1, rfl, rfl, HA, HK1, HO_5, BK236, HB⟩ := hrel
 cases gk with
 | zero => exact absurd HA.out (by simp [spec_l03Put.l0])
 | succ k1 =>
  have H := HA.out
  clear HA
  simp only [spec_l03Put.l0] at H
  by_cases c6 : x7_1 < (l0.length : Int)
  rotate_left
  ·rw [if_neg c6] at H
   have c6b0 : decide (x7_1 < (l0.length : Int)) = false := decide_eq_false c6
   clear c6
   by_cases c62 : x6_1 = true
   ·subst c62
    rw [if_pos rfl] at H
    obtain rfl := Option.some.inj H
    go_wp2
    go_ret
    exact ⟨_, ew_, by (with_reducible repeat (first | apply Kd.R_alloc | apply Kd.R_drewN | apply Kd.R_drew)); exact Kd.R_mono HO_5.out (fun _ hk => trivial), bw115_⟩
   replace c62 := Bool.eq_false_iff.mpr c62
   subst c62
   rw [if_neg (show ¬ (false = true) by decide)] at H
   by_cases c63 : x5_1.length < 5864062014805
   rotate_left
   ·rw [if_neg c63] at H
    exact absurd H (by simp)
   rw [if_pos c63] at H
   have LMc63 := Aside0.mk c63
   clear c63
   obtain ⟨y240, hy240⟩ : ∃ y_ : List (S76), y_ = (x5_1 ++ [(⟨a1_0, a1_1, a1_2⟩ : S76)]) := ⟨_, rfl⟩
   replace H : (some y240) = some r := by first | (rw [hy240]; with_reducible exact H) | (have H2_ := (Option.bind_some _ _).symm.trans H; rw [hy240]; with_reducible exact H2_) | (have H2_ := (Option.bind_some _ _).symm.trans H; with_reducible exact H2_) | with_reducible exact H | (rw [hy240]; exact H) | exact H
   have Ny240 := Aside0.mk hy240
   clear hy240
   obtain rfl := Option.some.inj H
   have hcz64_0 := cz_ BK236 0 (.int .i64 a1_0)
   have hcz64_1 := cz_ BK236 1 (.int .i64 a1_1)
   have hcz64_2 := cz_ BK236 2 (.int .i64 a1_2)
   have hfz64_0 := fz_ BK236 0
   have hfz64_1 := fz_ BK236 1
   have hfz64_2 := fz_ BK236 2
   go_wp2_with ((with_reducible refine gate_builtin (b := .append) (xs := #[.tmp 65, .tmp 67]) rfl ?_); at_builtin; refine Kd.R_append k76 (w0 := w) w.heap.size rfl (.tmp 65) (.tmp 67) 28 76 (.agg #[(.int .i64 0), (.int .i64 0), (.int .i64 0)]) 24 rfl Try.underlying28 info76 rfl (by decide) (by omega) u5 x5_1 (⟨a1_0, a1_1, a1_2⟩ : S76) [.int .i64 a1_0, .int .i64 a1_1, .int .i64 a1_2] (fun k_ => k_ ≠ gb236) (fun _ => False) rfl rfl ?aP (fun _ hk => hk.elim) ?aF ?aO ?aB ?aS ?aL ?_; (case aP => exact k76_mkM _ _ _ (⟨a1_0, a1_1, a1_2⟩ : S76)); (case aB => exact (bw115_)); (case aF => exact (fun k_ hk => Kd.freshB (g := gb236) (o := .cells #[.int .i64 a1_0, .int .i64 a1_1, .int .i64 a1_2] 76 (0, 0)) (bx_ BK236) k_ hk)); (case aO => exact (hd_ HO_5)); (case aS => exact (bz_ HB)); (case aL => have := LMc63.out; omega); intro v241 w65 ho hb hg hat; rw [← Ny240.out] at ho; have HO242 := Aside0.mk ho; replace BK236 := Aside0.mk (blk_grown (g := gb236) (o := .cells #[.int .i64 a1_0, .int .i64 a1_1, .int .i64 a1_2] 76 (0, 0)) (bx_ BK236) hg (Kd.R_away HO_5.out (fun _ hk => hk))); replace HB := Aside0.mk (hb); clear HO_5 ho hb hg hat)
   go_ret
   exact ⟨_, ew_, by (with_reducible repeat (first | apply Kd.R_alloc | apply Kd.R_drewN | apply Kd.R_drew)); exact Kd.R_mono HO242.out (fun _ hk => trivial), bw115_⟩
  rw [if_pos c6] at H
  have c6b0 : decide (x7_1 < (l0.length : Int)) = true := decide_eq_true c6
  clear c6
  obtain ⟨c7b0, H⟩ := iq_ H
  have HC8 := Aside0.mk H
  clear H
  have p243 : 0 ≤ (x7_1 : Int) := oa_
  have q243 : x7_1 < (l0.length : Int) := oa_
  obtain ⟨ad243, e243, hx243_0, hx243_1, hx243_2⟩ := at_T76 HR0.out x7_1 p243 q243
  cases e243
  replace hx243_0 := hc5_ HB hx243_0
  replace hx243_1 := hc5_ HB hx243_1
  replace hx243_2 := hc5_ HB hx243_2
  obtain ⟨p243, q243⟩ := et_ p243 q243
  go_upto_region 7 with ((with_reducible refine gate_dst (N := 8) rfl ?_); refine be_ 8 #[.int .i64 0, .int .i64 0, .int .i64 0] 76 ?_; intro gb244 hg w9 BK244 hb; have GW244 := ge_ HB hg; have GE244 := ge_ HB hg; have NB236_244 := nl_ BK236 hg; have NB244_236 := ng_ BK236 hg; replace HO_5 := Aside0.mk (Kd.R_below (Kd.R_elderB (hd_ HO_5) gb244 (Nat.le_of_eq hg.symm)) hb); replace HB := at_ HB hb; replace BK236 := ab_ BK236 hb; clear hb hg; have hnb10 := NB244_236.out; have hnc10 := NB236_244.out; have hcz11_0 := cz_ BK244 0 (.int .i64 0); have hcz11_1 := cz_ BK244 1 (.int .i64 0); have hcz11_2 := cz_ BK244 2 (.int .i64 0); have hfz11_0 := fz_ BK244 0; have hfz11_1 := fz_ BK244 1; have hfz11_2 := fz_ BK244 2)
  (try simp only [Act.put, List.setIfInBounds_toArray, List.set_cons_zero, List.set_cons_succ])
  go_cut [42] (fun v42 wc => ∃ (kq : Nat) (x42_7 : Bool), v42 = .bool x42_7 ∧ Aside0 (spec_l03Put.j1 kq l0 x5_1 x6_1 x7_1 x42_7 a1_0 a1_1 a1_2 ((rd_T76 l0 x7_1).f0) ((rd_T76 l0 x7_1).f1) ((rd_T76 l0 x7_1).f2) = some r) ∧ Aside0 (kq ≤ k1) ∧ Aside0 (Kd.R k76 76 wc w.heap.size (fun k_ => k_ ≠ gb236 ∧ k_ ≠ gb244) u5 x5_1) ∧ Aside0 (wc.heap[gb236]? = some (.cells #[.int .i64 a1_0, .int .i64 a1_1, .int .i64 a1_2] 76 (0, 0))) ∧ Aside0 (wc.heap[gb244]? = some (.cells #[.int .i64 ((rd_T76 l0 x7_1).f0), .int .i64 ((rd_T76 l0 x7_1).f1), .int .i64 ((rd_T76 l0 x7_1).f2)] 76 (0, 0))) ∧ Aside0 (Below w.heap.size w wc))
  case first =>
   have H := HC8.out
   clear HC8
   by_cases c12 : x6_1 = true
   ·subst c12
    rw [if_pos rfl] at H
    have H' := Aside0.mk H
    clear H
    go_wp2
    go_meet
    case rel => exact ⟨_, (false), er_, H', ⟨by have := HK1.out; first | omega | exact Nat.le_refl _⟩, ⟨hq_ (Kd.R_mono (Kd.R_far (Kd.R_far (Kd.R_far (Kd.R_mono HO_5.out (fun k_ hk => (⟨hk, hk.2⟩ : _ ∧ k_ ≠ gb244))) (fun _ hk => hk.2) _) (fun _ hk => hk.2) _) (fun _ hk => hk.2) _) (fun _ hk => by first | exact ⟨hk.1.1, hk.1.2⟩ | grind))⟩, ⟨bc_ BK236⟩, ⟨by refine bd_ ?_; refine blk_put (cs := #[.int .i64 ((rd_T76 l0 x7_1).f0), .int .i64 ((rd_T76 l0 x7_1).f1), .int .i64 0]) ?_ 2 _ rfl; refine bd_ ?_; refine blk_put (cs := #[.int .i64 ((rd_T76 l0 x7_1).f0), .int .i64 0, .int .i64 0]) ?_ 1 _ rfl; refine bd_ ?_; refine blk_put (cs := #[.int .i64 0, .int .i64 0, .int .i64 0]) ?_ 0 _ rfl; refine bd_ ?_; exact BK244.out⟩, ⟨bw115_⟩⟩
   replace c12 := Bool.eq_false_iff.mpr c12
   subst c12
   rw [if_neg (show ¬ (false = true) by decide)] at H
   by_cases c13 : a1_0 < ((rd_T76 l0 x7_1).f0)
   ·rw [if_pos c13] at H
    have c13b0 : decide (a1_0 < ((rd_T76 l0 x7_1).f0)) = true := decide_eq_true c13
    clear c13
    (first | rw [c13b0] | (simp only [i64_w, i32_w]; rw [c13b0]) | skip)
    have H' := Aside0.mk H
    clear H
    have hnb14 := NB236_244.out
    have hnc14 := NB244_236.out
    have hcz15_0 := cz_ BK236 0 (.int .i64 a1_0)
    have hcz15_1 := cz_ BK236 1 (.int .i64 a1_1)
    have hcz15_2 := cz_ BK236 2 (.int .i64 a1_2)
    have hfz15_0 := fz_ BK236 0
    have hfz15_1 := fz_ BK236 1
    have hfz15_2 := fz_ BK236 2
    have hcz16_0 := cz_ BK244 0 (.int .i64 0)
    have hcz16_1 := cz_ BK244 1 (.int .i64 0)
    have hcz16_2 := cz_ BK244 2 (.int .i64 0)
    have hfz16_0 := fz_ BK244 0
    have hfz16_1 := fz_ BK244 1
    have hfz16_2 := fz_ BK244 2
    go_wp2
    go_meet
    case rel => exact ⟨_, (true), er_, H', ⟨by have := HK1.out; first | omega | exact Nat.le_refl _⟩, ⟨hq_ (Kd.R_mono (Kd.R_far (Kd.R_far (Kd.R_far (Kd.R_mono HO_5.out (fun k_ hk => (⟨hk, hk.2⟩ : _ ∧ k_ ≠ gb244))) (fun _ hk => hk.2) _) (fun _ hk => hk.2) _) (fun _ hk => hk.2) _) (fun _ hk => by first | exact ⟨hk.1.1, hk.1.2⟩ | grind))⟩, ⟨bc_ BK236⟩, ⟨by refine bd_ ?_; refine blk_put (cs := #[.int .i64 ((rd_T76 l0 x7_1).f0), .int .i64 ((rd_T76 l0 x7_1).f1), .int .i64 0]) ?_ 2 _ rfl; refine bd_ ?_; refine blk_put (cs := #[.int .i64 ((rd_T76 l0 x7_1).f0), .int .i64 0, .int .i64 0]) ?_ 1 _ rfl; refine bd_ ?_; refine blk_put (cs := #[.int .i64 0, .int .i64 0, .int .i64 0]) ?_ 0 _ rfl; refine bd_ ?_; exact BK244.out⟩, ⟨bw115_⟩⟩
   rw [if_neg c13] at H
   have c13b0 : decide (a1_0 < ((rd_T76 l0 x7_1).f0)) = false := decide_eq_false c13
   clear c13
   (first | rw [c13b0] | (simp only [i64_w, i32_w]; rw [c13b0]) | skip)
   by_cases c17 : a1_0 = ((rd_T76 l0 x7_1).f0)
   rotate_left
   ·rw [if_neg c17] at H
    have c17b0 : (a1_0 == ((rd_T76 l0 x7_1).f0)) = false := beq_eq_false_iff_ne.mpr c17
    have c17b1 : (a1_0 != ((rd_T76 l0 x7_1).f0)) = true := bne_iff_ne.mpr c17
    have H' := Aside0.mk H
    clear H
    have hnb21 := NB236_244.out
    have hnc21 := NB244_236.out
    have hcz22_0 := cz_ BK236 0 (.int .i64 a1_0)
    have hcz22_1 := cz_ BK236 1 (.int .i64 a1_1)
    have hcz22_2 := cz_ BK236 2 (.int .i64 a1_2)
    have hfz22_0 := fz_ BK236 0
    have hfz22_1 := fz_ BK236 1
    have hfz22_2 := fz_ BK236 2
    have hcz23_0 := cz_ BK244 0 (.int .i64 0)
    have hcz23_1 := cz_ BK244 1 (.int .i64 0)
    have hcz23_2 := cz_ BK244 2 (.int .i64 0)
    have hfz23_0 := fz_ BK244 0
    have hfz23_1 := fz_ BK244 1
    have hfz23_2 := fz_ BK244 2
    go_wp2
    go_meet
    case rel => exact ⟨_, (false), er_, H', ⟨by have := HK1.out; first | omega | exact Nat.le_refl _⟩, ⟨hq_ (Kd.R_mono (Kd.R_far (Kd.R_far (Kd.R_far (Kd.R_mono HO_5.out (fun k_ hk => (⟨hk, hk.2⟩ : _ ∧ k_ ≠ gb244))) (fun _ hk => hk.2) _) (fun _ hk => hk.2) _) (fun _ hk => hk.2) _) (fun _ hk => by first | exact ⟨hk.1.1, hk.1.2⟩ | grind))⟩, ⟨bc_ BK236⟩, ⟨by refine bd_ ?_; refine blk_put (cs := #[.int .i64 ((rd_T76 l0 x7_1).f0), .int .i64 ((rd_T76 l0 x7_1).f1), .int .i64 0]) ?_ 2 _ rfl; refine bd_ ?_; refine blk_put (cs := #[.int .i64 ((rd_T76 l0 x7_1).f0), .int .i64 0, .int .i64 0]) ?_ 1 _ rfl; refine bd_ ?_; refine blk_put (cs := #[.int .i64 0, .int .i64 0, .int .i64 0]) ?_ 0 _ rfl; refine bd_ ?_; exact BK244.out⟩, ⟨bw115_⟩⟩
   rw [if_pos c17] at H
   have c17b0 : (a1_0 == ((rd_T76 l0 x7_1).f0)) = true := beq_iff_eq.mpr c17
   have c17b1 : (a1_0 != ((rd_T76 l0 x7_1).f0)) = false := bne_eq_false_iff_eq.mpr c17
   clear c17
   have H' := Aside0.mk H
   clear H
   have hnb18 := NB236_244.out
   have hnc18 := NB244_236.out
   have hcz19_0 := cz_ BK236 0 (.int .i64 a1_0)
   have hcz19_1 := cz_ BK236 1 (.int .i64 a1_1)
   have hcz19_2 := cz_ BK236 2 (.int .i64 a1_2)
   have hfz19_0 := fz_ BK236 0
   have hfz19_1 := fz_ BK236 1
   have hfz19_2 := fz_ BK236 2
   have hcz20_0 := cz_ BK244 0 (.int .i64 0)
   have hcz20_1 := cz_ BK244 1 (.int .i64 0)
   have hcz20_2 := cz_ BK244 2 (.int .i64 0)
   have hfz20_0 := fz_ BK244 0
   have hfz20_1 := fz_ BK244 1
   have hfz20_2 := fz_ BK244 2
   go_wp2
   go_meet
   case rel => exact ⟨_, (decide (a1_1 ≤ ((rd_T76 l0 x7_1).f1))), er_, H', ⟨by have := HK1.out; first | omega | exact Nat.le_refl _⟩, ⟨hq_ (Kd.R_mono (Kd.R_far (Kd.R_far (Kd.R_far (Kd.R_mono HO_5.out (fun k_ hk => (⟨hk, hk.2⟩ : _ ∧ k_ ≠ gb244))) (fun _ hk => hk.2) _) (fun _ hk => hk.2) _) (fun _ hk => hk.2) _) (fun _ hk => by first | exact ⟨hk.1.1, hk.1.2⟩ | grind))⟩, ⟨bc_ BK236⟩, ⟨by refine bd_ ?_; refine blk_put (cs := #[.int .i64 ((rd_T76 l0 x7_1).f0), .int .i64 ((rd_T76 l0 x7_1).f1), .int .i64 0]) ?_ 2 _ rfl; refine bd_ ?_; refine blk_put (cs := #[.int .i64 ((rd_T76 l0 x7_1).f0), .int .i64 0, .int .i64 0]) ?_ 1 _ rfl; refine bd_ ?_; refine blk_put (cs := #[.int .i64 0, .int .i64 0, .int .i64 0]) ?_ 0 _ rfl; refine bd_ ?_; exact BK244.out⟩, ⟨bw115_⟩⟩
  clear HC8 c6b0 c7b0 hcz11_0 hcz11_1 hcz11_2 hfz11_0 hfz11_1 hfz11_2 hx243_0 hx243_1 hx243_2 p243 q243
  obtain ⟨kq, x42_7, rfl, HA, HJ7, HO_5, BK236, BK244, HB⟩ := hcut
  cases kq with
  | zero => exact absurd HA.out (by simp [spec_l03Put.j1])
  | succ kj7 =>
   have H := HA.out
   clear HA
   simp only [spec_l03Put.j1] at H
   by_cases c24 : x42_7 = true
   ·subst c24
    rw [if_pos rfl] at H
    by_cases c25 : x5_1.length < 5864062014805
    rotate_left
    ·rw [if_neg c25] at H
     exact absurd H (by simp)
    rw [if_pos c25] at H
    have LMc25 := Aside0.mk c25
    clear c25
    obtain ⟨y245, hy245⟩ : ∃ y_ : List (S76), y_ = (x5_1 ++ [(⟨a1_0, a1_1, a1_2⟩ : S76)]) := ⟨_, rfl⟩
    replace H : (if ((rd_T76 l0 x7_1).f0) = a1_0 then (if ((rd_T76 l0 x7_1).f1) = a1_1 then (spec_l03Put.l0 kj7 l0 y245 true (wrap64 (x7_1 + 1)) a1_0 a1_1 a1_2) else (if y245.length < 5864062014805 then (spec_l03Put.l0 kj7 l0 (y245 ++ [(⟨((rd_T76 l0 x7_1).f0), ((rd_T76 l0 x7_1).f1), ((rd_T76 l0 x7_1).f2)⟩ : S76)]) true (wrap64 (x7_1 + 1)) a1_0 a1_1 a1_2) else (none))) else (if y245.length < 5864062014805 then (spec_l03Put.l0 kj7 l0 (y245 ++ [(⟨((rd_T76 l0 x7_1).f0), ((rd_T76 l0 x7_1).f1), ((rd_T76 l0 x7_1).f2)⟩ : S76)]) true (wrap64 (x7_1 + 1)) a1_0 a1_1 a1_2) else (none))) = some r := by first | (rw [hy245]; with_reducible exact H) | (have H2_ := (Option.bind_some _ _).symm.trans H; rw [hy245]; with_reducible exact H2_) | (have H2_ := (Option.bind_some _ _).symm.trans H; with_reducible exact H2_) | with_reducible exact H | (rw [hy245]; exact H) | exact H
    have Ny245 := Aside0.mk hy245
    clear hy245
    by_cases c26 : ((rd_T76 l0 x7_1).f0) = a1_0
    rotate_left
    ·rw [if_neg c26] at H
     have c26b0 : (((rd_T76 l0 x7_1).f0) == a1_0) = false := beq_eq_false_iff_ne.mpr c26
     have c26b1 : (((rd_T76 l0 x7_1).f0) != a1_0) = true := bne_iff_ne.mpr c26
     by_cases c40 : y245.length < 5864062014805
     rotate_left
     ·rw [if_neg c40] at H
      exact absurd H (by simp)
     rw [if_pos c40] at H
     have LMc40 := Aside0.mk c40
     clear c40
     obtain ⟨y251, hy251⟩ : ∃ y_ : List (S76), y_ = (y245 ++ [(⟨((rd_T76 l0 x7_1).f0), ((rd_T76 l0 x7_1).f1), ((rd_T76 l0 x7_1).f2)⟩ : S76)]) := ⟨_, rfl⟩
     replace H : (spec_l03Put.l0 kj7 l0 y251 true (wrap64 (x7_1 + 1)) a1_0 a1_1 a1_2) = some r := by first | (rw [hy251]; with_reducible exact H) | (have H2_ := (Option.bind_some _ _).symm.trans H; rw [hy251]; with_reducible exact H2_) | (have H2_ := (Option.bind_some _ _).symm.trans H; with_reducible exact H2_) | with_reducible exact H | (rw [hy251]; exact H) | exact H
     have Ny251 := Aside0.mk hy251
     clear hy251
     have H' := Aside0.mk H
     clear H
     have hnb41 := NB236_244.out
     have hnc41 := NB244_236.out
     have hcz42_0 := cz_ BK236 0 (.int .i64 a1_0)
     have hcz42_1 := cz_ BK236 1 (.int .i64 a1_1)
     have hcz42_2 := cz_ BK236 2 (.int .i64 a1_2)
     have hfz42_0 := fz_ BK236 0
     have hfz42_1 := fz_ BK236 1
     have hfz42_2 := fz_ BK236 2
     go_wp2_with (first | ((with_reducible refine gate_builtin (b := .append) (xs := #[.tmp 43, .tmp 45]) rfl ?_); at_builtin; refine Kd.R_append k76 (w0 := w) w.heap.size rfl (.tmp 43) (.tmp 45) 28 76 (.agg #[(.int .i64 0), (.int .i64 0), (.int .i64 0)]) 24 rfl Try.underlying28 info76 rfl (by decide) (by omega) u5 x5_1 (⟨a1_0, a1_1, a1_2⟩ : S76) [.int .i64 a1_0, .int .i64 a1_1, .int .i64 a1_2] (fun k_ => k_ ≠ gb236 ∧ k_ ≠ gb244) (fun _ => False) rfl rfl ?aP (fun _ hk => hk.elim) ?aF ?aO ?aB ?aS ?aL ?_; (case aP => exact k76_mkM _ _ _ (⟨a1_0, a1_1, a1_2⟩ : S76)); (case aB => exact (bw115_)); (case aF => exact (fun k_ hk => ⟨Kd.freshB (g := gb236) (o := .cells #[.int .i64 a1_0, .int .i64 a1_1, .int .i64 a1_2] 76 (0, 0)) (bx_ BK236) k_ hk, Kd.freshB (g := gb244) (o := .cells #[.int .i64 ((rd_T76 l0 x7_1).f0), .int .i64 ((rd_T76 l0 x7_1).f1), .int .i64 ((rd_T76 l0 x7_1).f2)] 76 (0, 0)) (bx_ BK244) k_ hk⟩)); (case aO => exact (hd_ HO_5)); (case aS => exact (bz_ HB)); (case aL => have := LMc25.out; omega); intro v246 w43 ho hb hg hat; rw [← Ny245.out] at ho; have HO247 := Aside0.mk ho; replace BK236 := Aside0.mk (blk_grown (g := gb236) (o := .cells #[.int .i64 a1_0, .int .i64 a1_1, .int .i64 a1_2] 76 (0, 0)) (bx_ BK236) hg (Kd.R_away HO_5.out (fun _ hk => hk.1))); replace BK244 := Aside0.mk (blk_grown (g := gb244) (o := .cells #[.int .i64 ((rd_T76 l0 x7_1).f0), .int .i64 ((rd_T76 l0 x7_1).f1), .int .i64 ((rd_T76 l0 x7_1).f2)] 76 (0, 0)) (bx_ BK244) hg (Kd.R_away HO_5.out (fun _ hk => hk.2))); replace HB := Aside0.mk (hb); clear HO_5 ho hb hg hat; have hcz44_0 := cz_ BK244 0 (.int .i64 ((rd_T76 l0 x7_1).f0)); have hcz44_1 := cz_ BK244 1 (.int .i64 ((rd_T76 l0 x7_1).f1)); have hcz44_2 := cz_ BK244 2 (.int .i64 ((rd_T76 l0 x7_1).f2)); have hfz44_0 := fz_ BK244 0; have hfz44_1 := fz_ BK244 1; have hfz44_2 := fz_ BK244 2; have hcz45_0 := cz_ BK236 0 (.int .i64 a1_0); have hcz45_1 := cz_ BK236 1 (.int .i64 a1_1); have hcz45_2 := cz_ BK236 2 (.int .i64 a1_2); have hfz45_0 := fz_ BK236 0; have hfz45_1 := fz_ BK236 1; have hfz45_2 := fz_ BK236 2) | ((with_reducible refine gate_builtin (b := .append) (xs := #[.tmp 59, .tmp 61]) rfl ?_); at_builtin; refine Kd.R_append k76 (w0 := w) w.heap.size rfl (.tmp 59) (.tmp 61) 28 76 (.agg #[(.int .i64 0), (.int .i64 0), (.int .i64 0)]) 24 rfl Try.underlying28 info76 rfl (by decide) (by omega) v246 y245 (⟨((rd_T76 l0 x7_1).f0), ((rd_T76 l0 x7_1).f1), ((rd_T76 l0 x7_1).f2)⟩ : S76) [.int .i64 ((rd_T76 l0 x7_1).f0), .int .i64 ((rd_T76 l0 x7_1).f1), .int .i64 ((rd_T76 l0 x7_1).f2)] (fun k_ => k_ ≠ gb236 ∧ k_ ≠ gb244) (fun _ => False) rfl rfl ?aP (fun _ hk => hk.elim) ?aF ?aO ?aB ?aS ?aL ?_; (case aP => exact k76_mkM _ _ _ (⟨((rd_T76 l0 x7_1).f0), ((rd_T76 l0 x7_1).f1), ((rd_T76 l0 x7_1).f2)⟩ : S76)); (case aB => exact (bw115_)); (case aF => exact (fun k_ hk => ⟨Kd.freshB (g := gb236) (o := .cells #[.int .i64 a1_0, .int .i64 a1_1, .int .i64 a1_2] 76 (0, 0)) (bx_ BK236) k_ hk, Kd.freshB (g := gb244) (o := .cells #[.int .i64 ((rd_T76 l0 x7_1).f0), .int .i64 ((rd_T76 l0 x7_1).f1), .int .i64 ((rd_T76 l0 x7_1).f2)] 76 (0, 0)) (bx_ BK244) k_ hk⟩)); (case aO => exact (hd_ HO247)); (case aS => exact (bz_ HB)); (case aL => have := LMc40.out; omega); intro v252 w46 ho hb hg hat; rw [← Ny251.out] at ho; have HO253 := Aside0.mk ho; replace BK236 := Aside0.mk (blk_grown (g := gb236) (o := .cells #[.int .i64 a1_0, .int .i64 a1_1, .int .i64 a1_2] 76 (0, 0)) (bx_ BK236) hg (Kd.R_away HO247.out (fun _ hk => hk.1))); replace BK244 := Aside0.mk (blk_grown (g := gb244) (o := .cells #[.int .i64 ((rd_T76 l0 x7_1).f0), .int .i64 ((rd_T76 l0 x7_1).f1), .int .i64 ((rd_T76 l0 x7_1).f2)] 76 (0, 0)) (bx_ BK244) hg (Kd.R_away HO247.out (fun _ hk => hk.2))); replace HB := Aside0.mk (hb); clear HO247 ho hb hg hat))
     go_roundg kj7
     case measure => have := HK1.out; have := HJ7.out; omega
     case rel => exact ⟨(y251), (true), (wrap64 (x7_1 + 1)), er_, er_, H', ⟨by have := HK1.out; have := HJ7.out; omega⟩, ⟨hq_ (Kd.R_mono HO253.out (fun _ hk => hk.1))⟩, ⟨bx_ BK236⟩, ⟨bw115_⟩⟩
    rw [if_pos c26] at H
    have c26b0 : (((rd_T76 l0 x7_1).f0) == a1_0) = true := beq_iff_eq.mpr c26
    have c26b1 : (((rd_T76 l0 x7_1).f0) != a1_0) = false := bne_eq_false_iff_eq.mpr c26
    clear c26
    by_cases c27 : ((rd_T76 l0 x7_1).f1) = a1_1
    ·rw [if_pos c27] at H
     have c27b0 : (((rd_T76 l0 x7_1).f1) == a1_1) = true := beq_iff_eq.mpr c27
     have c27b1 : (((rd_T76 l0 x7_1).f1) != a1_1) = false := bne_eq_false_iff_eq.mpr c27
     clear c27
     have H' := Aside0.mk H
     clear H
     have hnb28 := NB236_244.out
     have hnc28 := NB244_236.out
     have hcz29_0 := cz_ BK236 0 (.int .i64 a1_0)
     have hcz29_1 := cz_ BK236 1 (.int .i64 a1_1)
     have hcz29_2 := cz_ BK236 2 (.int .i64 a1_2)
     have hfz29_0 := fz_ BK236 0
     have hfz29_1 := fz_ BK236 1
     have hfz29_2 := fz_ BK236 2
     go_wp2_with ((with_reducible refine gate_builtin (b := .append) (xs := #[.tmp 43, .tmp 45]) rfl ?_); at_builtin; refine Kd.R_append k76 (w0 := w) w.heap.size rfl (.tmp 43) (.tmp 45) 28 76 (.agg #[(.int .i64 0), (.int .i64 0), (.int .i64 0)]) 24 rfl Try.underlying28 info76 rfl (by decide) (by omega) u5 x5_1 (⟨a1_0, a1_1, a1_2⟩ : S76) [.int .i64 a1_0, .int .i64 a1_1, .int .i64 a1_2] (fun k_ => k_ ≠ gb236 ∧ k_ ≠ gb244) (fun _ => False) rfl rfl ?aP (fun _ hk => hk.elim) ?aF ?aO ?aB ?aS ?aL ?_; (case aP => exact k76_mkM _ _ _ (⟨a1_0, a1_1, a1_2⟩ : S76)); (case aB => exact (bw115_)); (case aF => exact (fun k_ hk => ⟨Kd.freshB (g := gb236) (o := .cells #[.int .i64 a1_0, .int .i64 a1_1, .int .i64 a1_2] 76 (0, 0)) (bx_ BK236) k_ hk, Kd.freshB (g := gb244) (o := .cells #[.int .i64 ((rd_T76 l0 x7_1).f0), .int .i64 ((rd_T76 l0 x7_1).f1), .int .i64 ((rd_T76 l0 x7_1).f2)] 76 (0, 0)) (bx_ BK244) k_ hk⟩)); (case aO => exact (hd_ HO_5)); (case aS => exact (bz_ HB)); (case aL => have := LMc25.out; omega); intro v246 w30 ho hb hg hat; rw [← Ny245.out] at ho; have HO247 := Aside0.mk ho; replace BK236 := Aside0.mk (blk_grown (g := gb236) (o := .cells #[.int .i64 a1_0, .int .i64 a1_1, .int .i64 a1_2] 76 (0, 0)) (bx_ BK236) hg (Kd.R_away HO_5.out (fun _ hk => hk.1))); replace BK244 := Aside0.mk (blk_grown (g := gb244) (o := .cells #[.int .i64 ((rd_T76 l0 x7_1).f0), .int .i64 ((rd_T76 l0 x7_1).f1), .int .i64 ((rd_T76 l0 x7_1).f2)] 76 (0, 0)) (bx_ BK244) hg (Kd.R_away HO_5.out (fun _ hk => hk.2))); replace HB := Aside0.mk (hb); clear HO_5 ho hb hg hat; have hcz31_0 := cz_ BK244 0 (.int .i64 ((rd_T76 l0 x7_1).f0)); have hcz31_1 := cz_ BK244 1 (.int .i64 ((rd_T76 l0 x7_1).f1)); have hcz31_2 := cz_ BK244 2 (.int .i64 ((rd_T76 l0 x7_1).f2)); have hfz31_0 := fz_ BK244 0; have hfz31_1 := fz_ BK244 1; have hfz31_2 := fz_ BK244 2; have hcz32_0 := cz_ BK236 0 (.int .i64 a1_0); have hcz32_1 := cz_ BK236 1 (.int .i64 a1_1); have hcz32_2 := cz_ BK236 2 (.int .i64 a1_2); have hfz32_0 := fz_ BK236 0; have hfz32_1 := fz_ BK236 1; have hfz32_2 := fz_ BK236 2)
     go_roundg kj7
     case measure => have := HK1.out; have := HJ7.out; omega
     case rel => exact ⟨(y245), (true), (wrap64 (x7_1 + 1)), er_, er_, H', ⟨by have := HK1.out; have := HJ7.out; omega⟩, ⟨hq_ (Kd.R_mono HO247.out (fun _ hk => hk.1))⟩, ⟨bx_ BK236⟩, ⟨bw115_⟩⟩
    rw [if_neg c27] at H
    have c27b0 : (((rd_T76 l0 x7_1).f1) == a1_1) = false := beq_eq_false_iff_ne.mpr c27
    have c27b1 : (((rd_T76 l0 x7_1).f1) != a1_1) = true := bne_iff_ne.mpr c27
    by_cases c33 : y245.length < 5864062014805
    rotate_left
    ·rw [if_neg c33] at H
     exact absurd H (by simp)
    rw [if_pos c33] at H
    have LMc33 := Aside0.mk c33
    clear c33
    obtain ⟨y248, hy248⟩ : ∃ y_ : List (S76), y_ = (y245 ++ [(⟨((rd_T76 l0 x7_1).f0), ((rd_T76 l0 x7_1).f1), ((rd_T76 l0 x7_1).f2)⟩ : S76)]) := ⟨_, rfl⟩
    replace H : (spec_l03Put.l0 kj7 l0 y248 true (wrap64 (x7_1 + 1)) a1_0 a1_1 a1_2) = some r := by first | (rw [hy248]; with_reducible exact H) | (have H2_ := (Option.bind_some _ _).symm.trans H; rw [hy248]; with_reducible exact H2_) | (have H2_ := (Option.bind_some _ _).symm.trans H; with_reducible exact H2_) | with_reducible exact H | (rw [hy248]; exact H) | exact H
    have Ny248 := Aside0.mk hy248
    clear hy248
    have H' := Aside0.mk H
    clear H
    have hnb34 := NB236_244.out
    have hnc34 := NB244_236.out
    have hcz35_0 := cz_ BK236 0 (.int .i64 a1_0)
    have hcz35_1 := cz_ BK236 1 (.int .i64 a1_1)
    have hcz35_2 := cz_ BK236 2 (.int .i64 a1_2)
    have hfz35_0 := fz_ BK236 0
    have hfz35_1 := fz_ BK236 1
    have hfz35_2 := fz_ BK236 2
    go_wp2_with (first | ((with_reducible refine gate_builtin (b := .append) (xs := #[.tmp 43, .tmp 45]) rfl ?_); at_builtin; refine Kd.R_append k76 (w0 := w) w.heap.size rfl (.tmp 43) (.tmp 45) 28 76 (.agg #[(.int .i64 0), (.int .i64 0), (.int .i64 0)]) 24 rfl Try.underlying28 info76 rfl (by decide) (by omega) u5 x5_1 (⟨a1_0, a1_1, a1_2⟩ : S76) [.int .i64 a1_0, .int .i64 a1_1, .int .i64 a1_2] (fun k_ => k_ ≠ gb236 ∧ k_ ≠ gb244) (fun _ => False) rfl rfl ?aP (fun _ hk => hk.elim) ?aF ?aO ?aB ?aS ?aL ?_; (case aP => exact k76_mkM _ _ _ (⟨a1_0, a1_1, a1_2⟩ : S76)); (case aB => exact (bw115_)); (case aF => exact (fun k_ hk => ⟨Kd.freshB (g := gb236) (o := .cells #[.int .i64 a1_0, .int .i64 a1_1, .int .i64 a1_2] 76 (0, 0)) (bx_ BK236) k_ hk, Kd.freshB (g := gb244) (o := .cells #[.int .i64 ((rd_T76 l0 x7_1).f0), .int .i64 ((rd_T76 l0 x7_1).f1), .int .i64 ((rd_T76 l0 x7_1).f2)] 76 (0, 0)) (bx_ BK244) k_ hk⟩)); (case aO => exact (hd_ HO_5)); (case aS => exact (bz_ HB)); (case aL => have := LMc25.out; omega); intro v246 w36 ho hb hg hat; rw [← Ny245.out] at ho; have HO247 := Aside0.mk ho; replace BK236 := Aside0.mk (blk_grown (g := gb236) (o := .cells #[.int .i64 a1_0, .int .i64 a1_1, .int .i64 a1_2] 76 (0, 0)) (bx_ BK236) hg (Kd.R_away HO_5.out (fun _ hk => hk.1))); replace BK244 := Aside0.mk (blk_grown (g := gb244) (o := .cells #[.int .i64 ((rd_T76 l0 x7_1).f0), .int .i64 ((rd_T76 l0 x7_1).f1), .int .i64 ((rd_T76 l0 x7_1).f2)] 76 (0, 0)) (bx_ BK244) hg (Kd.R_away HO_5.out (fun _ hk => hk.2))); replace HB := Aside0.mk (hb); clear HO_5 ho hb hg hat; have hcz37_0 := cz_ BK244 0 (.int .i64 ((rd_T76 l0 x7_1).f0)); have hcz37_1 := cz_ BK244 1 (.int .i64 ((rd_T76 l0 x7_1).f1)); have hcz37_2 := cz_ BK244 2 (.int .i64 ((rd_T76 l0 x7_1).f2)); have hfz37_0 := fz_ BK244 0; have hfz37_1 := fz_ BK244 1; have hfz37_2 := fz_ BK244 2; have hcz38_0 := cz_ BK236 0 (.int .i64 a1_0); have hcz38_1 := cz_ BK236 1 (.int .i64 a1_1); have hcz38_2 := cz_ BK236 2 (.int .i64 a1_2); have hfz38_0 := fz_ BK236 0; have hfz38_1 := fz_ BK236 1; have hfz38_2 := fz_ BK236 2) | ((with_reducible refine gate_builtin (b := .append) (xs := #[.tmp 59, .tmp 61]) rfl ?_); at_builtin; refine Kd.R_append k76 (w0 := w) w.heap.size rfl (.tmp 59) (.tmp 61) 28 76 (.agg #[(.int .i64 0), (.int .i64 0), (.int .i64 0)]) 24 rfl Try.underlying28 info76 rfl (by decide) (by omega) v246 y245 (⟨((rd_T76 l0 x7_1).f0), ((rd_T76 l0 x7_1).f1), ((rd_T76 l0 x7_1).f2)⟩ : S76) [.int .i64 ((rd_T76 l0 x7_1).f0), .int .i64 ((rd_T76 l0 x7_1).f1), .int .i64 ((rd_T76 l0 x7_1).f2)] (fun k_ => k_ ≠ gb236 ∧ k_ ≠ gb244) (fun _ => False) rfl rfl ?aP (fun _ hk => hk.elim) ?aF ?aO ?aB ?aS ?aL ?_; (case aP => exact k76_mkM _ _ _ (⟨((rd_T76 l0 x7_1).f0), ((rd_T76 l0 x7_1).f1), ((rd_T76 l0 x7_1).f2)⟩ : S76)); (case aB => exact (bw115_)); (case aF => exact (fun k_ hk => ⟨Kd.freshB (g := gb236) (o := .cells #[.int .i64 a1_0, .int .i64 a1_1, .int .i64 a1_2] 76 (0, 0)) (bx_ BK236) k_ hk, Kd.freshB (g := gb244) (o := .cells #[.int .i64 ((rd_T76 l0 x7_1).f0), .int .i64 ((rd_T76 l0 x7_1).f1), .int .i64 ((rd_T76 l0 x7_1).f2)] 76 (0, 0)) (bx_ BK244) k_ hk⟩)); (case aO => exact (hd_ HO247)); (case aS => exact (bz_ HB)); (case aL => have := LMc33.out; omega); intro v249 w39 ho hb hg hat; rw [← Ny248.out] at ho; have HO250 := Aside0.mk ho; replace BK236 := Aside0.mk (blk_grown (g := gb236) (o := .cells #[.int .i64 a1_0, .int .i64 a1_1, .int .i64 a1_2] 76 (0, 0)) (bx_ BK236) hg (Kd.R_away HO247.out (fun _ hk => hk.1))); replace BK244 := Aside0.mk (blk_grown (g := gb244) (o := .cells #[.int .i64 ((rd_T76 l0 x7_1).f0), .int .i64 ((rd_T76 l0 x7_1).f1), .int .i64 ((rd_T76 l0 x7_1).f2)] 76 (0, 0)) (bx_ BK244) hg (Kd.R_away HO247.out (fun _ hk => hk.2))); replace HB := Aside0.mk (hb); clear HO247 ho hb hg hat))
    go_roundg kj7
    case measure => have := HK1.out; have := HJ7.out; omega
    case rel => exact ⟨(y248), (true), (wrap64 (x7_1 + 1)), er_, er_, H', ⟨by have := HK1.out; have := HJ7.out; omega⟩, ⟨hq_ (Kd.R_mono HO250.out (fun _ hk => hk.1))⟩, ⟨bx_ BK236⟩, ⟨bw115_⟩⟩
   replace c24 := Bool.eq_false_iff.mpr c24
   subst c24
   rw [if_neg (show ¬ (false = true) by decide)] at H
   by_cases c47 : ((rd_T76 l0 x7_1).f0) = a1_0
   rotate_left
   ·rw [if_neg c47] at H
    have c47b0 : (((rd_T76 l0 x7_1).f0) == a1_0) = false := beq_eq_false_iff_ne.mpr c47
    have c47b1 : (((rd_T76 l0 x7_1).f0) != a1_0) = true := bne_iff_ne.mpr c47
    by_cases c57 : x5_1.length < 5864062014805
    rotate_left
    ·rw [if_neg c57] at H
     exact absurd H (by simp)
    rw [if_pos c57] at H
    have LMc57 := Aside0.mk c57
    clear c57
    obtain ⟨y257, hy257⟩ : ∃ y_ : List (S76), y_ = (x5_1 ++ [(⟨((rd_T76 l0 x7_1).f0), ((rd_T76 l0 x7_1).f1), ((rd_T76 l0 x7_1).f2)⟩ : S76)]) := ⟨_, rfl⟩
    replace H : (spec_l03Put.l0 kj7 l0 y257 x6_1 (wrap64 (x7_1 + 1)) a1_0 a1_1 a1_2) = some r := by first | (rw [hy257]; with_reducible exact H) | (have H2_ := (Option.bind_some _ _).symm.trans H; rw [hy257]; with_reducible exact H2_) | (have H2_ := (Option.bind_some _ _).symm.trans H; with_reducible exact H2_) | with_reducible exact H | (rw [hy257]; exact H) | exact H
    have Ny257 := Aside0.mk hy257
    clear hy257
    have H' := Aside0.mk H
    clear H
    have hnb58 := NB244_236.out
    have hnc58 := NB236_244.out
    have hcz59_0 := cz_ BK244 0 (.int .i64 ((rd_T76 l0 x7_1).f0))
    have hcz59_1 := cz_ BK244 1 (.int .i64 ((rd_T76 l0 x7_1).f1))
    have hcz59_2 := cz_ BK244 2 (.int .i64 ((rd_T76 l0 x7_1).f2))
    have hfz59_0 := fz_ BK244 0
    have hfz59_1 := fz_ BK244 1
    have hfz59_2 := fz_ BK244 2
    have hcz60_0 := cz_ BK236 0 (.int .i64 a1_0)
    have hcz60_1 := cz_ BK236 1 (.int .i64 a1_1)
    have hcz60_2 := cz_ BK236 2 (.int .i64 a1_2)
    have hfz60_0 := fz_ BK236 0
    have hfz60_1 := fz_ BK236 1
    have hfz60_2 := fz_ BK236 2
    go_wp2_with ((with_reducible refine gate_builtin (b := .append) (xs := #[.tmp 59, .tmp 61]) rfl ?_); at_builtin; refine Kd.R_append k76 (w0 := w) w.heap.size rfl (.tmp 59) (.tmp 61) 28 76 (.agg #[(.int .i64 0), (.int .i64 0), (.int .i64 0)]) 24 rfl Try.underlying28 info76 rfl (by decide) (by omega) u5 x5_1 (⟨((rd_T76 l0 x7_1).f0), ((rd_T76 l0 x7_1).f1), ((rd_T76 l0 x7_1).f2)⟩ : S76) [.int .i64 ((rd_T76 l0 x7_1).f0), .int .i64 ((rd_T76 l0 x7_1).f1), .int .i64 ((rd_T76 l0 x7_1).f2)] (fun k_ => k_ ≠ gb236 ∧ k_ ≠ gb244) (fun _ => False) rfl rfl ?aP (fun _ hk => hk.elim) ?aF ?aO ?aB ?aS ?aL ?_; (case aP => exact k76_mkM _ _ _ (⟨((rd_T76 l0 x7_1).f0), ((rd_T76 l0 x7_1).f1), ((rd_T76 l0 x7_1).f2)⟩ : S76)); (case aB => exact (bw115_)); (case aF => exact (fun k_ hk => ⟨Kd.freshB (g := gb236) (o := .cells #[.int .i64 a1_0, .int .i64 a1_1, .int .i64 a1_2] 76 (0, 0)) (bx_ BK236) k_ hk, Kd.freshB (g := gb244) (o := .cells #[.int .i64 ((rd_T76 l0 x7_1).f0), .int .i64 ((rd_T76 l0 x7_1).f1), .int .i64 ((rd_T76 l0 x7_1).f2)] 76 (0, 0)) (bx_ BK244) k_ hk⟩)); (case aO => exact (hd_ HO_5)); (case aS => exact (bz_ HB)); (case aL => have := LMc57.out; omega); intro v258 w61 ho hb hg hat; rw [← Ny257.out] at ho; have HO259 := Aside0.mk ho; replace BK236 := Aside0.mk (blk_grown (g := gb236) (o := .cells #[.int .i64 a1_0, .int .i64 a1_1, .int .i64 a1_2] 76 (0, 0)) (bx_ BK236) hg (Kd.R_away HO_5.out (fun _ hk => hk.1))); replace BK244 := Aside0.mk (blk_grown (g := gb244) (o := .cells #[.int .i64 ((rd_T76 l0 x7_1).f0), .int .i64 ((rd_T76 l0 x7_1).f1), .int .i64 ((rd_T76 l0 x7_1).f2)] 76 (0, 0)) (bx_ BK244) hg (Kd.R_away HO_5.out (fun _ hk => hk.2))); replace HB := Aside0.mk (hb); clear HO_5 ho hb hg hat)
    go_roundg kj7
    case measure => have := HK1.out; have := HJ7.out; omega
    case rel => exact ⟨(y257), (x6_1), (wrap64 (x7_1 + 1)), er_, er_, H', ⟨by have := HK1.out; have := HJ7.out; omega⟩, ⟨hq_ (Kd.R_mono HO259.out (fun _ hk => hk.1))⟩, ⟨bx_ BK236⟩, ⟨bw115_⟩⟩
   rw [if_pos c47] at H
   have c47b0 : (((rd_T76 l0 x7_1).f0) == a1_0) = true := beq_iff_eq.mpr c47
   have c47b1 : (((rd_T76 l0 x7_1).f0) != a1_0) = false := bne_eq_false_iff_eq.mpr c47
   clear c47
   by_cases c48 : ((rd_T76 l0 x7_1).f1) = a1_1
   ·rw [if_pos c48] at H
    have c48b0 : (((rd_T76 l0 x7_1).f1) == a1_1) = true := beq_iff_eq.mpr c48
    have c48b1 : (((rd_T76 l0 x7_1).f1) != a1_1) = false := bne_eq_false_iff_eq.mpr c48
    clear c48
    have H' := Aside0.mk H
    clear H
    have hnb49 := NB244_236.out
    have hnc49 := NB236_244.out
    have hcz50_0 := cz_ BK244 0 (.int .i64 ((rd_T76 l0 x7_1).f0))
    have hcz50_1 := cz_ BK244 1 (.int .i64 ((rd_T76 l0 x7_1).f1))
    have hcz50_2 := cz_ BK244 2 (.int .i64 ((rd_T76 l0 x7_1).f2))
    have hfz50_0 := fz_ BK244 0
    have hfz50_1 := fz_ BK244 1
    have hfz50_2 := fz_ BK244 2
    have hcz51_0 := cz_ BK236 0 (.int .i64 a1_0)
    have hcz51_1 := cz_ BK236 1 (.int .i64 a1_1)
    have hcz51_2 := cz_ BK236 2 (.int .i64 a1_2)
    have hfz51_0 := fz_ BK236 0
    have hfz51_1 := fz_ BK236 1
    have hfz51_2 := fz_ BK236 2
    go_wp2
    go_roundg kj7
    case measure => have := HK1.out; have := HJ7.out; omega
    case rel => exact ⟨(x5_1), (x6_1), (wrap64 (x7_1 + 1)), er_, er_, H', ⟨by have := HK1.out; have := HJ7.out; omega⟩, ⟨hq_ (Kd.R_mono HO_5.out (fun _ hk => hk.1))⟩, ⟨bx_ BK236⟩, ⟨bw115_⟩⟩
   rw [if_neg c48] at H
   have c48b0 : (((rd_T76 l0 x7_1).f1) == a1_1) = false := beq_eq_false_iff_ne.mpr c48
   have c48b1 : (((rd_T76 l0 x7_1).f1) != a1_1) = true := bne_iff_ne.mpr c48
   by_cases c52 : x5_1.length < 5864062014805
   rotate_left
   ·rw [if_neg c52] at H
    exact absurd H (by simp)
   rw [if_pos c52] at H
   have LMc52 := Aside0.mk c52
   clear c52
   obtain ⟨y254, hy254⟩ : ∃ y_ : List (S76), y_ = (x5_1 ++ [(⟨((rd_T76 l0 x7_1).f0), ((rd_T76 l0 x7_1).f1), ((rd_T76 l0 x7_1).f2)⟩ : S76)]) := ⟨_, rfl⟩
   replace H : (spec_l03Put.l0 kj7 l0 y254 x6_1 (wrap64 (x7_1 + 1)) a1_0 a1_1 a1_2) = some r := by first | (rw [hy254]; with_reducible exact H) | (have H2_ := (Option.bind_some _ _).symm.trans H; rw [hy254]; with_reducible exact H2_) | (have H2_ := (Option.bind_some _ _).symm.trans H; with_reducible exact H2_) | with_reducible exact H | (rw [hy254]; exact H) | exact H
   have Ny254 := Aside0.mk hy254
   clear hy254
   have H' := Aside0.mk H
   clear H
   have hnb53 := NB244_236.out
   have hnc53 := NB236_244.out
   have hcz54_0 := cz_ BK244 0 (.int .i64 ((rd_T76 l0 x7_1).f0))
   have hcz54_1 := cz_ BK244 1 (.int .i64 ((rd_T76 l0 x7_1).f1))
   have hcz54_2 := cz_ BK244 2 (.int .i64 ((rd_T76 l0 x7_1).f2))
   have hfz54_0 := fz_ BK244 0
   have hfz54_1 := fz_ BK244 1
   have hfz54_2 := fz_ BK244 2
   have hcz55_0 := cz_ BK236 0 (.int .i64 a1_0)
   have hcz55_1 := cz_ BK236 1 (.int .i64 a1_1)
   have hcz55_2 := cz_ BK236 2 (.int .i64 a1_2)
   have hfz55_0 := fz_ BK236 0
   have hfz55_1 := fz_ BK236 1
   have hfz55_2 := fz_ BK236 2
   go_wp2_with ((with_reducible refine gate_builtin (b := .append) (xs := #[.tmp 59, .tmp 61]) rfl ?_); at_builtin; refine Kd.R_append k76 (w0 := w) w.heap.size rfl (.tmp 59) (.tmp 61) 28 76 (.agg #[(.int .i64 0), (.int .i64 0), (.int .i64 0)]) 24 rfl Try.underlying28 info76 rfl (by decide) (by omega) u5 x5_1 (⟨((rd_T76 l0 x7_1).f0), ((rd_T76 l0 x7_1).f1), ((rd_T76 l0 x7_1).f2)⟩ : S76) [.int .i64 ((rd_T76 l0 x7_1).f0), .int .i64 ((rd_T76 l0 x7_1).f1), .int .i64 ((rd_T76 l0 x7_1).f2)] (fun k_ => k_ ≠ gb236 ∧ k_ ≠ gb244) (fun _ => False) rfl rfl ?aP (fun _ hk => hk.elim) ?aF ?aO ?aB ?aS ?aL ?_; (case aP => exact k76_mkM _ _ _ (⟨((rd_T76 l0 x7_1).f0), ((rd_T76 l0 x7_1).f1), ((rd_T76 l0 x7_1).f2)⟩ : S76)); (case aB => exact (bw115_)); (case aF => exact (fun k_ hk => ⟨Kd.freshB (g := gb236) (o := .cells #[.int .i64 a1_0, .int .i64 a1_1, .int .i64 a1_2] 76 (0, 0)) (bx_ BK236) k_ hk, Kd.freshB (g := gb244) (o := .cells #[.int .i64 ((rd_T76 l0 x7_1).f0), .int .i64 ((rd_T76 l0 x7_1).f1), .int .i64 ((rd_T76 l0 x7_1).f2)] 76 (0, 0)) (bx_ BK244) k_ hk⟩)); (case aO => exact (hd_ HO_5)); (case aS => exact (bz_ HB)); (case aL => have := LMc52.out; omega); intro v255 w56 ho hb hg hat; rw [← Ny254.out] at ho; have HO256 := Aside0.mk ho; replace BK236 := Aside0.mk (blk_grown (g := gb236) (o := .cells #[.int .i64 a1_0, .int .i64 a1_1, .int .i64 a1_2] 76 (0, 0)) (bx_ BK236) hg (Kd.R_away HO_5.out (fun _ hk => hk.1))); replace BK244 := Aside0.mk (blk_grown (g := gb244) (o := .cells #[.int .i64 ((rd_T76 l0 x7_1).f0), .int .i64 ((rd_T76 l0 x7_1).f1), .int .i64 ((rd_T76 l0 x7_1).f2)] 76 (0, 0)) (bx_ BK244) hg (Kd.R_away HO_5.out (fun _ hk => hk.2))); replace HB := Aside0.mk (hb); clear HO_5 ho hb hg hat)
   go_roundg kj7
   case measure => have := HK1.out; have := HJ7.out; omega
   case rel => exact ⟨(y254), (x6_1), (wrap64 (x7_1 + 1)), er_, er_, H', ⟨by have := HK1.out; have := HJ7.out; omega⟩, ⟨hq_ (Kd.R_mono HO256.out (fun _ hk => hk.1))⟩, ⟨bx_ BK236⟩, ⟨bw115_⟩⟩
end Go.Proofs.Ythmahcohcphljaa.QFnCheapest
