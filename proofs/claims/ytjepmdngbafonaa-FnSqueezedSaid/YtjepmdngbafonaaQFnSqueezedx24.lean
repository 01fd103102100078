/- Contracts of functions that the law reaches: what each call returns and what it leaves in memory. Made by this session over the print of the kit. -/
import Derived.Test.YtjepmdngbafonaaQFnSqueezedx0
import Derived.Test.YtjepmdngbafonaaQFnSqueezedx6
namespace Go.Proofs.Ytjepmdngbafonaa.QFnSqueezed
open Go.RowKit Go.Proofs.YtjepmdngbafonaaZ.PrintWords Go.Proofs.YtjepmdngbafonaaZ.PrintLast Go.Proofs.YtjepmdngbafonaaZ.PrintMore
attribute [local go_sem] max2_int min2_int max_two min_two max_three min_three max_four min_four   -- for this text's walks alone
set_option linter.unusedVariables false
set_option linter.unusedSimpArgs false
def ba24_0 := bs_ 13 0
def ba24_1 := bs_ 13 1
def ba24_2 := bs_ 13 3
def ba24_3 := bs_ 13 11
def ba24_4 := bs_ 13 43
def ba24_5 := bs_ 13 171
def ba24_6 := bs_ 13 175
def ba24_7 := bs_ 13 191
def ba24_8 := bs_ 13 255
def ba24_9 := bs_ 13 511
def ba24_10 := bs_ 13 1023
def ba24_11 := bs_ 13 2047
def ba24_12 := bs_ 13 4095
def ba24_13 := bs_ 13 8191

/-! ### spec_l02Paint: function 66 -/
mutual
def spec_l02Paint.l0 : Nat → List Int → Int → List (S30) → Option (List Int)
 | 0, _, _, _ => none
 | k + 1, x3, x4, x524000 => if x4 < 65536 then (if 0 ≤ x4 then (if x4 < (x3.length : Int) then (spec_l02Paint.l0 k (x3.set (x4 : Int).toNat (-1)) (wrap64 (x4 + 1)) x524000) else (none)) else (none)) else (spec_l02Paint.l1 k x3 0 x524000)
def spec_l02Paint.l1 : Nat → List Int → Int → List (S30) → Option (List Int)
 | 0, _, _, _ => none
 | k + 1, x3, x5, x524000 => if x5 ≤ 16 then (spec_l02Paint.l2 k x3 x5 0 x524000) else (some x3)
def spec_l02Paint.l2 : Nat → List Int → Int → Int → List (S30) → Option (List Int)
 | 0, _, _, _, _ => none
 | k + 1, x3, x5, x6, x524000 => if x6 < (x524000.length : Int) then (if 0 ≤ x6 then (if ((rd_T30 x524000 x6).f0.f1) = x5 then (spec_l02Paint.l3 k x3 x5 x6 0 x524000 ((rd_T30 x524000 x6).f0.f0) ((rd_T30 x524000 x6).f0.f1)) else (spec_l02Paint.l2 k x3 x5 (wrap64 (x6 + 1)) x524000)) else (none)) else (spec_l02Paint.l1 k x3 (wrap64 (x5 + 1)) x524000)
def spec_l02Paint.l3 : Nat → List Int → Int → Int → Int → List (S30) → Int → Int → Option (List Int)
 | 0, _, _, _, _, _, _, _ => none
 | k + 1, x3, x5, x6, x8, x524000, x530000, x530001 => (spec_l01Size2.f x5).bind fun t530 => (if x8 < t530 then (if 0 ≤ x6 then (if x6 < (x524000.length : Int) then (if 0 ≤ (wrap64 (x530000 + x8)) then (if (wrap64 (x530000 + x8)) < (x3.length : Int) then (spec_l02Paint.l3 k (x3.set ((wrap64 (x530000 + x8)) : Int).toNat ((rd_T30 x524000 x6).f1)) x5 x6 (wrap64 (x8 + 1)) x524000 x530000 x530001) else (none)) else (none)) else (none)) else (none)) else (spec_l02Paint.l2 k x3 x5 (wrap64 (x6 + 1)) x524000))
end
def spec_l02Paint.f (k : Nat) (l0_0 : List (S30)) : Option (List Int) := if 65536 ≤ 35184372088832 then (spec_l02Paint.l0 k (List.replicate 65536 0) 0 l0_0) else (none)
def spec_l02Paint.T17 : Bool × List (List Nat × List Nat) := (true, [([], []), ([], []), ([1], [1]), ([], []), ([2, 3], [2, 3]), ([], []), ([5], [5]), ([], []), ([6, 7], [6, 7]), ([8], [8]), ([9], [9]), ([0, 4, 0, 1, 2, 3, 4, 5, 6, 7, 8, 9, 10], [0, 4]), ([11, 10, 0, 1, 2, 3, 4, 5, 6, 7, 8, 9, 10], [10, 11])])
def spec_l02Paint.B17 : List Nat := [0, 0, 2, 0, 14, 0, 32, 0, 224, 480, 992, 2047, 4095]
theorem spec_l02Paint.tab17 : rtab .any (opsOf Try.f66 17) = spec_l02Paint.T17 := by kernel_rfl
theorem spec_l02Paint.bits17 : waitsOk spec_l02Paint.T17.2 spec_l02Paint.B17 = true := by kernel_rfl
set_option maxHeartbeats 8000000 in
set_option maxRecDepth 100000 in
theorem spec_l02Paint.calls (k : Nat) (A0_0 : Option Addr) (c0_0 : Nat) (l0_0 : List (S30)) (r : List Int) (w : World) (hr0_0 : Kd.C k30 w A0_0 l0_0.length l0_0) (hc0_0 : l0_0.length ≤ c0_0) (h : spec_l02Paint.f k l0_0 = some r) :
  Calls Try.prog 66 #[.agg #[.slice A0_0 l0_0.length c0_0]] w fun e w' => ∃ v0_ : Value, e = .returned (v0_) ∧ Kd.R (Kd.int .i64) 3 w' w.heap.size (fun _ => True) v0_ r ∧ Below w.heap.size w w' := by
 have hu26 := Try.underlying26
 have hu28 := Try.underlying28
 have HR0_0 := Aside0.mk hr0_0
 have HC0_0 := Aside0.mk hc0_0
 clear hr0_0 hc0_0
 have HB := Aside0.mk (Below.refl w.heap.size w)
 have H : (if 65536 ≤ 35184372088832 then (spec_l02Paint.l0 k (List.replicate 65536 0) 0 l0_0) else (none)) = some r := h
 clear h
 by_cases c2 : 65536 ≤ 35184372088832
 rotate_left
 ·rw [if_neg c2] at H
  exact absurd H (by simp)
 rw [if_pos c2] at H
 have c2b0 := eq_true c2
 have c2b1 : decide (65536 ≤ 35184372088832) = true := decide_eq_true c2
 clear c2
 obtain ⟨y524, hy524⟩ : ∃ y_ : List Int, y_ = (List.replicate 65536 0) := ⟨_, rfl⟩
 replace H : (spec_l02Paint.l0 k y524 0 l0_0) = some r := by first | (rw [hy524]; with_reducible exact H) | (have H2_ := (Option.bind_some _ _).symm.trans H; rw [hy524]; with_reducible exact H2_) | (have H2_ := (Option.bind_some _ _).symm.trans H; with_reducible exact H2_) | with_reducible exact H | (rw [hy524]; exact H) | exact H
 have Ny524 := Aside0.mk hy524
 clear hy524
 have H' := Aside0.mk H
 clear H
 go_enter Try.func66, Try.ntmps66
 go_wp2_with (first | ((with_reducible refine gate_dst (N := 1) rfl ?_); refine be_ 1 #[.slice A0_0 l0_0.length c0_0] 26 ?_; intro gb523 hg w3 BK523 hb; have GW523 := ge_ HB hg; have GE523 := ge_ HB hg; replace HB := at_ HB hb; clear hb hg) | ((with_reducible refine gate_dst (N := 9) rfl ?_); refine Kd.R_make (Kd.int .i64) _ 3 rfl (N := 9) rfl 46 _ _ rfl 65536 rfl rfl Try.underlying46 (.int .i64 0) 8 info3 rfl (by decide) (by omega) 0 (ok := fun _ => True) (okp := fun _ => True) rfl (fun _ hk => hk) trivial (by omega) (by omega) (Below.refl _ _) (Nat.le_refl _) ?_; intro v525 w4 ho5 hb hg_ hnew_; clear hg_ hnew_; (first | rw [← Ny524.out] at ho5 | (simp only [Int.reduceToNat] at ho5; rw [← Ny524.out] at ho5)); have HO526 := Aside0.mk (Kd.R_lower ho5 (bz_ HB)); replace BK523 := ab_ BK523 hb; replace HB := at_ HB hb; clear hb ho5))
 go_loopg [4] k (fun kq v4 w' => ∃ (x3_1 : List Int) (x4_1 : Int), v4 = .int .i64 x4_1 ∧ Aside0 (spec_l02Paint.l0 kq x3_1 x4_1 l0_0 = some r) ∧ Aside0 (kq ≤ k) ∧ Aside0 (Kd.R (Kd.int .i64) 3 w' w.heap.size (fun _ => True) v525 x3_1) ∧ Aside0 (w'.heap[gb523]? = some (.cells #[(.slice A0_0 l0_0.length c0_0)] 26 (0, 0))) ∧ Aside0 (Below w.heap.size w w'))
 case atStart => exact ⟨(y524), (0), er_, H', ⟨Nat.le_refl _⟩, ⟨hd_ HO526⟩, ⟨bx_ BK523⟩, ⟨bw112_⟩⟩
 case round =>
  clear H' c2b0 c2b1
  obtain ⟨x3_1, x4_1, rfl, HA, HK1, HO_3, BK523, HB⟩ := hrel
  cases gk with
  | zero => exact absurd HA.out (by simp [spec_l02Paint.l0])
  | succ k1 =>
   have H := HA.out
   clear HA
   simp only [spec_l02Paint.l0] at H
   by_cases c6 : x4_1 < 65536
   ·rw [if_pos c6] at H
    have c6b0 : decide (x4_1 < 65536) = true := decide_eq_true c6
    clear c6
    obtain ⟨c7b0, H⟩ := iq_ H
    obtain ⟨c8b0, H⟩ := iq_ H
    obtain ⟨y527, hy527⟩ : ∃ y_ : List Int, y_ = (x3_1.set (x4_1 : Int).toNat (-1)) := ⟨_, rfl⟩
    replace H : (spec_l02Paint.l0 k1 y527 (wrap64 (x4_1 + 1)) l0_0) = some r := by first | (rw [hy527]; with_reducible exact H) | (have H2_ := (Option.bind_some _ _).symm.trans H; rw [hy527]; with_reducible exact H2_) | (have H2_ := (Option.bind_some _ _).symm.trans H; with_reducible exact H2_) | with_reducible exact H | (rw [hy527]; exact H) | exact H
    have Ny527 := Aside0.mk hy527
    clear hy527
    have H' := Aside0.mk H
    clear H
    have p9 : 0 ≤ (x4_1 : Int) := oa_
    have q9 : (x4_1 : Int) < ((x3_1.length : Int) : Int) := oa_
    obtain ⟨go9, co9, eo9, gb9, gl9, cl9, HG9⟩ := Kd.R_form HO_3.out (by omega)
    (first | cases eo9 | (injection eo9 with ea_ en_ ec_; (first | subst ea_ | (injection ea_ with ea_; subst ea_)); subst ec_; clear en_))
    have GB9 := Aside0.mk gb9
    have GG9 := Aside0.mk HG9
    clear gb9 gl9 HG9
    obtain ⟨hx9_0, hf9_0⟩ := Kd.R_celln 0 HO_3.out (x4_1 : Int) p9 q9
    obtain ⟨p9, q9⟩ := et_ p9 q9
    have HP10 := Kd.R_putg HO_3.out (x4_1 : Int) (-1)
    go_wp2_with ((with_reducible refine gate_store (t := 3) (p := 16) rfl ?_); refine store_event (t := 3) (p := 16) (v := ?vo_w11) (w1 := (wr.setCell ⟨go9, (x4_1 : Int).toNat, none⟩ (.int .i64 (-1)))) ?hg ?ho ?hn ?hr ?_; (case ho => rfl); (case hg => rfl); (case hn => rfl); (case hr => first | (go_simp; done) | (go_simp; rfl)); intro w11 hw; have hg : wr.grownBy w11 (some go9) := (by rw [hw]; exact HP10.2); have hp_ : Kd.R (Kd.int .i64) 3 w11 w.heap.size (fun _ => True) (.slice (some ⟨go9, 0, none⟩) x3_1.length co9) y527 := (by rw [hw, Ny527.out]; exact HP10.1); clear HP10; replace BK523 := Aside0.mk (blk_grown (g := gb523) (o := .cells #[.slice A0_0 l0_0.length c0_0] 26 (0, 0)) (bx_ BK523) hg (Kd.R_ne HO_3.out BK523.out (by decide))); replace HO_3 := Aside0.mk (hp_); replace HB := Aside0.mk ((by rw [hw]; exact below_set (HB.out) GB9.out : Below w.heap.size w w11)); clear hg hw hp_)
    go_roundg k1
    case measure => have := HK1.out; omega
    case rel => exact ⟨(y527), (wrap64 (x4_1 + 1)), er_, H', ⟨by have := HK1.out; omega⟩, ⟨hd_ HO_3⟩, ⟨bx_ BK523⟩, ⟨bw112_⟩⟩
   rw [if_neg c6] at H
   have c6b0 : decide (x4_1 < 65536) = false := decide_eq_false c6
   clear c6
   have H' := Aside0.mk H
   clear H
   go_wp2
   go_loopg [5] k1 (fun kq v5 w' => ∃ (x3_2 : List Int) (x5_2 : Int), v5 = .int .i64 x5_2 ∧ Aside0 (spec_l02Paint.l1 kq x3_2 x5_2 l0_0 = some r) ∧ Aside0 (kq ≤ k1) ∧ Aside0 (Kd.R (Kd.int .i64) 3 w' w.heap.size (fun _ => True) v525 x3_2) ∧ Aside0 (w'.heap[gb523]? = some (.cells #[(.slice A0_0 l0_0.length c0_0)] 26 (0, 0))) ∧ Aside0 (Below w.heap.size w w'))
   case atStart => exact ⟨(x3_1), (0), er_, H', ⟨Nat.le_refl _⟩, ⟨hd_ HO_3⟩, ⟨bx_ BK523⟩, ⟨bw112_⟩⟩
   case round =>
    clear H' c6b0
    obtain ⟨x3_2, x5_2, rfl, HA, HK2, HO_3, BK523, HB⟩ := hrel
    cases gk with
    | zero => exact absurd HA.out (by simp [spec_l02Paint.l1])
    | succ k2 =>
     have H := HA.out
     clear HA
     simp only [spec_l02Paint.l1] at H
     by_cases c12 : x5_2 ≤ 16
     rotate_left
     ·rw [if_neg c12] at H
      have c12b0 : decide (x5_2 ≤ 16) = false := decide_eq_false c12
      clear c12
      obtain rfl := Option.some.inj H
      go_wp2
      go_ret
      exact ⟨_, by first | rfl | (simp [errW_none, errW_some] <;> rfl) | (simp [*, errW_none, errW_some] <;> rfl), by (with_reducible repeat (first | apply Kd.R_alloc | apply Kd.R_drewN | apply Kd.R_drew)); exact HO_3.out, bw112_⟩
     rw [if_pos c12] at H
     have c12b0 : decide (x5_2 ≤ 16) = true := decide_eq_true c12
     clear c12
     have H' := Aside0.mk H
     clear H
     go_wp2
     go_loopg [6] k2 (fun kq v6 w' => ∃ (x3_3 : List Int) (x6_3 : Int), v6 = .int .i64 x6_3 ∧ Aside0 (spec_l02Paint.l2 kq x3_3 x5_2 x6_3 l0_0 = some r) ∧ Aside0 (kq ≤ k2) ∧ Aside0 (Kd.R (Kd.int .i64) 3 w' w.heap.size (fun _ => True) v525 x3_3) ∧ Aside0 (w'.heap[gb523]? = some (.cells #[(.slice A0_0 l0_0.length c0_0)] 26 (0, 0))) ∧ Aside0 (Below w.heap.size w w'))
     case atStart => exact ⟨(x3_2), (0), er_, H', ⟨Nat.le_refl _⟩, ⟨hd_ HO_3⟩, ⟨bx_ BK523⟩, ⟨bw112_⟩⟩
     case round =>
      clear H' c12b0
      obtain ⟨x3_3, x6_3, rfl, HA, HK3, HO_3, BK523, HB⟩ := hrel
      cases gk with
      | zero => exact absurd HA.out (by simp [spec_l02Paint.l2])
      | succ k3 =>
       have H := HA.out
       clear HA
       simp only [spec_l02Paint.l2] at H
       by_cases c13 : x6_3 < (l0_0.length : Int)
       rotate_left
       ·rw [if_neg c13] at H
        have c13b0 : decide (x6_3 < (l0_0.length : Int)) = false := decide_eq_false c13
        clear c13
        have H' := Aside0.mk H
        clear H
        have hcz34_0 := cz_ BK523 0 (.slice A0_0 l0_0.length c0_0)
        have hfz34_0 := fz_ BK523 0
        go_wp2
        go_roundg k3
        case measure => have := HK1.out; have := HK2.out; have := HK3.out; omega
        case rel => exact ⟨(x3_3), (wrap64 (x5_2 + 1)), er_, H', ⟨by have := HK1.out; have := HK2.out; have := HK3.out; omega⟩, ⟨hd_ HO_3⟩, ⟨bx_ BK523⟩, ⟨bw112_⟩⟩
       rw [if_pos c13] at H
       have c13b0 : decide (x6_3 < (l0_0.length : Int)) = true := decide_eq_true c13
       clear c13
       obtain ⟨c14b0, H⟩ := iq_ H
       have Hh_ := Aside0.mk H
       clear H
       have hcz16_0 := cz_ BK523 0 (.slice A0_0 l0_0.length c0_0)
       have hfz16_0 := fz_ BK523 0
       have p528 : 0 ≤ (x6_3 : Int) := oa_
       have q528 : x6_3 < (l0_0.length : Int) := oa_
       obtain ⟨ad528, e528, hx528_0, hx528_1, hx528_2⟩ := at_T30 HR0_0.out x6_3 p528 q528
       cases e528
       replace hx528_0 := hc5_ HB hx528_0
       replace hx528_1 := hc5_ HB hx528_1
       replace hx528_2 := hc5_ HB hx528_2
       obtain ⟨p528, q528⟩ := et_ p528 q528
       have H := Hh_.out
       clear Hh_
       by_cases c15 : ((rd_T30 l0_0 x6_3).f0.f1) = x5_2
       rotate_left
       ·rw [if_neg c15] at H
        have c15b0 : (((rd_T30 l0_0 x6_3).f0.f1) == x5_2) = false := beq_eq_false_iff_ne.mpr c15
        have c15b1 : (((rd_T30 l0_0 x6_3).f0.f1) != x5_2) = true := bne_iff_ne.mpr c15
        have H' := Aside0.mk H
        clear H
        go_wp2_with ((with_reducible refine gate_dst (N := 7) rfl ?_); refine be_ 7 #[.int .i64 0, .int .i64 0] 28 ?_; intro gb529 hg w31 BK529 hb; have GW529 := ge_ HB hg; have GE529 := ge_ HB hg; have NB523_529 := nl_ BK523 hg; have NB529_523 := ng_ BK523 hg; replace HO_3 := rb_ HO_3 hb; replace HB := at_ HB hb; replace BK523 := ab_ BK523 hb; clear hb hg; have hnb32 := NB529_523.out; have hnc32 := NB523_529.out; have hcz33_0 := cz_ BK529 0 (.int .i64 0); have hcz33_1 := cz_ BK529 1 (.int .i64 0); have hfz33_0 := fz_ BK529 0; have hfz33_1 := fz_ BK529 1)
        go_roundg k3
        case measure => have := HK1.out; have := HK2.out; have := HK3.out; omega
        case rel => exact ⟨(x3_3), (wrap64 (x6_3 + 1)), er_, H', ⟨by have := HK1.out; have := HK2.out; have := HK3.out; omega⟩, ⟨by (with_reducible repeat (first | apply Kd.R_alloc | apply Kd.R_drewN | apply Kd.R_drew)); exact Kd.R_mono (Kd.R_far (Kd.R_far (Kd.R_types HO_3.out BK529.out (by decide)) (fun _ hk => hk.2) _) (fun _ hk => hk.2) _) (fun _ hk => trivial)⟩, ⟨bc_ BK523⟩, ⟨bw112_⟩⟩
       rw [if_pos c15] at H
       have c15b0 : (((rd_T30 l0_0 x6_3).f0.f1) == x5_2) = true := beq_iff_eq.mpr c15
       have c15b1 : (((rd_T30 l0_0 x6_3).f0.f1) != x5_2) = false := bne_eq_false_iff_eq.mpr c15
       clear c15
       have H' := Aside0.mk H
       clear H
       go_wp2_with ((with_reducible refine gate_dst (N := 7) rfl ?_); refine be_ 7 #[.int .i64 0, .int .i64 0] 28 ?_; intro gb529 hg w17 BK529 hb; have GW529 := ge_ HB hg; have GE529 := ge_ HB hg; have NB523_529 := nl_ BK523 hg; have NB529_523 := ng_ BK523 hg; replace HO_3 := rb_ HO_3 hb; replace HB := at_ HB hb; replace BK523 := ab_ BK523 hb; clear hb hg; have hnb18 := NB529_523.out; have hnc18 := NB523_529.out; have hcz19_0 := cz_ BK529 0 (.int .i64 0); have hcz19_1 := cz_ BK529 1 (.int .i64 0); have hfz19_0 := fz_ BK529 0; have hfz19_1 := fz_ BK529 1)
       go_loopg [8] k3 (fun kq v8 w' => ∃ (x3_4 : List Int) (x8_4 : Int), v8 = .int .i64 x8_4 ∧ Aside0 (spec_l02Paint.l3 kq x3_4 x5_2 x6_3 x8_4 l0_0 ((rd_T30 l0_0 x6_3).f0.f0) ((rd_T30 l0_0 x6_3).f0.f1) = some r) ∧ Aside0 (kq ≤ k3) ∧ Aside0 (Kd.R (Kd.int .i64) 3 w' w.heap.size (fun _ => True) v525 x3_4) ∧ Aside0 (w'.heap[gb523]? = some (.cells #[(.slice (some ad528) l0_0.length c0_0)] 26 (0, 0))) ∧ Aside0 (w'.heap[gb529]? = some (.cells #[.int .i64 ((rd_T30 l0_0 x6_3).f0.f0), .int .i64 ((rd_T30 l0_0 x6_3).f0.f1)] 28 (0, 0))) ∧ Aside0 (Below w.heap.size w w'))
       case atStart => exact ⟨(x3_3), (0), er_, H', ⟨Nat.le_refl _⟩, ⟨by (with_reducible repeat (first | apply Kd.R_alloc | apply Kd.R_drewN | apply Kd.R_drew)); exact Kd.R_mono (Kd.R_far (Kd.R_far (Kd.R_types HO_3.out BK529.out (by decide)) (fun _ hk => hk.2) _) (fun _ hk => hk.2) _) (fun _ hk => trivial)⟩, ⟨bc_ BK523⟩, ⟨by refine bd_ ?_; refine blk_put (cs := #[.int .i64 ((rd_T30 l0_0 x6_3).f0.f0), .int .i64 0]) ?_ 1 _ rfl; refine bd_ ?_; refine blk_put (cs := #[.int .i64 0, .int .i64 0]) ?_ 0 _ rfl; refine bd_ ?_; exact BK529.out⟩, ⟨bw112_⟩⟩
       case round =>
        clear H' c13b0 c14b0 c15b0 c15b1 hcz16_0 hcz19_0 hcz19_1 hfz16_0 hfz19_0 hfz19_1 hx528_0 hx528_1 hx528_2 p528 q528
        obtain ⟨x3_4, x8_4, rfl, HA, HK4, HO_3, BK523, BK529, HB⟩ := hrel
        cases gk with
        | zero => exact absurd HA.out (by simp [spec_l02Paint.l3])
        | succ k4 =>
         have H := HA.out
         clear HA
         simp only [spec_l02Paint.l3] at H
         obtain ⟨t530, A20, H⟩ := ob_ H
         by_cases c21 : x8_4 < t530
         rotate_left
         ·rw [if_neg c21] at H
          have c21b0 : decide (x8_4 < t530) = false := decide_eq_false c21
          clear c21
          have H' := Aside0.mk H
          clear H
          go_wp2_with ((with_reducible refine gate_callee (f := 57) rfl ?_); refine gl_ (some 40) Try.func57 #[.int .i64 x5_2] ?_; (with_reducible refine (spec_l01Size2.calls x5_2 t530 _ A20.out).mono ?_); rintro e w' ⟨rfl, ⟨nd, rfl⟩⟩; refine ⟨_, rfl, ?_⟩)
          go_roundg k4
          case measure => have := HK1.out; have := HK2.out; have := HK3.out; have := HK4.out; omega
          case rel => exact ⟨(x3_4), (wrap64 (x6_3 + 1)), er_, H', ⟨by have := HK1.out; have := HK2.out; have := HK3.out; have := HK4.out; omega⟩, ⟨hd_ HO_3⟩, ⟨bx_ BK523⟩, ⟨bw112_⟩⟩
         rw [if_pos c21] at H
         have c21b0 : decide (x8_4 < t530) = true := decide_eq_true c21
         clear c21
         obtain ⟨c22b0, H⟩ := iq_ H
         obtain ⟨c23b0, H⟩ := iq_ H
         obtain ⟨ji24, hji24⟩ : ∃ j_ : Int, (wrap64 (((rd_T30 l0_0 x6_3).f0.f0) + x8_4)) = j_ := ⟨_, rfl⟩
         first | rw [hji24] at H | simp only [hji24] at H
         (try rw [hji24] at A20)
         have hji24w : (IntKind.i64.wrap (((rd_T30 l0_0 x6_3).f0.f0) + x8_4)) = ji24 := (i64_w _).trans hji24
         obtain ⟨c25b0, H⟩ := iq_ H
         obtain ⟨c26b0, H⟩ := iq_ H
         obtain ⟨y532, hy532⟩ : ∃ y_ : List Int, y_ = (x3_4.set ((ji24) : Int).toNat ((rd_T30 l0_0 x6_3).f1)) := ⟨_, rfl⟩
         replace H : (spec_l02Paint.l3 k4 y532 x5_2 x6_3 (wrap64 (x8_4 + 1)) l0_0 ((rd_T30 l0_0 x6_3).f0.f0) ((rd_T30 l0_0 x6_3).f0.f1)) = some r := by first | (rw [hy532]; with_reducible exact H) | (have H2_ := (Option.bind_some _ _).symm.trans H; rw [hy532]; with_reducible exact H2_) | (have H2_ := (Option.bind_some _ _).symm.trans H; with_reducible exact H2_) | with_reducible exact H | (rw [hy532]; exact H) | exact H
         have Ny532 := Aside0.mk hy532
         clear hy532
         have H' := Aside0.mk H
         clear H
         try go_wp2_with ((with_reducible refine gate_callee (f := 57) rfl ?_); refine gl_ (some 40) Try.func57 #[.int .i64 x5_2] ?_; (with_reducible refine (spec_l01Size2.calls x5_2 t530 _ A20.out).mono ?_); rintro e w' ⟨rfl, ⟨nd, rfl⟩⟩; refine ⟨_, rfl, ?_⟩; (try (rw [drewN_self wr]; generalize hq_ : World.drewN wr _ = wr; replace HO_3 : Aside0 (Kd.R (Kd.int .i64) 3 wr w.heap.size (fun _ => True) v525 x3_4) := ⟨by rw [← hq_]; exact (hd_ HO_3)⟩; replace BK523 : Aside0 (wr.heap[gb523]? = some (.cells #[.slice (some ad528) l0_0.length c0_0] 26 (0, 0))) := ⟨by rw [← hq_]; exact (bx_ BK523)⟩; replace BK529 : Aside0 (wr.heap[gb529]? = some (.cells #[.int .i64 ((rd_T30 l0_0 x6_3).f0.f0), .int .i64 ((rd_T30 l0_0 x6_3).f0.f1)] 28 (0, 0))) := ⟨by rw [← hq_]; exact (bx_ BK529)⟩; replace HB : Aside0 (Below w.heap.size w wr) := ⟨by rw [← hq_]; exact (bw112_)⟩; clear hq_)))
         replace HO_3 := Aside0.mk (Kd.R_drew HO_3.out)
         replace BK523 := ad_ BK523
         replace BK529 := ad_ BK529
         replace HB := Aside0.mk (below_drew1 HB.out)
         have p531 : 0 ≤ (x6_3 : Int) := oa_
         have q531 : x6_3 < (l0_0.length : Int) := oa_
         obtain ⟨ad531, e531, hx531_0, hx531_1, hx531_2⟩ := at_T30 HR0_0.out x6_3 p531 q531
         have hw531_2 := hx531_2
         have hw531_1 := hx531_1
         have hw531_0 := hx531_0
         obtain rfl : ad528 = ad531 := (by injection e531)
         replace hx531_0 := hc5_ HB hx531_0
         replace hx531_1 := hc5_ HB hx531_1
         replace hx531_2 := hc5_ HB hx531_2
         obtain ⟨p531, q531⟩ := et_ p531 q531
         have p27 : 0 ≤ ((ji24) : Int) := oa_
         have q27 : ((ji24) : Int) < ((x3_4.length : Int) : Int) := oa_
         obtain ⟨go27, co27, eo27, gb27, gl27, cl27, HG27⟩ := Kd.R_form HO_3.out (by omega)
         (first | cases eo27 | (injection eo27 with ea_ en_ ec_; (first | subst ea_ | (injection ea_ with ea_; subst ea_)); subst ec_; clear en_))
         have GB27 := Aside0.mk gb27
         have GG27 := Aside0.mk HG27
         clear gb27 gl27 HG27
         obtain ⟨hx27_0, hf27_0⟩ := Kd.R_celln 0 HO_3.out ((ji24) : Int) p27 q27
         obtain ⟨p27, q27⟩ := et_ p27 q27
         have HP29 := Kd.R_putn HO_3.out ((ji24) : Int) ((rd_T30 l0_0 x6_3).f1)
         rw [← Ny532.out] at HP29
         have HQ29 := Aside0.mk HP29
         clear HP29
         refine start_ (n := 13) (S := fun w' => w'.cell? ⟨gb529, 0, none⟩ = some (.int .i64 ((rd_T30 l0_0 x6_3).f0.f0)) ∧ w'.cell? ⟨gb529, 1, none⟩ = some (.int .i64 ((rd_T30 l0_0 x6_3).f0.f1)) ∧ w'.cell? ⟨gb523, 0, none⟩ = some (.slice (some ad528) l0_0.length c0_0) ∧ w'.cell? (ad528.add ((x6_3).toNat * 3)) = some (.int .i64 ((rd_T30 l0_0 x6_3).f0.f0)) ∧ w'.cell? ⟨(ad528.add ((x6_3).toNat * 3)).block, (ad528.add ((x6_3).toNat * 3)).off + 1, none⟩ = some (.int .i64 ((rd_T30 l0_0 x6_3).f0.f1)) ∧ w'.cell? ⟨(ad528.add ((x6_3).toNat * 3)).block, (ad528.add ((x6_3).toNat * 3)).off + 2, none⟩ = some (.int .i64 ((rd_T30 l0_0 x6_3).f1))) (ds := [12]) ba24_0 (by kernel_rfl) rfl rfl ⟨bq5_ BK529 0, bq5_ BK529 1, bq5_ BK523 0, (hc_ HB hw531_0), (hc_ HB hw531_1), (hc_ HB hw531_2)⟩ (fun hHeld => ?_); refine with_tabW spec_l02Paint.tab17 spec_l02Paint.bits17 (fun HT_ HW_ => ?_)
         generalize wr.drew = w28 at HO_3 BK523 BK529 HB GG27 HQ29 hf27_0 hx27_0 hx531_0 hx531_1 hx531_2 hHeld ⊢
         refine pz_ 0 44 ba24_1 HT_ ?_
         refine pz_ 1 45 ba24_2 HT_ ?_
         refine pz_ 3 47 ba24_3 HT_ ?_
         refine pz_ 5 49 ba24_4 HT_ ?_
         refine pz_ 7 51 ba24_5 HT_ ?_
         refine pt_ 2 46 ba24_6 HT_ HW_ hHeld ?_
         refine pz_ 4 48 ba24_7 HT_ ?_
         refine pt_ 6 50 ba24_8 HT_ HW_ hHeld ?_
         refine pz_ 8 52 ba24_9 HT_ ?_
         refine pz_ 9 53 ba24_10 HT_ ?_
         refine pt_ 10 54 ba24_11 HT_ HW_ hHeld ?_
         refine pz_ 11 55 ba24_12 HT_ ?_
         refine last_ (i := 12) (N := none) ba24_13 rfl rfl (one_of HT_.out (by kernel_rfl)) (by decide) (fun K hK => ?_)
         refine skip_ (w1 := ?_) (by rfl) rfl ?_ ?_
         rotate_left; · go_simp; rfl
         refine hK.out _ _ ?_
         clear hK K
         refine done_ (done_of HT_.out (by kernel_rfl)) ?_
         go_wp2
         go_roundg k4
         case measure => have := HK1.out; have := HK2.out; have := HK3.out; have := HK4.out; omega
         case rel => exact ⟨(y532), (wrap64 (x8_4 + 1)), er_, H', ⟨by have := HK1.out; have := HK2.out; have := HK3.out; have := HK4.out; omega⟩, ⟨by (with_reducible repeat (first | apply Kd.R_alloc | apply Kd.R_drewN | apply Kd.R_drew)); exact HQ29.out⟩, ⟨by refine bd_ ?_; refine blk_far ?_ (by have h_ := Kd.R_ne HO_3.out BK523.out (by decide); intro e_; exact h_ (by rw [e_]; rfl)) _; refine bd_ ?_; exact BK523.out⟩, ⟨by refine bd_ ?_; refine blk_far ?_ (by have h_ := Kd.R_ne HO_3.out BK529.out (by decide); intro e_; exact h_ (by rw [e_]; rfl)) _; refine bd_ ?_; exact BK529.out⟩, ⟨by repeat (first | (with_reducible first | exact HB.out | apply below_alloc | apply pw_below_drewN | apply below_drew1 | refine below_set ?_ GB27.out | refine below_set ?_ GE523.out | refine below_set ?_ GE529.out) | exact HB.out)⟩⟩

end Go.Proofs.Ytjepmdngbafonaa.QFnSqueezed
