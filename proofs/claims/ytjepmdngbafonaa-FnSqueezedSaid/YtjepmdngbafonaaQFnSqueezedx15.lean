/- Contracts of functions that the law reaches: what each call returns and what it leaves in memory. Made by this session over the print of the kit. -/
import Derived.Test.YtjepmdngbafonaaQFnSqueezedx0
import Derived.Test.YtjepmdngbafonaaQFnSqueezedx3
import Derived.Test.YtjepmdngbafonaaQFnSqueezedx6
import Derived.Test.YtjepmdngbafonaaQFnSqueezedx14
import Derived.Test.YtjepmdngbafonaaQFnSqueezedx5
namespace Go.Proofs.Ytjepmdngbafonaa.QFnSqueezed
open Go.RowKit Go.Proofs.YtjepmdngbafonaaZ.PrintWords Go.Proofs.YtjepmdngbafonaaZ.PrintLast Go.Proofs.YtjepmdngbafonaaZ.PrintMore
attribute [local go_sem] max2_int min2_int max_two min_two max_three min_three max_four min_four   -- for this text's walks alone
set_option linter.unusedVariables false
set_option linter.unusedSimpArgs false
def ba15_0 := bs_ 9 0
def ba15_1 := bs_ 9 1
def ba15_2 := bs_ 9 3
def ba15_3 := bs_ 9 11
def ba15_4 := bs_ 9 15
def ba15_5 := bs_ 9 31
def ba15_6 := bs_ 9 63
def ba15_7 := bs_ 9 127
def ba15_8 := bs_ 9 255
def ba15_9 := bs_ 9 511

attribute [local go_sem high] eqA30
/-! ### impl_isUsed: function 96 -/
mutual
def impl_isUsed.l0 : Nat → Int → Int → List (S30) → Int → Int → Int → Int → Int → Option (Bool)
 | 0, _, _, _, _, _, _, _, _ => none
 | k + 1, x5, x6, x9, x10, x11, x398000, x398001, x398002 => if x11 < x10 then (if 0 ≤ x11 then (if x11 < (x9.length : Int) then (if ((!(((rd_T30 x9 x11).f0.f0) == x398000) || (!(((rd_T30 x9 x11).f0.f1) == x398001))) || (!(((rd_T30 x9 x11).f1) == x398002))) = true then ((impl_Prefix_covers.f x398000 x398001 ((rd_T30 x9 x11).f0.f0) ((rd_T30 x9 x11).f0.f1)).bind fun t401 => (if t401 = true then (impl_isUsed.j1 k x5 x6 x9 x10 x11 (decide (((rd_T30 x9 x11).f0.f0) > x6)) x398000 x398001 x398002 ((rd_T30 x9 x11).f0.f0) ((rd_T30 x9 x11).f0.f1) ((rd_T30 x9 x11).f1)) else (impl_isUsed.j1 k x5 x6 x9 x10 x11 false x398000 x398001 x398002 ((rd_T30 x9 x11).f0.f0) ((rd_T30 x9 x11).f0.f1) ((rd_T30 x9 x11).f1)))) else (impl_isUsed.j1 k x5 x6 x9 x10 x11 false x398000 x398001 x398002 ((rd_T30 x9 x11).f0.f0) ((rd_T30 x9 x11).f0.f1) ((rd_T30 x9 x11).f1))) else (none)) else (none)) else ((impl_Prefix_size.f x398000 x398001).bind fun t398 => (some (decide (x5 < t398))))
def impl_isUsed.j1 : Nat → Int → Int → List (S30) → Int → Int → Bool → Int → Int → Int → Int → Int → Int → Option (Bool)
 | 0, _, _, _, _, _, _, _, _, _, _, _, _ => none
 | k + 1, x5, x6, x9, x10, x11, x31, x398000, x398001, x398002, x401000, x401001, x401002 => if x31 = true then ((impl_Prefix_size.f x401000 x401001).bind fun t402 => ((impl_Prefix_size.f x401000 x401001).bind fun t403 => (impl_isUsed.l0 k (wrap64 (x5 + t402)) (wrap64 ((wrap64 (x401000 + t403)) - 1)) x9 x10 (wrap64 (x11 + 1)) x398000 x398001 x398002))) else (impl_isUsed.l0 k x5 x6 x9 x10 (wrap64 (x11 + 1)) x398000 x398001 x398002)
end
def impl_isUsed.f (k : Nat) (l0 : List (S30)) (a1_0 : Int) (a1_1 : Int) (a1_2 : Int) : Option (Bool) := impl_isUsed.l0 k 0 (-1) l0 (l0.length : Int) 0 a1_0 a1_1 a1_2
def impl_isUsed.T7 : Bool × List (List Nat × List Nat) := (true, [([], []), ([0], [0]), ([1], [1]), ([], []), ([3], [3]), ([4], [4]), ([2, 5], [2, 5]), ([6], [6]), ([7, 5, 0, 1, 2, 3, 4, 5, 6, 7], [7])])
def impl_isUsed.B7 : List Nat := [0, 1, 3, 0, 8, 24, 63, 127, 255]
theorem impl_isUsed.tab7 : rtab .any (opsOf Try.f96 7) = impl_isUsed.T7 := by kernel_rfl
theorem impl_isUsed.bits7 : waitsOk impl_isUsed.T7.2 impl_isUsed.B7 = true := by kernel_rfl
set_option maxHeartbeats 8000000 in
set_option maxRecDepth 100000 in
theorem impl_isUsed.calls (k : Nat) (A0 : Option Addr) (c0 : Nat) (l0 : List (S30)) (a1_0 : Int) (a1_1 : Int) (a1_2 : Int) (r : Bool) (w : World) (hr0 : Kd.C k30 w A0 l0.length l0) (hc0 : l0.length ≤ c0) (h : impl_isUsed.f k l0 a1_0 a1_1 a1_2 = some r) :
  Calls Try.prog 96 #[.slice A0 l0.length c0, .agg #[.int .i64 a1_0, .int .i64 a1_1, .int .i64 a1_2]] w fun e w' => e = .returned (.bool r) ∧ Below w.heap.size w w' := by
 have hu30 := Try.underlying30
 have hu28 := Try.underlying28
 have HR0 := Aside0.mk hr0
 have HC0 := Aside0.mk hc0
 clear hr0 hc0
 have HB := Aside0.mk (Below.refl w.heap.size w)
 have H : (impl_isUsed.l0 k 0 (-1) l0 (l0.length : Int) 0 a1_0 a1_1 a1_2) = some r := h
 clear h
 have H' := Aside0.mk H
 clear H
 go_enter Try.func96, Try.ntmps96
 go_wp2_with ((with_reducible refine gate_dst (N := 3) rfl ?_); refine be_ 3 #[.int .i64 a1_0, .int .i64 a1_1, .int .i64 a1_2] 30 ?_; intro gb397 hg w3 BK397 hb; have GW397 := ge_ HB hg; have GE397 := ge_ HB hg; replace HB := at_ HB hb; clear hb hg)
 go_loopg [5, 6, 11] k (fun kq v5 v6 v11 w' => ∃ (x5_1 : Int) (x6_1 : Int) (x11_1 : Int), v5 = .int .i64 x5_1 ∧ v6 = .int .i64 x6_1 ∧ v11 = .int .i64 x11_1 ∧ Aside0 (impl_isUsed.l0 kq x5_1 x6_1 l0 (l0.length : Int) x11_1 a1_0 a1_1 a1_2 = some r) ∧ Aside0 (kq ≤ k) ∧ Aside0 (w'.heap[gb397]? = some (.cells #[.int .i64 a1_0, .int .i64 a1_1, .int .i64 a1_2] 30 (0, 0))) ∧ Aside0 (Below w.heap.size w w'))
 case atStart => exact ⟨(0), ((-1)), (0), er_, er_, er_, H', ⟨Nat.le_refl _⟩, ⟨bx_ BK397⟩, ⟨bw112_⟩⟩
 case round =>
  clear H'
  obtain ⟨x5_1, x6_1, x11_1, rfl, rfl, rfl, HA, HK1, BK397, HB⟩ := hrel
  cases gk with
  | zero => exact absurd HA.out (by simp [impl_isUsed.l0])
  | succ k1 =>
   have H := HA.out
   clear HA
   simp only [impl_isUsed.l0] at H
   by_cases c4 : x11_1 < (l0.length : Int)
   rotate_left
   ·rw [if_neg c4] at H
    have c4b0 : decide (x11_1 < (l0.length : Int)) = false := decide_eq_false c4
    clear c4
    obtain ⟨t398, A34, H⟩ := ob_ H
    obtain rfl := Option.some.inj H
    have hcz35_0 := cz_ BK397 0 (.int .i64 a1_0)
    have hcz35_1 := cz_ BK397 1 (.int .i64 a1_1)
    have hcz35_2 := cz_ BK397 2 (.int .i64 a1_2)
    have hfz35_0 := fz_ BK397 0
    have hfz35_1 := fz_ BK397 1
    have hfz35_2 := fz_ BK397 2
    go_wp2_with ((with_reducible refine gate_callee (f := 69) rfl ?_); refine gl_ (some 49) Try.func69 #[.agg #[.int .i64 a1_0, .int .i64 a1_1]] ?_; (with_reducible refine (impl_Prefix_size.calls a1_0 a1_1 t398 _ A34.out).mono ?_); rintro e w36 ⟨rfl, hb⟩; refine ⟨_, rfl, ?_⟩; replace BK397 := ab_ BK397 hb; replace HB := at_ HB hb; clear hb)
    go_ret
    exact ⟨by first | rfl | (simp [errW_none, errW_some] <;> rfl) | (simp [*, errW_none, errW_some] <;> rfl), bw112_⟩
   rw [if_pos c4] at H
   have c4b0 : decide (x11_1 < (l0.length : Int)) = true := decide_eq_true c4
   clear c4
   obtain ⟨c5b0, H⟩ := iq_ H
   obtain ⟨c6b0, H⟩ := iq_ H
   have HC7 := Aside0.mk H
   clear H
   have p399 : 0 ≤ (x11_1 : Int) := oa_
   have q399 : x11_1 < (l0.length : Int) := oa_
   obtain ⟨ad399, e399, hx399_0, hx399_1, hx399_2⟩ := at_T30 HR0.out x11_1 p399 q399
   cases e399
   replace hx399_0 := hc5_ HB hx399_0
   replace hx399_1 := hc5_ HB hx399_1
   replace hx399_2 := hc5_ HB hx399_2
   obtain ⟨p399, q399⟩ := et_ p399 q399
   go_upto_region 5 with ((with_reducible refine gate_dst (N := 8) rfl ?_); refine be_ 8 #[.int .i64 0, .int .i64 0, .int .i64 0] 30 ?_; intro gb400 hg w8 BK400 hb; have GW400 := ge_ HB hg; have GE400 := ge_ HB hg; have NB397_400 := nl_ BK397 hg; have NB400_397 := ng_ BK397 hg; replace HB := at_ HB hb; replace BK397 := ab_ BK397 hb; clear hb hg; have hnb9 := NB400_397.out; have hnc9 := NB397_400.out; have hcz10_0 := cz_ BK400 0 (.int .i64 0); have hcz10_1 := cz_ BK400 1 (.int .i64 0); have hcz10_2 := cz_ BK400 2 (.int .i64 0); have hfz10_0 := fz_ BK400 0; have hfz10_1 := fz_ BK400 1; have hfz10_2 := fz_ BK400 2)
   (try simp only [Act.put, List.setIfInBounds_toArray, List.set_cons_zero, List.set_cons_succ])
   go_cut [31] (fun v31 wc => ∃ (kq : Nat) (x31_6 : Bool), v31 = .bool x31_6 ∧ Aside0 (impl_isUsed.j1 kq x5_1 x6_1 l0 (l0.length : Int) x11_1 x31_6 a1_0 a1_1 a1_2 ((rd_T30 l0 x11_1).f0.f0) ((rd_T30 l0 x11_1).f0.f1) ((rd_T30 l0 x11_1).f1) = some r) ∧ Aside0 (kq ≤ k1) ∧ Aside0 (wc.heap[gb397]? = some (.cells #[.int .i64 a1_0, .int .i64 a1_1, .int .i64 a1_2] 30 (0, 0))) ∧ Aside0 (wc.heap[gb400]? = some (.cells #[.int .i64 ((rd_T30 l0 x11_1).f0.f0), .int .i64 ((rd_T30 l0 x11_1).f0.f1), .int .i64 ((rd_T30 l0 x11_1).f1)] 30 (0, 0))) ∧ Aside0 (Below w.heap.size w wc))
   case first =>
    have H := HC7.out
    clear HC7
    by_cases c11 : ((!(((rd_T30 l0 x11_1).f0.f0) == a1_0) || (!(((rd_T30 l0 x11_1).f0.f1) == a1_1))) || (!(((rd_T30 l0 x11_1).f1) == a1_2))) = true
    rotate_left
    ·rw [if_neg c11] at H
     have c11b0 : ((!(((rd_T30 l0 x11_1).f0.f0) == a1_0) || (!(((rd_T30 l0 x11_1).f0.f1) == a1_1))) || (!(((rd_T30 l0 x11_1).f1) == a1_2))) = false := by simpa using c11
     clear c11
     (first | rw [c11b0] | (simp only [i64_w, i32_w]; rw [c11b0]) | skip)
     have H' := Aside0.mk H
     clear H
     have hnb23 := NB400_397.out
     have hnc23 := NB397_400.out
     have hcz24_0 := cz_ BK400 0 (.int .i64 0)
     have hcz24_1 := cz_ BK400 1 (.int .i64 0)
     have hcz24_2 := cz_ BK400 2 (.int .i64 0)
     have hfz24_0 := fz_ BK400 0
     have hfz24_1 := fz_ BK400 1
     have hfz24_2 := fz_ BK400 2
     have hcz25_0 := cz_ BK397 0 (.int .i64 a1_0)
     have hcz25_1 := cz_ BK397 1 (.int .i64 a1_1)
     have hcz25_2 := cz_ BK397 2 (.int .i64 a1_2)
     have hfz25_0 := fz_ BK397 0
     have hfz25_1 := fz_ BK397 1
     have hfz25_2 := fz_ BK397 2
     go_wp2
     go_meet
     case rel => exact ⟨_, (false), er_, H', ⟨by have := HK1.out; first | omega | exact Nat.le_refl _⟩, ⟨bc_ BK397⟩, ⟨by refine bd_ ?_; refine blk_put (cs := #[.int .i64 ((rd_T30 l0 x11_1).f0.f0), .int .i64 ((rd_T30 l0 x11_1).f0.f1), .int .i64 0]) ?_ 2 _ rfl; refine bd_ ?_; refine blk_put (cs := #[.int .i64 ((rd_T30 l0 x11_1).f0.f0), .int .i64 0, .int .i64 0]) ?_ 1 _ rfl; refine bd_ ?_; refine blk_put (cs := #[.int .i64 0, .int .i64 0, .int .i64 0]) ?_ 0 _ rfl; refine bd_ ?_; exact BK400.out⟩, ⟨bw112_⟩⟩
    rw [if_pos c11] at H
    have c11b0 : ((!(((rd_T30 l0 x11_1).f0.f0) == a1_0) || (!(((rd_T30 l0 x11_1).f0.f1) == a1_1))) || (!(((rd_T30 l0 x11_1).f1) == a1_2))) = true := c11
    clear c11
    (first | rw [c11b0] | (simp only [i64_w, i32_w]; rw [c11b0]) | skip)
    obtain ⟨t401, A12, H⟩ := ob_ H
    by_cases c13 : t401 = true
    ·subst c13
     rw [if_pos rfl] at H
     have H' := Aside0.mk H
     clear H
     have hnb14 := NB400_397.out
     have hnc14 := NB397_400.out
     have hcz15_0 := cz_ BK400 0 (.int .i64 0)
     have hcz15_1 := cz_ BK400 1 (.int .i64 0)
     have hcz15_2 := cz_ BK400 2 (.int .i64 0)
     have hfz15_0 := fz_ BK400 0
     have hfz15_1 := fz_ BK400 1
     have hfz15_2 := fz_ BK400 2
     have hcz16_0 := cz_ BK397 0 (.int .i64 a1_0)
     have hcz16_1 := cz_ BK397 1 (.int .i64 a1_1)
     have hcz16_2 := cz_ BK397 2 (.int .i64 a1_2)
     have hfz16_0 := fz_ BK397 0
     have hfz16_1 := fz_ BK397 1
     have hfz16_2 := fz_ BK397 2
     go_wp2_with (go_at_call 78; (with_reducible refine (impl_Prefix_covers.calls a1_0 a1_1 ((rd_T30 l0 x11_1).f0.f0) ((rd_T30 l0 x11_1).f0.f1) true _ A12.out).mono ?_); rintro e w17 ⟨rfl, hb⟩; replace BK397 := bf_ BK397 NB397_400 hb; replace BK400 := Aside0.mk (blk_below (g := gb400) (o := .cells #[.int .i64 ((rd_T30 l0 x11_1).f0.f0), .int .i64 ((rd_T30 l0 x11_1).f0.f1), .int .i64 ((rd_T30 l0 x11_1).f1)] 30 (0, 0)) (by refine bd_ ?_; refine blk_put (cs := #[.int .i64 ((rd_T30 l0 x11_1).f0.f0), .int .i64 ((rd_T30 l0 x11_1).f0.f1), .int .i64 0]) ?_ 2 _ rfl; refine bd_ ?_; refine blk_put (cs := #[.int .i64 ((rd_T30 l0 x11_1).f0.f0), .int .i64 0, .int .i64 0]) ?_ 1 _ rfl; refine bd_ ?_; refine blk_put (cs := #[.int .i64 0, .int .i64 0, .int .i64 0]) ?_ 0 _ rfl; refine bd_ ?_; exact BK400.out) hb); replace HB := at_ HB hb; clear hb; have hcz18_0 := cz_ BK400 0 (.int .i64 ((rd_T30 l0 x11_1).f0.f0)); have hcz18_1 := cz_ BK400 1 (.int .i64 ((rd_T30 l0 x11_1).f0.f1)); have hcz18_2 := cz_ BK400 2 (.int .i64 ((rd_T30 l0 x11_1).f1)); have hfz18_0 := fz_ BK400 0; have hfz18_1 := fz_ BK400 1; have hfz18_2 := fz_ BK400 2)
     go_meet
     case rel => exact ⟨_, (decide (((rd_T30 l0 x11_1).f0.f0) > x6_1)), er_, H', ⟨by have := HK1.out; first | omega | exact Nat.le_refl _⟩, ⟨bx_ BK397⟩, ⟨bx_ BK400⟩, ⟨bw112_⟩⟩
    replace c13 := Bool.eq_false_iff.mpr c13
    subst c13
    rw [if_neg (show ¬ (false = true) by decide)] at H
    have H' := Aside0.mk H
    clear H
    have hnb19 := NB400_397.out
    have hnc19 := NB397_400.out
    have hcz20_0 := cz_ BK400 0 (.int .i64 0)
    have hcz20_1 := cz_ BK400 1 (.int .i64 0)
    have hcz20_2 := cz_ BK400 2 (.int .i64 0)
    have hfz20_0 := fz_ BK400 0
    have hfz20_1 := fz_ BK400 1
    have hfz20_2 := fz_ BK400 2
    have hcz21_0 := cz_ BK397 0 (.int .i64 a1_0)
    have hcz21_1 := cz_ BK397 1 (.int .i64 a1_1)
    have hcz21_2 := cz_ BK397 2 (.int .i64 a1_2)
    have hfz21_0 := fz_ BK397 0
    have hfz21_1 := fz_ BK397 1
    have hfz21_2 := fz_ BK397 2
    go_wp2_with (go_at_call 78; (with_reducible refine (impl_Prefix_covers.calls a1_0 a1_1 ((rd_T30 l0 x11_1).f0.f0) ((rd_T30 l0 x11_1).f0.f1) false _ A12.out).mono ?_); rintro e w22 ⟨rfl, hb⟩; replace BK397 := bf_ BK397 NB397_400 hb; replace BK400 := Aside0.mk (blk_below (g := gb400) (o := .cells #[.int .i64 ((rd_T30 l0 x11_1).f0.f0), .int .i64 ((rd_T30 l0 x11_1).f0.f1), .int .i64 ((rd_T30 l0 x11_1).f1)] 30 (0, 0)) (by refine bd_ ?_; refine blk_put (cs := #[.int .i64 ((rd_T30 l0 x11_1).f0.f0), .int .i64 ((rd_T30 l0 x11_1).f0.f1), .int .i64 0]) ?_ 2 _ rfl; refine bd_ ?_; refine blk_put (cs := #[.int .i64 ((rd_T30 l0 x11_1).f0.f0), .int .i64 0, .int .i64 0]) ?_ 1 _ rfl; refine bd_ ?_; refine blk_put (cs := #[.int .i64 0, .int .i64 0, .int .i64 0]) ?_ 0 _ rfl; refine bd_ ?_; exact BK400.out) hb); replace HB := at_ HB hb; clear hb)
    go_meet
    case rel => exact ⟨_, (false), er_, H', ⟨by have := HK1.out; first | omega | exact Nat.le_refl _⟩, ⟨bx_ BK397⟩, ⟨bx_ BK400⟩, ⟨bw112_⟩⟩
   case rest =>
    clear HC7 c4b0 c5b0 c6b0 hcz10_0 hcz10_1 hcz10_2 hfz10_0 hfz10_1 hfz10_2 hx399_0 hx399_1 hx399_2 p399 q399
    obtain ⟨kq, x31_6, rfl, HA, HJ6, BK397, BK400, HB⟩ := hcut
    cases kq with
    | zero => exact absurd HA.out (by simp [impl_isUsed.j1])
    | succ kj6 =>
     have H := HA.out
     clear HA
     simp only [impl_isUsed.j1] at H
     by_cases c26 : x31_6 = true
     rotate_left
     ·replace c26 := Bool.eq_false_iff.mpr c26
      subst c26
      rw [if_neg (show ¬ (false = true) by decide)] at H
      have H' := Aside0.mk H
      clear H
      go_wp2
      go_roundg kj6
      case measure => have := HK1.out; have := HJ6.out; omega
      case rel => exact ⟨(x5_1), (x6_1), (wrap64 (x11_1 + 1)), er_, er_, er_, H', ⟨by have := HK1.out; have := HJ6.out; omega⟩, ⟨bx_ BK397⟩, ⟨bw112_⟩⟩
     subst c26
     rw [if_pos rfl] at H
     obtain ⟨t402, A27, H⟩ := ob_ H
     obtain ⟨t403, A28, H⟩ := ob_ H
     have H' := Aside0.mk H
     clear H
     have hnb29 := NB400_397.out
     have hnc29 := NB397_400.out
     have hcz30_0 := cz_ BK400 0 (.int .i64 ((rd_T30 l0 x11_1).f0.f0))
     have hcz30_1 := cz_ BK400 1 (.int .i64 ((rd_T30 l0 x11_1).f0.f1))
     have hcz30_2 := cz_ BK400 2 (.int .i64 ((rd_T30 l0 x11_1).f1))
     have hfz30_0 := fz_ BK400 0
     have hfz30_1 := fz_ BK400 1
     have hfz30_2 := fz_ BK400 2
     try go_wp2_with ((with_reducible refine gate_callee (f := 69) rfl ?_); refine gl_ (some 35) Try.func69 #[.agg #[.int .i64 ((rd_T30 l0 x11_1).f0.f0), .int .i64 ((rd_T30 l0 x11_1).f0.f1)]] ?_; (with_reducible refine (impl_Prefix_size.calls ((rd_T30 l0 x11_1).f0.f0) ((rd_T30 l0 x11_1).f0.f1) t402 _ A27.out).mono ?_); rintro e w31 ⟨rfl, hb⟩; refine ⟨_, rfl, ?_⟩; replace BK397 := ab_ BK397 hb; replace BK400 := ab_ BK400 hb; replace HB := at_ HB hb; clear hb)
     replace BK397 := ad_ BK397
     replace BK400 := ad_ BK400
     replace HB := Aside0.mk (below_drew1 HB.out)
     refine start_ (n := 9) (S := fun w' => w'.cell? ⟨gb400, 0, none⟩ = some (.int .i64 ((rd_T30 l0 x11_1).f0.f0)) ∧ w'.cell? ⟨gb400, 1, none⟩ = some (.int .i64 ((rd_T30 l0 x11_1).f0.f1)) ∧ w'.cell? ⟨gb400, 2, none⟩ = some (.int .i64 ((rd_T30 l0 x11_1).f1))) (ds := []) ba15_0 (by kernel_rfl) rfl rfl ⟨bq5_ BK400 0, bq5_ BK400 1, bq5_ BK400 2⟩ (fun hHeld => ?_); refine with_tabW impl_isUsed.tab7 impl_isUsed.bits7 (fun HT_ HW_ => ?_)
     generalize w31.drew = w32 at BK397 BK400 HB hHeld ⊢
     refine pz_ 0 37 ba15_1 HT_ ?_
     refine pz_ 1 38 ba15_2 HT_ ?_
     refine pz_ 3 40 ba15_3 HT_ ?_
     refine pt_ 2 39 ba15_4 HT_ HW_ hHeld ?_
     refine pt_ 4 41 ba15_5 HT_ HW_ hHeld ?_
     refine on_ 5 (some 42) ba15_6 HT_ (fun K hK => ?_)
     refine gz_ Try.func69 #[.agg #[.int .i64 ((rd_T30 l0 x11_1).f0.f0), .int .i64 ((rd_T30 l0 x11_1).f0.f1)]] ?_
     with_reducible refine (impl_Prefix_size.calls ((rd_T30 l0 x11_1).f0.f0) ((rd_T30 l0 x11_1).f0.f1) t403 _ A28.out).mono ?_
     rintro e w33 ⟨rfl, hb⟩
     refine ⟨_, rfl, ?_⟩
     replace BK397 := ab_ BK397 hb
     replace BK400 := ab_ BK400 hb
     replace HB := at_ HB hb
     clear hb
     refine hK.out _ _ ⟨bq5_ BK400 0, bq5_ BK400 1, bq5_ BK400 2⟩ (fun hHeld => ?_)
     clear hK K
     refine nz_ 42 ?_
     refine pz_ 6 43 ba15_7 HT_ ?_
     refine pz_ 7 44 ba15_8 HT_ ?_
     refine pz_ 8 6 ba15_9 HT_ ?_
     refine done_ (done_of HT_.out (by kernel_rfl)) ?_
     go_wp2
     go_roundg kj6
     case measure => have := HK1.out; have := HJ6.out; omega
     case rel => exact ⟨(wrap64 (x5_1 + t402)), (wrap64 ((wrap64 (((rd_T30 l0 x11_1).f0.f0) + t403)) - 1)), (wrap64 (x11_1 + 1)), er_, er_, er_, H', ⟨by have := HK1.out; have := HJ6.out; omega⟩, ⟨bx_ BK397⟩, ⟨bw112_⟩⟩

/-! ### impl_isRedundant_1: function 98 -/
def impl_isRedundant_1.f (a0_0 : Int) (a0_1 : Int) (a0_2 : Int) (l1 : List (S30)) : Option (Bool) := if 0 < (l1.length : Int) then ((impl_Prefix_covers.f a0_0 a0_1 ((rd_T30 l1 0).f0.f0) ((rd_T30 l1 0).f0.f1)).bind fun t406 => (if t406 = true then (some ((a0_0 == ((rd_T30 l1 0).f0.f0) && (a0_1 == ((rd_T30 l1 0).f0.f1))) && (a0_2 == ((rd_T30 l1 0).f1)))) else (some true))) else (none)
set_option maxHeartbeats 8000000 in
set_option maxRecDepth 100000 in
theorem impl_isRedundant_1.calls (a0_0 : Int) (a0_1 : Int) (a0_2 : Int) (A1 : Option Addr) (l1 : List (S30)) (r : Bool) (w : World) (hr1 : Kd.C k30 w A1 l1.length l1) (h : impl_isRedundant_1.f a0_0 a0_1 a0_2 l1 = some r) :
  Calls Try.prog 98 #[.agg #[.int .i64 a0_0, .int .i64 a0_1, .int .i64 a0_2], .pointer A1] w fun e w' => e = .returned (.bool r) ∧ Below w.heap.size w w' := by
 have hu30 := Try.underlying30
 have hu28 := Try.underlying28
 have HR1 := Aside0.mk hr1
 clear hr1
 have HB := Aside0.mk (Below.refl w.heap.size w)
 have H : (if 0 < (l1.length : Int) then ((impl_Prefix_covers.f a0_0 a0_1 ((rd_T30 l1 0).f0.f0) ((rd_T30 l1 0).f0.f1)).bind fun t406 => (if t406 = true then (some ((a0_0 == ((rd_T30 l1 0).f0.f0) && (a0_1 == ((rd_T30 l1 0).f0.f1))) && (a0_2 == ((rd_T30 l1 0).f1)))) else (some true))) else (none)) = some r := h
 clear h
 by_cases c3 : 0 < (l1.length : Int)
 rotate_left
 ·rw [if_neg c3] at H
  exact absurd H (by simp)
 rw [if_pos c3] at H
 have c3b0 : decide (0 < (l1.length : Int)) = true := decide_eq_true c3
 have c3b1 : decide (0 < l1.length) = true := decide_eq_true (by omega)
 clear c3
 obtain ⟨t406, A4, H⟩ := ob_ H
 by_cases c5 : t406 = true
 ·subst c5
  rw [if_pos rfl] at H
  obtain rfl := Option.some.inj H
  go_enter Try.func98, Try.ntmps98
  go_wp2_with (first | ((with_reducible refine gate_dst (N := 2) rfl ?_); refine be_ 2 #[.int .i64 a0_0, .int .i64 a0_1, .int .i64 a0_2] 30 ?_; intro gb404 hg w6 BK404 hb; have GW404 := ge_ HB hg; have GE404 := ge_ HB hg; replace HB := at_ HB hb; clear hb hg; have hcz7_0 := cz_ BK404 0 (.int .i64 a0_0); have hcz7_1 := cz_ BK404 1 (.int .i64 a0_1); have hcz7_2 := cz_ BK404 2 (.int .i64 a0_2); have hfz7_0 := fz_ BK404 0; have hfz7_1 := fz_ BK404 1; have hfz7_2 := fz_ BK404 2; have p405 : 0 ≤ (0 : Int) := (by omega); have q405 : 0 < (l1.length : Int) := oa_; obtain ⟨ad405, e405, hx405_0, hx405_1, hx405_2⟩ := at_T30 HR1.out 0 p405 q405; cases e405; have qi405 : (0 < l1.length) = True := eq_true (by omega); (try rw [show ((0 : Int)).toNat = 0 from rfl] at hx405_0); (try rw [show 0 * 3 = 0 from rfl] at hx405_0); (try rw [Addr.add_zero'] at hx405_0); (try rw [show ((0 : Int)).toNat = 0 from rfl] at hx405_1); (try rw [show 0 * 3 = 0 from rfl] at hx405_1); (try rw [Addr.add_zero'] at hx405_1); (try rw [show ((0 : Int)).toNat = 0 from rfl] at hx405_2); (try rw [show 0 * 3 = 0 from rfl] at hx405_2); (try rw [Addr.add_zero'] at hx405_2); replace hx405_0 := hc5_ HB hx405_0; replace hx405_1 := hc5_ HB hx405_1; replace hx405_2 := hc5_ HB hx405_2; obtain ⟨p405, q405⟩ := et_ p405 q405) | ((with_reducible refine gate_callee (f := 78) rfl ?_); refine gl_ (some 8) Try.func78 #[.agg #[.int .i64 a0_0, .int .i64 a0_1], .agg #[.int .i64 ((rd_T30 l1 0).f0.f0), .int .i64 ((rd_T30 l1 0).f0.f1)]] ?_; (with_reducible refine (impl_Prefix_covers.calls a0_0 a0_1 ((rd_T30 l1 0).f0.f0) ((rd_T30 l1 0).f0.f1) true _ A4.out).mono ?_); rintro e w8 ⟨rfl, hb⟩; refine ⟨_, rfl, ?_⟩; replace BK404 := ab_ BK404 hb; replace HB := at_ HB hb; clear hb; have hcz9_0 := cz_ BK404 0 (.int .i64 a0_0); have hcz9_1 := cz_ BK404 1 (.int .i64 a0_1); have hcz9_2 := cz_ BK404 2 (.int .i64 a0_2); have hfz9_0 := fz_ BK404 0; have hfz9_1 := fz_ BK404 1; have hfz9_2 := fz_ BK404 2; have p407 : 0 ≤ (0 : Int) := (by omega); have q407 : 0 < (l1.length : Int) := oa_; obtain ⟨ad407, e407, hx407_0, hx407_1, hx407_2⟩ := at_T30 HR1.out 0 p407 q407; obtain rfl : ad405 = ad407 := (by injection e407); have qi407 : (0 < l1.length) = True := eq_true (by omega); (try rw [show ((0 : Int)).toNat = 0 from rfl] at hx407_0); (try rw [show 0 * 3 = 0 from rfl] at hx407_0); (try rw [Addr.add_zero'] at hx407_0); (try rw [show ((0 : Int)).toNat = 0 from rfl] at hx407_1); (try rw [show 0 * 3 = 0 from rfl] at hx407_1); (try rw [Addr.add_zero'] at hx407_1); (try rw [show ((0 : Int)).toNat = 0 from rfl] at hx407_2); (try rw [show 0 * 3 = 0 from rfl] at hx407_2); (try rw [Addr.add_zero'] at hx407_2); replace hx407_0 := hc5_ HB hx407_0; replace hx407_1 := hc5_ HB hx407_1; replace hx407_2 := hc5_ HB hx407_2; obtain ⟨p407, q407⟩ := et_ p407 q407))
  go_ret
  exact ⟨by first | rfl | (simp [errW_none, errW_some] <;> rfl) | (simp [*, errW_none, errW_some] <;> rfl), bw112_⟩
 replace c5 := Bool.eq_false_iff.mpr c5
 subst c5
 rw [if_neg (show ¬ (false = true) by decide)] at H
 obtain rfl := Option.some.inj H
 go_enter Try.func98, Try.ntmps98
 go_wp2_with (first | ((with_reducible refine gate_dst (N := 2) rfl ?_); refine be_ 2 #[.int .i64 a0_0, .int .i64 a0_1, .int .i64 a0_2] 30 ?_; intro gb404 hg w10 BK404 hb; have GW404 := ge_ HB hg; have GE404 := ge_ HB hg; replace HB := at_ HB hb; clear hb hg; have hcz11_0 := cz_ BK404 0 (.int .i64 a0_0); have hcz11_1 := cz_ BK404 1 (.int .i64 a0_1); have hcz11_2 := cz_ BK404 2 (.int .i64 a0_2); have hfz11_0 := fz_ BK404 0; have hfz11_1 := fz_ BK404 1; have hfz11_2 := fz_ BK404 2; have p405 : 0 ≤ (0 : Int) := (by omega); have q405 : 0 < (l1.length : Int) := oa_; obtain ⟨ad405, e405, hx405_0, hx405_1, hx405_2⟩ := at_T30 HR1.out 0 p405 q405; cases e405; have qi405 : (0 < l1.length) = True := eq_true (by omega); (try rw [show ((0 : Int)).toNat = 0 from rfl] at hx405_0); (try rw [show 0 * 3 = 0 from rfl] at hx405_0); (try rw [Addr.add_zero'] at hx405_0); (try rw [show ((0 : Int)).toNat = 0 from rfl] at hx405_1); (try rw [show 0 * 3 = 0 from rfl] at hx405_1); (try rw [Addr.add_zero'] at hx405_1); (try rw [show ((0 : Int)).toNat = 0 from rfl] at hx405_2); (try rw [show 0 * 3 = 0 from rfl] at hx405_2); (try rw [Addr.add_zero'] at hx405_2); replace hx405_0 := hc5_ HB hx405_0; replace hx405_1 := hc5_ HB hx405_1; replace hx405_2 := hc5_ HB hx405_2; obtain ⟨p405, q405⟩ := et_ p405 q405) | ((with_reducible refine gate_callee (f := 78) rfl ?_); refine gl_ (some 8) Try.func78 #[.agg #[.int .i64 a0_0, .int .i64 a0_1], .agg #[.int .i64 ((rd_T30 l1 0).f0.f0), .int .i64 ((rd_T30 l1 0).f0.f1)]] ?_; (with_reducible refine (impl_Prefix_covers.calls a0_0 a0_1 ((rd_T30 l1 0).f0.f0) ((rd_T30 l1 0).f0.f1) false _ A4.out).mono ?_); rintro e w12 ⟨rfl, hb⟩; refine ⟨_, rfl, ?_⟩; replace BK404 := ab_ BK404 hb; replace HB := at_ HB hb; clear hb))
 go_ret
 exact ⟨by first | rfl | (simp [errW_none, errW_some] <;> rfl) | (simp [*, errW_none, errW_some] <;> rfl), bw112_⟩

/-! ### slices_IndexFunc_impl_Route_impl_Route: function 109 -/
def slices_IndexFunc_impl_Route_impl_Route.l0 : Nat → List (S30) → Int → Int → List (S30) → Option (Int)
 | 0, _, _, _, _ => none
 | k + 1, x0, x7, x8, x910 => if x8 < x7 then (if 0 ≤ x8 then (if x8 < (x0.length : Int) then ((impl_isRedundant_1.f ((rd_T30 x0 x8).f0.f0) ((rd_T30 x0 x8).f0.f1) ((rd_T30 x0 x8).f1) x910).bind fun t409 => (if t409 = true then (some x8) else (slices_IndexFunc_impl_Route_impl_Route.l0 k x0 x7 (wrap64 (x8 + 1)) x910))) else (none)) else (none)) else (some (-1))
def slices_IndexFunc_impl_Route_impl_Route.f (k : Nat) (l0 : List (S30)) (l1_0 : List (S30)) : Option (Int) := slices_IndexFunc_impl_Route_impl_Route.l0 k l0 (l0.length : Int) 0 l1_0
set_option maxHeartbeats 8000000 in
set_option maxRecDepth 100000 in
theorem slices_IndexFunc_impl_Route_impl_Route.calls (k : Nat) (A0 : Option Addr) (c0 : Nat) (l0 : List (S30)) (A1_0 : Option Addr) (l1_0 : List (S30)) (r : Int) (w : World) (hr0 : Kd.C k30 w A0 l0.length l0) (hc0 : l0.length ≤ c0) (hr1_0 : Kd.C k30 w A1_0 l1_0.length l1_0) (h : slices_IndexFunc_impl_Route_impl_Route.f k l0 l1_0 = some r) :
  Calls Try.prog 109 #[.slice A0 l0.length c0, .func (.func 98) #[] #[.pointer A1_0]] w fun e w' => e = .returned (.int .i64 r) ∧ Below w.heap.size w w' := by
 have hu30 := Try.underlying30
 have HR0 := Aside0.mk hr0
 have HC0 := Aside0.mk hc0
 clear hr0 hc0
 have HR1_0 := Aside0.mk hr1_0
 clear hr1_0
 have HB := Aside0.mk (Below.refl w.heap.size w)
 have H : (slices_IndexFunc_impl_Route_impl_Route.l0 k l0 (l0.length : Int) 0 l1_0) = some r := h
 clear h
 have H' := Aside0.mk H
 clear H
 go_enter Try.func109, Try.ntmps109
 go_wp2
 go_loopg [8] k (fun kq v8 w' => ∃ (x8_1 : Int), v8 = .int .i64 x8_1 ∧ Aside0 (slices_IndexFunc_impl_Route_impl_Route.l0 kq l0 (l0.length : Int) x8_1 l1_0 = some r) ∧ Aside0 (kq ≤ k) ∧ Aside0 (Below w.heap.size w w'))
 case atStart => exact ⟨(0), er_, H', ⟨Nat.le_refl _⟩, ⟨bw112_⟩⟩
 case round =>
  clear H'
  obtain ⟨x8_1, rfl, HA, HK1, HB⟩ := hrel
  cases gk with
  | zero => exact absurd HA.out (by simp [slices_IndexFunc_impl_Route_impl_Route.l0])
  | succ k1 =>
   have H := HA.out
   clear HA
   simp only [slices_IndexFunc_impl_Route_impl_Route.l0] at H
   by_cases c3 : x8_1 < (l0.length : Int)
   rotate_left
   ·rw [if_neg c3] at H
    have c3b0 : decide (x8_1 < (l0.length : Int)) = false := decide_eq_false c3
    clear c3
    obtain rfl := Option.some.inj H
    go_wp2
    go_ret
    exact ⟨by first | rfl | (simp [errW_none, errW_some] <;> rfl) | (simp [*, errW_none, errW_some] <;> rfl), bw112_⟩
   rw [if_pos c3] at H
   have c3b0 : decide (x8_1 < (l0.length : Int)) = true := decide_eq_true c3
   clear c3
   obtain ⟨c4b0, H⟩ := iq_ H
   obtain ⟨c5b0, H⟩ := iq_ H
   obtain ⟨t409, A6, H⟩ := ob_ H
   by_cases c7 : t409 = true
   ·subst c7
    rw [if_pos rfl] at H
    obtain rfl := Option.some.inj H
    have p408 : 0 ≤ (x8_1 : Int) := oa_
    have q408 : x8_1 < (l0.length : Int) := oa_
    obtain ⟨ad408, e408, hx408_0, hx408_1, hx408_2⟩ := at_T30 HR0.out x8_1 p408 q408
    cases e408
    replace hx408_0 := hc5_ HB hx408_0
    replace hx408_1 := hc5_ HB hx408_1
    replace hx408_2 := hc5_ HB hx408_2
    obtain ⟨p408, q408⟩ := et_ p408 q408
    go_wp2_with ((with_reducible refine gate_dst (N := 16) rfl ?_); refine goesTc_ (some 16) rfl rfl Try.func98 (by kernel_rfl) rfl #[.agg #[.int .i64 ((rd_T30 l0 x8_1).f0.f0), .int .i64 ((rd_T30 l0 x8_1).f0.f1), .int .i64 ((rd_T30 l0 x8_1).f1)], .pointer A1_0] rfl (by (try simp only [List.map_toArray, List.map_cons, List.map_nil]); first | done | rfl | (simp only [List.length_drop, List.length_take]; rfl)) ?_; (with_reducible refine (impl_isRedundant_1.calls ((rd_T30 l0 x8_1).f0.f0) ((rd_T30 l0 x8_1).f0.f1) ((rd_T30 l0 x8_1).f1) _ l1_0 true _ ?side1 A6.out).mono ?_); (case side1 => exact cb_ HR1_0 HB); rintro e w8 ⟨rfl, hb⟩; refine ⟨_, rfl, ?_⟩; replace HB := at_ HB hb; clear hb)
    go_ret
    exact ⟨by first | rfl | (simp [errW_none, errW_some] <;> rfl) | (simp [*, errW_none, errW_some] <;> rfl), bw112_⟩
   replace c7 := Bool.eq_false_iff.mpr c7
   subst c7
   rw [if_neg (show ¬ (false = true) by decide)] at H
   have H' := Aside0.mk H
   clear H
   have p408 : 0 ≤ (x8_1 : Int) := oa_
   have q408 : x8_1 < (l0.length : Int) := oa_
   obtain ⟨ad408, e408, hx408_0, hx408_1, hx408_2⟩ := at_T30 HR0.out x8_1 p408 q408
   cases e408
   replace hx408_0 := hc5_ HB hx408_0
   replace hx408_1 := hc5_ HB hx408_1
   replace hx408_2 := hc5_ HB hx408_2
   obtain ⟨p408, q408⟩ := et_ p408 q408
   go_wp2_with ((with_reducible refine gate_dst (N := 16) rfl ?_); refine goesTc_ (some 16) rfl rfl Try.func98 (by kernel_rfl) rfl #[.agg #[.int .i64 ((rd_T30 l0 x8_1).f0.f0), .int .i64 ((rd_T30 l0 x8_1).f0.f1), .int .i64 ((rd_T30 l0 x8_1).f1)], .pointer A1_0] rfl (by (try simp only [List.map_toArray, List.map_cons, List.map_nil]); first | done | rfl | (simp only [List.length_drop, List.length_take]; rfl)) ?_; (with_reducible refine (impl_isRedundant_1.calls ((rd_T30 l0 x8_1).f0.f0) ((rd_T30 l0 x8_1).f0.f1) ((rd_T30 l0 x8_1).f1) _ l1_0 false _ ?side1 A6.out).mono ?_); (case side1 => exact cb_ HR1_0 HB); rintro e w9 ⟨rfl, hb⟩; refine ⟨_, rfl, ?_⟩; replace HB := at_ HB hb; clear hb)
   go_roundg k1
   case measure => have := HK1.out; omega
   case rel => exact ⟨(wrap64 (x8_1 + 1)), er_, H', ⟨by have := HK1.out; omega⟩, ⟨bw112_⟩⟩

/-! ### slices_DeleteFunc_impl_Route_impl_Route: function 97 -/
def slices_DeleteFunc_impl_Route_impl_Route.l0 : Nat → List (S30) → Int → Int → List (S30) → Option ((List (S30)))
 | 0, _, _, _, _ => none
 | k + 1, x0, x5, x6, x910 => if x6 < (x0.length : Int) then (if 0 ≤ x6 then ((impl_isRedundant_1.f ((rd_T30 x0 x6).f0.f0) ((rd_T30 x0 x6).f0.f1) ((rd_T30 x0 x6).f1) x910).bind fun t413 => (if t413 = true then (slices_DeleteFunc_impl_Route_impl_Route.l0 k x0 x5 (wrap64 (x6 + 1)) x910) else (if 0 ≤ x5 then (if x5 < (x0.length : Int) then (slices_DeleteFunc_impl_Route_impl_Route.l0 k (x0.set (x5 : Int).toNat (⟨(⟨(rd_T30 x0 x6).f0.f0, (rd_T30 x0 x6).f0.f1⟩ : S28), (rd_T30 x0 x6).f1⟩ : S30)) (wrap64 (x5 + 1)) (wrap64 (x6 + 1)) x910) else (none)) else (none)))) else (none)) else (if 0 ≤ x5 then (if x5 ≤ (x0.length : Int) then (some ((x0.take (x5 : Int).toNat ++ List.replicate (x0.length - (x5 : Int).toNat) z30).take (x5 : Int).toNat)) else (none)) else (none))
def slices_DeleteFunc_impl_Route_impl_Route.f (k : Nat) (l0 : List (S30)) (l1_0 : List (S30)) : Option ((List (S30))) := (slices_IndexFunc_impl_Route_impl_Route.f k l0 l1_0).bind fun t410 => (if t410 = (-1) then (some l0) else (slices_DeleteFunc_impl_Route_impl_Route.l0 k l0 t410 (wrap64 (t410 + 1)) l1_0))
set_option maxHeartbeats 8000000 in
set_option maxRecDepth 100000 in
theorem slices_DeleteFunc_impl_Route_impl_Route.calls (k : Nat) (P0_ : Nat → Prop) (u9000_ : Value) (l0 : List (S30)) (A1_0 : Option Addr) (l1_0 : List (S30)) (r : List (S30)) (w0 w : World) (hB : Below w0.heap.size w0 w) (ho0 : Kd.R k30 30 w w0.heap.size P0_ u9000_ l0) (hr1_0 : ∀ W_, Kept w W_ (fun k_ => P0_ k_) → Kd.C k30 W_ A1_0 l1_0.length l1_0) (h : slices_DeleteFunc_impl_Route_impl_Route.f k l0 l1_0 = some r) :
  Calls Try.prog 97 #[u9000_, .func (.func 98) #[] #[.pointer A1_0]] w fun e w' => ∃ v0_ : Value, e = .returned (v0_) ∧ Kd.R k30 30 w' w0.heap.size (fun k_ => (P0_ k_ ∨ w.heap.size ≤ k_)) v0_ r ∧ Below w0.heap.size w0 w' ∧ Kept w w' (fun k_ => P0_ k_) := by
 have hu30 := Try.underlying30
 have HO0 := Aside0.mk (show Kd.R k30 30 w w0.heap.size (fun k_ => (P0_ k_ ∨ w.heap.size ≤ k_)) u9000_ l0 from Kd.R_mono ho0 (fun k_ hk => (.inl hk)))
 have HR1_0 := Aside0.mk hr1_0
 clear hr1_0
 have HK := Aside0.mk (Kept.refl w (fun k_ => P0_ k_))
 have HW0 := Aside0.mk hB.size
 have HB := Aside0.mk hB
 clear hB
 have H : ((slices_IndexFunc_impl_Route_impl_Route.f k l0 l1_0).bind fun t410 => (if t410 = (-1) then (some l0) else (slices_DeleteFunc_impl_Route_impl_Route.l0 k l0 t410 (wrap64 (t410 + 1)) l1_0))) = some r := h
 clear h
 obtain ⟨t410, A3, H⟩ := ob_ H
 by_cases c4 : t410 = (-1)
 ·rw [if_pos c4] at H
  have c4b0 : (t410 == (-1)) = true := beq_iff_eq.mpr c4
  have c4b1 : (t410 != (-1)) = false := bne_eq_false_iff_eq.mpr c4
  clear c4
  obtain rfl := Option.some.inj H
  obtain ⟨Ao5, co5, eo5⟩ := Kd.R_slice HO0.out
  subst eo5
  go_enter Try.func97, Try.ntmps97
  go_wp2_with ((with_reducible refine gate_callee (f := 109) rfl ?_); refine gl_ (some 10) Try.func109 #[.slice Ao5 l0.length co5, .func (.func 98) #[] #[.pointer A1_0]] ?_; (with_reducible refine (slices_IndexFunc_impl_Route_impl_Route.calls k _ _ l0 _ l1_0 t410 _ ?side1 ?side2 ?side3 A3.out).mono ?_); (case side1 => exact rc_ HO0); (case side2 => exact (Kd.R_reads' HO0.out).2.1); (case side3 => exact Kd.C_kept_now HR1_0.out (ky_ HK)); rintro e w6 ⟨rfl, hb⟩; refine ⟨_, rfl, ?_⟩; replace HO0 := rb_ HO0 hb; replace HK := Aside0.mk (Kept.below (S := (fun k_ => P0_ k_)) (ky_ HK) hb); replace HB := at_ HB hb; clear hb)
  go_ret
  exact ⟨_, by first | rfl | (simp [errW_none, errW_some] <;> rfl) | (simp [*, errW_none, errW_some] <;> rfl), by (with_reducible repeat (first | apply Kd.R_alloc | apply Kd.R_drewN | apply Kd.R_drew)); exact HO0.out, bw112_, ky_ HK⟩
 rw [if_neg c4] at H
 have c4b0 : (t410 == (-1)) = false := beq_eq_false_iff_ne.mpr c4
 have c4b1 : (t410 != (-1)) = true := bne_iff_ne.mpr c4
 have H' := Aside0.mk H
 clear H
 obtain ⟨Ao7, co7, eo7⟩ := Kd.R_slice HO0.out
 subst eo7
 go_enter Try.func97, Try.ntmps97
 go_wp2_with ((with_reducible refine gate_callee (f := 109) rfl ?_); refine gl_ (some 10) Try.func109 #[.slice Ao7 l0.length co7, .func (.func 98) #[] #[.pointer A1_0]] ?_; (with_reducible refine (slices_IndexFunc_impl_Route_impl_Route.calls k _ _ l0 _ l1_0 t410 _ ?side1 ?side2 ?side3 A3.out).mono ?_); (case side1 => exact rc_ HO0); (case side2 => exact (Kd.R_reads' HO0.out).2.1); (case side3 => exact Kd.C_kept_now HR1_0.out (ky_ HK)); rintro e w8 ⟨rfl, hb⟩; refine ⟨_, rfl, ?_⟩; replace HO0 := rb_ HO0 hb; replace HK := Aside0.mk (Kept.below (S := (fun k_ => P0_ k_)) (ky_ HK) hb); replace HB := at_ HB hb; clear hb)
 (try simp only [Act.put, List.setIfInBounds_toArray, List.set_cons_zero, List.set_cons_succ])
 go_loopg [5, 6] k (fun kq v5 v6 w' => ∃ (x0_1 : List (S30)) (x5_1 : Int) (x6_1 : Int), v5 = .int .i64 x5_1 ∧ v6 = .int .i64 x6_1 ∧ Aside0 (slices_DeleteFunc_impl_Route_impl_Route.l0 kq x0_1 x5_1 x6_1 l1_0 = some r) ∧ Aside0 (kq ≤ k) ∧ Aside0 (Kd.R k30 30 w' w0.heap.size (fun k_ => (P0_ k_ ∨ w.heap.size ≤ k_)) (.slice Ao7 l0.length co7) x0_1) ∧ Aside0 (Kept w w' (fun k_ => P0_ k_)) ∧ Aside0 (Below w0.heap.size w0 w'))
 case atStart => exact ⟨(l0), (t410), (wrap64 (t410 + 1)), er_, er_, H', ⟨Nat.le_refl _⟩, ⟨hd_ HO0⟩, ⟨ky_ HK⟩, ⟨bw112_⟩⟩
 case round =>
  clear H' c4 c4b0 c4b1
  obtain ⟨x0_1, x5_1, x6_1, rfl, rfl, HA, HK1, HO_0, HK, HB⟩ := hrel
  have hl0_1 := (Kd.R_reads' HO_0.out).1
  rw [hl0_1] at HO_0
  (try simp only [hl0_1])
  cases gk with
  | zero => exact absurd HA.out (by simp [slices_DeleteFunc_impl_Route_impl_Route.l0])
  | succ k1 =>
   have H := HA.out
   clear HA
   simp only [slices_DeleteFunc_impl_Route_impl_Route.l0] at H
   by_cases c9 : x6_1 < (x0_1.length : Int)
   rotate_left
   ·rw [if_neg c9] at H
    have c9b0 : decide (x6_1 < (x0_1.length : Int)) = false := decide_eq_false c9
    (try simp only [hl0_1] at c9b0)
    clear c9
    by_cases c25 : 0 ≤ x5_1
    rotate_left
    ·rw [if_neg c25] at H
     exact absurd H (by simp)
    rw [if_pos c25] at H
    have c25b0 := eq_true c25
    have c25b1 : decide (0 ≤ x5_1) = true := decide_eq_true c25
    clear c25
    by_cases c26 : x5_1 ≤ (x0_1.length : Int)
    rotate_left
    ·rw [if_neg c26] at H
     exact absurd H (by simp)
    rw [if_pos c26] at H
    have c26b0 := eq_true c26
    have c26b1 : decide (x5_1 ≤ (x0_1.length : Int)) = true := decide_eq_true c26
    clear c26
    obtain ⟨y415, hy415⟩ : ∃ y_ : List (S30), y_ = (x0_1.drop (x5_1 : Int).toNat) := ⟨_, rfl⟩
    replace H : (some ((x0_1.take (x5_1 : Int).toNat ++ List.replicate (x0_1.length - (x5_1 : Int).toNat) z30).take (x5_1 : Int).toNat)) = some r := by first | (rw [hy415]; with_reducible exact H) | (have H2_ := (Option.bind_some _ _).symm.trans H; rw [hy415]; with_reducible exact H2_) | (have H2_ := (Option.bind_some _ _).symm.trans H; with_reducible exact H2_) | with_reducible exact H | (rw [hy415]; exact H) | exact H
    have Ny415 := Aside0.mk hy415
    clear hy415
    obtain ⟨y419, hy419⟩ : ∃ y_ : List (S30), y_ = (x0_1.take (x5_1 : Int).toNat ++ List.replicate (x0_1.length - (x5_1 : Int).toNat) z30) := ⟨_, rfl⟩
    replace H : (some (y419.take (x5_1 : Int).toNat)) = some r := by first | (rw [hy419]; with_reducible exact H) | (have H2_ := (Option.bind_some _ _).symm.trans H; rw [hy419]; with_reducible exact H2_) | (have H2_ := (Option.bind_some _ _).symm.trans H; with_reducible exact H2_) | with_reducible exact H | (rw [hy419]; exact H) | exact H
    have Ny419 := Aside0.mk hy419
    clear hy419
    have c27b0 := eq_true (oa_ : x5_1 ≤ (x0_1.length : Int))
    obtain ⟨y420, hy420⟩ : ∃ y_ : List (S30), y_ = (y419.take (x5_1 : Int).toNat) := ⟨_, rfl⟩
    replace H : (some y420) = some r := by first | (rw [hy420]; with_reducible exact H) | (have H2_ := (Option.bind_some _ _).symm.trans H; rw [hy420]; with_reducible exact H2_) | (have H2_ := (Option.bind_some _ _).symm.trans H; with_reducible exact H2_) | with_reducible exact H | (rw [hy420]; exact H) | exact H
    have Ny420 := Aside0.mk hy420
    clear hy420
    obtain rfl := Option.some.inj H
    have q28 : (x5_1 : Int) ≤ ((x0_1.length : Int) : Int) := oa_
    obtain ⟨i028, hi028, _, hsz28, _⟩ := info_parts info30
    have hroom28 : x0_1.length ≤ co7 := (Kd.R_reads' HO_0.out).2.1
    have hC28 : Kd.C k30 _ Ao7 x0_1.length x0_1 := (Kd.R_reads' HO_0.out).2.2
    have q028 : (0 : Int) ≤ (x5_1 : Int) := oa_
    have hcut28 := cut_from (P := Try.prog) 24 30 .i64 Try.underlying24 hi028 3 hsz28 Ao7 x0_1.length co7 x5_1 q028 q28
    have hr28 := Kd.C_drop (m := (x5_1 : Int).toNat) (c := co7) hC28 (by omega) hroom28
    obtain ⟨A28, hA28⟩ : ∃ A1, A1 = (if co7 = (x5_1 : Int).toNat then Ao7 else (Ao7 : Option Addr).map (·.add ((x5_1 : Int).toNat * 3))) := ⟨_, rfl⟩
    obtain ⟨c28, hc28⟩ : ∃ c1, c1 = co7 - (x5_1 : Int).toNat := ⟨_, rfl⟩
    have hy28 : y415.length = x0_1.length - (x5_1 : Int).toNat := (by rw [Ny415.out, List.length_drop] <;> omega)
    rw [show (x0_1).drop (x5_1 : Int).toNat = y415 from Ny415.out.symm] at hr28
    replace hr28 : Kd.C k30 _ A28 y415.length y415 := (by rw [hA28]; exact hr28)
    rw [← hy28, ← hA28, ← hc28] at hcut28
    have HR418 := Aside0.mk hr28
    have HC418 := Aside0.mk (show y415.length ≤ c28 from by rw [hy28, hc28]; exact Nat.sub_le_sub_right hroom28 _)
    clear hr28 hC28 hroom28 hi028 hsz28 hc28
    have KY28 := Aside0.mk hy28
    have KA28 := Aside0.mk hA28
    clear hy28 hA28
    have KL28 := Aside0.mk (show (x5_1 : Int).toNat ≤ x0_1.length from by omega)
    replace q28 := eq_true q28
    go_wp2_with ((with_reducible refine gate_builtin (b := .clear) (xs := #[.tmp 38]) rfl ?_); have hh_ : (x5_1 : Int) ≤ ((x0_1.length : Int) : Int) := oa_; have hn_ := (Kd.R_reads' HO_0.out).1; have hy1_ := KY28.out; refine R_clear k30 (w0 := w0) w0.heap.size rfl (.tmp 38) 24 30 rfl rfl Try.underlying24 (.agg #[(.int .i64 0), (.int .i64 0), (.int .i64 0)]) 24 info30 rfl (by decide) z30 (fun _ => (k30_mkM _ _ _ z30)) (A0 := Ao7) (n := x0_1.length) (c := co7) (k := (x5_1 : Int).toNat) rfl ?hA ?hm (hd_ HO_0) ?hk (bw112_) (bz_ HB) ?_; (case hA => exact KA28.out); (case hm => first | exact hy1_ | omega); (case hk => omega); intro w29 ho hb hg; rw [show x0_1.length - (x5_1 : Int).toNat = x0_1.length - (x5_1 : Int).toNat by omega, ← Ny419.out] at ho; clear hh_ hn_ hy1_; replace HB := Aside0.mk (hb); replace HK := Aside0.mk (Kept.of_grown (S := (fun k_ => P0_ k_)) hg (ky_ HK) (fun k_ e_ => (HO_0.out.1 k_ e_))); replace HO_0 := Aside0.mk (ho); clear ho hb hg; have q31 : (x5_1 : Int) ≤ ((x0_1.length : Int) : Int) := oa_; obtain ⟨i031, hi031, _, hsz31, _⟩ := info_parts info30; have hcut31 := cut_to (P := Try.prog) 24 30 .i64 Try.underlying24 hi031 Ao7 x0_1.length co7 x5_1 oa_ q31 (Kd.R_reads' HO_0.out).2.1; have hr31 := Kd.R_take (m := (x5_1 : Int).toNat) HO_0.out (by have hlq_ := (Kd.R_reads' HO_0.out).1; omega); have hy31 : y420.length = (x5_1 : Int).toNat := (by have hlq_ := (Kd.R_reads' HO_0.out).1; rw [Ny420.out, List.length_take]; omega); rw [← Ny420.out] at hr31; rw [← hy31] at hr31 hcut31; clear hy31 hi031 hsz31 HO_0; have HO422 := Aside0.mk hr31; clear hr31; replace q31 := eq_true q31)
    go_ret
    exact ⟨_, by first | rfl | (simp [errW_none, errW_some] <;> rfl) | (simp [*, errW_none, errW_some] <;> rfl), by (with_reducible repeat (first | apply Kd.R_alloc | apply Kd.R_drewN | apply Kd.R_drew)); exact HO422.out, bw112_, ky_ HK⟩
   rw [if_pos c9] at H
   have c9b0 : decide (x6_1 < (x0_1.length : Int)) = true := decide_eq_true c9
   clear c9
   obtain ⟨c10b0, H⟩ := iq_ H
   obtain ⟨t413, A11, H⟩ := ob_ H
   by_cases c12 : t413 = true
   ·subst c12
    rw [if_pos rfl] at H
    have H' := Aside0.mk H
    clear H
    have p411 : 0 ≤ (x6_1 : Int) := oa_
    have q411 : x6_1 < (x0_1.length : Int) := oa_
    obtain ⟨ad411, e411, hx411_0, hx411_1, hx411_2⟩ := at_T30 (Kd.R_reads' HO_0.out).2.2 x6_1 p411 q411
    cases e411
    obtain ⟨p411, q411⟩ := et_ p411 q411
    go_wp2_with (first | ((with_reducible refine gate_dst (N := 7) rfl ?_); refine be_ 7 #[.int .i64 0, .int .i64 0, .int .i64 0] 30 ?_; intro gb412 hg w13 BK412 hb; have GW412 := Aside0.mk ((by rw [hg]; exact (by first | exact HK.out.1 | exact (show Kept w _ (fun k_ => P0_ k_) from by repeat (first | (with_reducible first | exact HK.out | apply Kept.alloc | apply Kept.drewN | apply Kept.drew) | exact HK.out)).1) : w.heap.size ≤ gb412)); have GE412 := Aside0.mk ((by rw [hg]; exact (bz_ HB) : w0.heap.size ≤ gb412)); replace HO_0 := Aside0.mk (Kd.R_below (Kd.R_elderB (hd_ HO_0) gb412 (Nat.le_of_eq hg.symm)) hb); replace HK := Aside0.mk (Kept.below (S := (fun k_ => P0_ k_)) (ky_ HK) hb); replace HB := at_ HB hb; clear hb hg; have hcz14_0 := cz_ BK412 0 (.int .i64 0); have hcz14_1 := cz_ BK412 1 (.int .i64 0); have hcz14_2 := cz_ BK412 2 (.int .i64 0); have hfz14_0 := fz_ BK412 0; have hfz14_1 := fz_ BK412 1; have hfz14_2 := fz_ BK412 2) | ((with_reducible refine gate_dst (N := 28) rfl ?_); refine goesTc_ (some 28) rfl rfl Try.func98 (by kernel_rfl) rfl #[.agg #[.int .i64 ((rd_T30 x0_1 x6_1).f0.f0), .int .i64 ((rd_T30 x0_1 x6_1).f0.f1), .int .i64 ((rd_T30 x0_1 x6_1).f1)], .pointer A1_0] rfl (by (try simp only [List.map_toArray, List.map_cons, List.map_nil]); first | done | rfl | (simp only [List.length_drop, List.length_take]; rfl)) ?_; (with_reducible refine (impl_isRedundant_1.calls ((rd_T30 x0_1 x6_1).f0.f0) ((rd_T30 x0_1 x6_1).f0.f1) ((rd_T30 x0_1 x6_1).f1) _ l1_0 true _ ?side1 A11.out).mono ?_); (case side1 => exact Kd.C_kept_now HR1_0.out (ky_ HK)); rintro e w15 ⟨rfl, hb⟩; refine ⟨_, rfl, ?_⟩; replace HO_0 := Aside0.mk (Kd.R_below (by (with_reducible repeat (first | apply Kd.R_alloc | apply Kd.R_drewN | apply Kd.R_drew)); exact (Kd.R_mono (Kd.R_far (Kd.R_far (Kd.R_far (Kd.R_mono HO_0.out (fun k_ hk => (⟨hk, hk.2⟩ : _ ∧ k_ ≠ gb412))) (fun _ hk => hk.2) _) (fun _ hk => hk.2) _) (fun _ hk => hk.2) _) (fun _ h_ => h_.1))) hb); replace BK412 := Aside0.mk (blk_below (g := gb412) (o := .cells #[.int .i64 ((rd_T30 x0_1 x6_1).f0.f0), .int .i64 ((rd_T30 x0_1 x6_1).f0.f1), .int .i64 ((rd_T30 x0_1 x6_1).f1)] 30 (0, 0)) (by refine bd_ ?_; refine blk_put (cs := #[.int .i64 ((rd_T30 x0_1 x6_1).f0.f0), .int .i64 ((rd_T30 x0_1 x6_1).f0.f1), .int .i64 0]) ?_ 2 _ rfl; refine bd_ ?_; refine blk_put (cs := #[.int .i64 ((rd_T30 x0_1 x6_1).f0.f0), .int .i64 0, .int .i64 0]) ?_ 1 _ rfl; refine bd_ ?_; refine blk_put (cs := #[.int .i64 0, .int .i64 0, .int .i64 0]) ?_ 0 _ rfl; refine bd_ ?_; exact BK412.out) hb); replace HK := Aside0.mk (Kept.below (S := (fun k_ => P0_ k_)) (ky_ HK) hb); replace HB := at_ HB hb; clear hb))
    (try simp only [← hl0_1])
    go_roundg k1
    case measure => have := HK1.out; omega
    case rel => exact ⟨(x0_1), (x5_1), (wrap64 (x6_1 + 1)), er_, er_, H', ⟨by have := HK1.out; omega⟩, ⟨by (try simp only [hl0_1]); (with_reducible repeat (first | apply Kd.R_alloc | apply Kd.R_drewN | apply Kd.R_drew)); exact Kd.R_mono HO_0.out (fun _ hk => hk.1)⟩, ⟨ky_ HK⟩, ⟨bw112_⟩⟩
   replace c12 := Bool.eq_false_iff.mpr c12
   subst c12
   rw [if_neg (show ¬ (false = true) by decide)] at H
   obtain ⟨c16b0, H⟩ := iq_ H
   obtain ⟨c17b0, H⟩ := iq_ H
   obtain ⟨y414, hy414⟩ : ∃ y_ : List (S30), y_ = (x0_1.set (x5_1 : Int).toNat (⟨(⟨(rd_T30 x0_1 x6_1).f0.f0, (rd_T30 x0_1 x6_1).f0.f1⟩ : S28), (rd_T30 x0_1 x6_1).f1⟩ : S30)) := ⟨_, rfl⟩
   replace H : (slices_DeleteFunc_impl_Route_impl_Route.l0 k1 y414 (wrap64 (x5_1 + 1)) (wrap64 (x6_1 + 1)) l1_0) = some r := by first | (rw [hy414]; with_reducible exact H) | (have H2_ := (Option.bind_some _ _).symm.trans H; rw [hy414]; with_reducible exact H2_) | (have H2_ := (Option.bind_some _ _).symm.trans H; with_reducible exact H2_) | with_reducible exact H | (rw [hy414]; exact H) | exact H
   have Ny414 := Aside0.mk hy414
   clear hy414
   have H' := Aside0.mk H
   clear H
   have p411 : 0 ≤ (x6_1 : Int) := oa_
   have q411 : x6_1 < (x0_1.length : Int) := oa_
   obtain ⟨ad411, e411, hx411_0, hx411_1, hx411_2⟩ := at_T30 (Kd.R_reads' HO_0.out).2.2 x6_1 p411 q411
   cases e411
   obtain ⟨p411, q411⟩ := et_ p411 q411
   go_wp2_with (first | ((with_reducible refine gate_dst (N := 7) rfl ?_); refine be_ 7 #[.int .i64 0, .int .i64 0, .int .i64 0] 30 ?_; intro gb412 hg w19 BK412 hb; have GW412 := Aside0.mk ((by rw [hg]; exact (by first | exact HK.out.1 | exact (show Kept w _ (fun k_ => P0_ k_) from by repeat (first | (with_reducible first | exact HK.out | apply Kept.alloc | apply Kept.drewN | apply Kept.drew) | exact HK.out)).1) : w.heap.size ≤ gb412)); have GE412 := Aside0.mk ((by rw [hg]; exact (bz_ HB) : w0.heap.size ≤ gb412)); replace HO_0 := Aside0.mk (Kd.R_below (Kd.R_elderB (hd_ HO_0) gb412 (Nat.le_of_eq hg.symm)) hb); replace HK := Aside0.mk (Kept.below (S := (fun k_ => P0_ k_)) (ky_ HK) hb); replace HB := at_ HB hb; clear hb hg; have hcz20_0 := cz_ BK412 0 (.int .i64 0); have hcz20_1 := cz_ BK412 1 (.int .i64 0); have hcz20_2 := cz_ BK412 2 (.int .i64 0); have hfz20_0 := fz_ BK412 0; have hfz20_1 := fz_ BK412 1; have hfz20_2 := fz_ BK412 2) | ((with_reducible refine gate_dst (N := 28) rfl ?_); refine goesTc_ (some 28) rfl rfl Try.func98 (by kernel_rfl) rfl #[.agg #[.int .i64 ((rd_T30 x0_1 x6_1).f0.f0), .int .i64 ((rd_T30 x0_1 x6_1).f0.f1), .int .i64 ((rd_T30 x0_1 x6_1).f1)], .pointer A1_0] rfl (by (try simp only [List.map_toArray, List.map_cons, List.map_nil]); first | done | rfl | (simp only [List.length_drop, List.length_take]; rfl)) ?_; (with_reducible refine (impl_isRedundant_1.calls ((rd_T30 x0_1 x6_1).f0.f0) ((rd_T30 x0_1 x6_1).f0.f1) ((rd_T30 x0_1 x6_1).f1) _ l1_0 false _ ?side1 A11.out).mono ?_); (case side1 => exact Kd.C_kept_now HR1_0.out (ky_ HK)); rintro e w21 ⟨rfl, hb⟩; refine ⟨_, rfl, ?_⟩; replace HO_0 := Aside0.mk (Kd.R_below (by (with_reducible repeat (first | apply Kd.R_alloc | apply Kd.R_drewN | apply Kd.R_drew)); exact (Kd.R_mono (Kd.R_far (Kd.R_far (Kd.R_far (Kd.R_mono HO_0.out (fun k_ hk => (⟨hk, hk.2⟩ : _ ∧ k_ ≠ gb412))) (fun _ hk => hk.2) _) (fun _ hk => hk.2) _) (fun _ hk => hk.2) _) (fun _ h_ => h_.1))) hb); replace BK412 := Aside0.mk (blk_below (g := gb412) (o := .cells #[.int .i64 ((rd_T30 x0_1 x6_1).f0.f0), .int .i64 ((rd_T30 x0_1 x6_1).f0.f1), .int .i64 ((rd_T30 x0_1 x6_1).f1)] 30 (0, 0)) (by refine bd_ ?_; refine blk_put (cs := #[.int .i64 ((rd_T30 x0_1 x6_1).f0.f0), .int .i64 ((rd_T30 x0_1 x6_1).f0.f1), .int .i64 0]) ?_ 2 _ rfl; refine bd_ ?_; refine blk_put (cs := #[.int .i64 ((rd_T30 x0_1 x6_1).f0.f0), .int .i64 0, .int .i64 0]) ?_ 1 _ rfl; refine bd_ ?_; refine blk_put (cs := #[.int .i64 0, .int .i64 0, .int .i64 0]) ?_ 0 _ rfl; refine bd_ ?_; exact BK412.out) hb); replace HK := Aside0.mk (Kept.below (S := (fun k_ => P0_ k_)) (ky_ HK) hb); replace HB := at_ HB hb; clear hb; have hcz22_0 := cz_ BK412 0 (.int .i64 ((rd_T30 x0_1 x6_1).f0.f0)); have hcz22_1 := cz_ BK412 1 (.int .i64 ((rd_T30 x0_1 x6_1).f0.f1)); have hcz22_2 := cz_ BK412 2 (.int .i64 ((rd_T30 x0_1 x6_1).f1)); have hfz22_0 := fz_ BK412 0; have hfz22_1 := fz_ BK412 1; have hfz22_2 := fz_ BK412 2; have p18 : 0 ≤ (x5_1 : Int) := oa_; have q18 : (x5_1 : Int) < ((x0_1.length : Int) : Int) := oa_; obtain ⟨go18, co18, eo18, gb18, gl18, cl18, HG18⟩ := Kd.R_form HO_0.out (by omega); (first | cases eo18 | (injection eo18 with ea_ en_ ec_; (first | subst ea_ | (injection ea_ with ea_; subst ea_)); subst ec_; clear en_)); have GB18 := Aside0.mk gb18; have GG18 := Aside0.mk HG18; clear gb18 gl18 HG18; have HMgo18 := Aside0.mk (show (P0_ go18 ∨ w.heap.size ≤ go18) from (HO_0.out.1 _ rfl).1); (first | simp only [add_plain] at hx411_0 | skip); (first | simp only [add_plain] at hx411_1 | skip); (first | simp only [add_plain] at hx411_2 | skip); obtain ⟨ce18, hcl18, hM18, hcc18, hfr18⟩ := Kd.R_elem HO_0.out z30 (x5_1 : Int) p18 q18; obtain rfl := k30_openM hM18; have hx18_0 : w21.cell? ⟨go18, (x5_1 : Int).toNat * 3, none⟩ = some (.int .i64 ((rd_T30 x0_1 x5_1).f0.f0)) := hcc18 0 _ rfl; have hx18_1 : w21.cell? ⟨go18, (x5_1 : Int).toNat * 3 + 1, none⟩ = some (.int .i64 ((rd_T30 x0_1 x5_1).f0.f1)) := hcc18 1 _ rfl; have hx18_2 : w21.cell? ⟨go18, (x5_1 : Int).toNat * 3 + 2, none⟩ = some (.int .i64 ((rd_T30 x0_1 x5_1).f1)) := hcc18 2 _ rfl; have hf18_0 : w21.frozen? ⟨go18, (x5_1 : Int).toNat * 3, none⟩ = false := hfr18 0; have hf18_1 : w21.frozen? ⟨go18, (x5_1 : Int).toNat * 3 + 1, none⟩ = false := hfr18 1; have hf18_2 : w21.frozen? ⟨go18, (x5_1 : Int).toNat * 3 + 2, none⟩ = false := hfr18 2; clear hcl18 hcc18 hfr18 hM18; obtain ⟨p18, q18⟩ := et_ p18 q18; have HX23 := Aside0.mk (show Kd.R k30 30 w21 w0.heap.size (fun k_ => (P0_ k_ ∨ w.heap.size ≤ k_) ∧ k_ ≠ gb412) (.slice (some ⟨go18, 0, none⟩) x0_1.length co7) x0_1 from (hd_ HO_0)); obtain ⟨ce23, hcl23, hM23, hcc23, hfr23⟩ := Kd.R_elem HX23.out z30 (x5_1 : Int) oa_ (by have h_ : (x5_1 : Int) < ((x0_1.length : Int) : Int) := oa_; first | exact h_ | (have e_ := (Kd.R_reads' HO_0.out).1; omega) | simpa using h_); obtain rfl := k30_openM hM23; have HP23 := Kd.R_seg HX23.out (x5_1 : Int) oa_ (by have h_ : (x5_1 : Int) < ((x0_1.length : Int) : Int) := oa_; first | exact h_ | (have e_ := (Kd.R_reads' HO_0.out).1; omega) | simpa using h_) (seg := [.int .i64 ((rd_T30 x0_1 x6_1).f0.f0), .int .i64 ((rd_T30 x0_1 x6_1).f0.f1), .int .i64 ((rd_T30 x0_1 x6_1).f1)]) (j := 0) hcl23 hcc23 (show 3 ≤ 3 from by decide) (x' := (⟨(⟨(rd_T30 x0_1 x6_1).f0.f0, (rd_T30 x0_1 x6_1).f0.f1⟩ : S28), (rd_T30 x0_1 x6_1).f1⟩ : S30)) (k30_mkM _ _ _ (⟨(⟨(rd_T30 x0_1 x6_1).f0.f0, (rd_T30 x0_1 x6_1).f0.f1⟩ : S28), (rd_T30 x0_1 x6_1).f1⟩ : S30) ) (fun _ hk => hk); have hx23_0 := hcc23 0 _ rfl; (try simp only [show (k30).sz = 3 from rfl, Nat.mul_one, Nat.add_zero] at hx23_0); have hf23_0 := hfr23 0; (try simp only [show (k30).sz = 3 from rfl, Nat.mul_one, Nat.add_zero] at hf23_0); have hx23_1 := hcc23 1 _ rfl; (try simp only [show (k30).sz = 3 from rfl, Nat.mul_one, Nat.add_zero] at hx23_1); have hf23_1 := hfr23 1; (try simp only [show (k30).sz = 3 from rfl, Nat.mul_one, Nat.add_zero] at hf23_1); have hx23_2 := hcc23 2 _ rfl; (try simp only [show (k30).sz = 3 from rfl, Nat.mul_one, Nat.add_zero] at hx23_2); have hf23_2 := hfr23 2; (try simp only [show (k30).sz = 3 from rfl, Nat.mul_one, Nat.add_zero] at hf23_2); clear hcl23 hcc23 hfr23 hM23) | ((with_reducible refine gate_store (t := 30) (p := 33) rfl ?_); refine store_event (t := 30) (p := 33) (v := ?vo_w24) (w1 := (((w21.setCell ⟨go18, (x5_1 : Int).toNat * 3, none⟩ (.int .i64 ((rd_T30 x0_1 x6_1).f0.f0))).setCell ⟨go18, (x5_1 : Int).toNat * 3 + 1, none⟩ (.int .i64 ((rd_T30 x0_1 x6_1).f0.f1))).setCell ⟨go18, (x5_1 : Int).toNat * 3 + 2, none⟩ (.int .i64 ((rd_T30 x0_1 x6_1).f1)))) ?hg ?ho ?hn ?hr ?_; (case ho => rfl); (case hg => rfl); (case hn => rfl); (case hr => first | (go_simp; done) | (go_simp; rfl)); intro w24 hw; have hg : w21.grownBy w24 (some go18) := (by rw [hw]; exact HP23.2); have hp_ : Kd.R k30 30 w24 w0.heap.size (fun k_ => (P0_ k_ ∨ w.heap.size ≤ k_) ∧ k_ ≠ gb412) (.slice (some ⟨go18, 0, none⟩) x0_1.length co7) y414 := (by rw [hw, Ny414.out]; exact HP23.1); clear HP23; replace BK412 := Aside0.mk (blk_grown (g := gb412) (o := .cells #[.int .i64 ((rd_T30 x0_1 x6_1).f0.f0), .int .i64 ((rd_T30 x0_1 x6_1).f0.f1), .int .i64 ((rd_T30 x0_1 x6_1).f1)] 30 (0, 0)) (bx_ BK412) hg (Kd.R_away HO_0.out (fun _ hk => hk.2))); replace HB := Aside0.mk ((by rw [hw]; exact below_set (below_set (below_set (HB.out) GB18.out) GB18.out) GB18.out : Below w0.heap.size w0 w24)); replace HK := Aside0.mk (Kept.of_grown (S := (fun k_ => P0_ k_)) hg (ky_ HK) (fun k_ e_ => (HO_0.out.1 k_ e_).1)); replace HO_0 := Aside0.mk (hp_); clear hg hw hp_))
   (try simp only [← hl0_1])
   go_roundg k1
   case measure => have := HK1.out; omega
   case rel => exact ⟨(y414), (wrap64 (x5_1 + 1)), (wrap64 (x6_1 + 1)), er_, er_, H', ⟨by have := HK1.out; omega⟩, ⟨by (try simp only [hl0_1]); (with_reducible repeat (first | apply Kd.R_alloc | apply Kd.R_drewN | apply Kd.R_drew)); exact Kd.R_mono HO_0.out (fun _ hk => hk.1)⟩, ⟨ky_ HK⟩, ⟨bw112_⟩⟩

/-! ### impl_isRedundant: function 62 -/
def impl_isRedundant.f (k : Nat) (l0 : List (S30)) (a1_0 : Int) (a1_1 : Int) (a1_2 : Int) : Option (Bool) := (impl_isUsed.f k l0 a1_0 a1_1 a1_2).bind fun t424 => (if t424 = true then ((slices_Clone_impl_Route_impl_Route.f l0).bind fun t425 => ((slices_DeleteFunc_impl_Route_impl_Route.f k t425 [(⟨(⟨a1_0, a1_1⟩ : S28), a1_2⟩ : S30)]).bind fun t428 => ((impl_best.f k t428 a1_0).bind fun bt431 => (if bt431.2.2.2 = true then (some (bt431.2.2.1 == a1_2)) else (some false))))) else (some true))
set_option maxHeartbeats 8000000 in
set_option maxRecDepth 100000 in
theorem impl_isRedundant.calls (k : Nat) (A0 : Option Addr) (c0 : Nat) (l0 : List (S30)) (a1_0 : Int) (a1_1 : Int) (a1_2 : Int) (r : Bool) (w : World) (hr0 : Kd.C k30 w A0 l0.length l0) (hc0 : l0.length ≤ c0) (h : impl_isRedundant.f k l0 a1_0 a1_1 a1_2 = some r) :
  Calls Try.prog 62 #[.slice A0 l0.length c0, .agg #[.int .i64 a1_0, .int .i64 a1_1, .int .i64 a1_2]] w fun e w' => e = .returned (.bool r) ∧ Below w.heap.size w w' := by
 have hu30 := Try.underlying30
 have HR0 := Aside0.mk hr0
 have HC0 := Aside0.mk hc0
 clear hr0 hc0
 have HB := Aside0.mk (Below.refl w.heap.size w)
 have H : ((impl_isUsed.f k l0 a1_0 a1_1 a1_2).bind fun t424 => (if t424 = true then ((slices_Clone_impl_Route_impl_Route.f l0).bind fun t425 => ((slices_DeleteFunc_impl_Route_impl_Route.f k t425 [(⟨(⟨a1_0, a1_1⟩ : S28), a1_2⟩ : S30)]).bind fun t428 => ((impl_best.f k t428 a1_0).bind fun bt431 => (if bt431.2.2.2 = true then (some (bt431.2.2.1 == a1_2)) else (some false))))) else (some true))) = some r := h
 clear h
 obtain ⟨t424, A3, H⟩ := ob_ H
 by_cases c4 : t424 = true
 rotate_left
 ·replace c4 := Bool.eq_false_iff.mpr c4
  subst c4
  rw [if_neg (show ¬ (false = true) by decide)] at H
  obtain rfl := Option.some.inj H
  go_enter Try.func62, Try.ntmps62
  go_wp2_with (first | ((with_reducible refine gate_dst (N := 3) rfl ?_); refine be_ 3 #[.int .i64 a1_0, .int .i64 a1_1, .int .i64 a1_2] 30 ?_; intro gb423 hg w34 BK423 hb; have GW423 := ge_ HB hg; have GE423 := ge_ HB hg; replace HB := at_ HB hb; clear hb hg; have hcz35_0 := cz_ BK423 0 (.int .i64 a1_0); have hcz35_1 := cz_ BK423 1 (.int .i64 a1_1); have hcz35_2 := cz_ BK423 2 (.int .i64 a1_2); have hfz35_0 := fz_ BK423 0; have hfz35_1 := fz_ BK423 1; have hfz35_2 := fz_ BK423 2) | ((with_reducible refine gate_callee (f := 96) rfl ?_); refine gl_ (some 10) Try.func96 #[.slice A0 l0.length c0, .agg #[.int .i64 a1_0, .int .i64 a1_1, .int .i64 a1_2]] ?_; (with_reducible refine (impl_isUsed.calls k _ _ l0 a1_0 a1_1 a1_2 false _ ?side1 ?side2 A3.out).mono ?_); (case side1 => exact cb_ HR0 HB); (case side2 => exact HC0.out); rintro e w36 ⟨rfl, hb⟩; refine ⟨_, rfl, ?_⟩; replace BK423 := ab_ BK423 hb; replace HB := at_ HB hb; clear hb))
  go_ret
  exact ⟨by first | rfl | (simp [errW_none, errW_some] <;> rfl) | (simp [*, errW_none, errW_some] <;> rfl), bw112_⟩
 subst c4
 rw [if_pos rfl] at H
 obtain ⟨t425, A5, H⟩ := ob_ H
 obtain ⟨t428, A6, H⟩ := ob_ H
 obtain ⟨⟨t431, t432, t433, t434⟩, A7, H⟩ := ob_ H
 by_cases c8 : t434 = true
 ·subst c8
  rw [if_pos rfl] at H
  obtain rfl := Option.some.inj H
  go_enter Try.func62, Try.ntmps62
  go_wp2_with (first | ((with_reducible refine gate_dst (N := 3) rfl ?_); refine be_ 3 #[.int .i64 a1_0, .int .i64 a1_1, .int .i64 a1_2] 30 ?_; intro gb423 hg w9 BK423 hb; have GW423 := ge_ HB hg; have GE423 := ge_ HB hg; replace HB := at_ HB hb; clear hb hg; have hcz10_0 := cz_ BK423 0 (.int .i64 a1_0); have hcz10_1 := cz_ BK423 1 (.int .i64 a1_1); have hcz10_2 := cz_ BK423 2 (.int .i64 a1_2); have hfz10_0 := fz_ BK423 0; have hfz10_1 := fz_ BK423 1; have hfz10_2 := fz_ BK423 2) | ((with_reducible refine gate_callee (f := 96) rfl ?_); refine gl_ (some 10) Try.func96 #[.slice A0 l0.length c0, .agg #[.int .i64 a1_0, .int .i64 a1_1, .int .i64 a1_2]] ?_; (with_reducible refine (impl_isUsed.calls k _ _ l0 a1_0 a1_1 a1_2 true _ ?side1 ?side2 A3.out).mono ?_); (case side1 => exact cb_ HR0 HB); (case side2 => exact HC0.out); rintro e w11 ⟨rfl, hb⟩; refine ⟨_, rfl, ?_⟩; replace BK423 := ab_ BK423 hb; replace HB := at_ HB hb; clear hb) | ((with_reducible refine gate_callee (f := 89) rfl ?_); refine gl_ (some 13) Try.func89 #[.slice A0 l0.length c0] ?_; (with_reducible refine (slices_Clone_impl_Route_impl_Route.calls _ _ l0 t425 _ ?side1 ?side2 A5.out).mono ?_); (case side1 => exact cb_ HR0 HB); (case side2 => exact HC0.out); rintro e w12 ⟨v426, rfl, ho0, hb⟩; refine ⟨_, rfl, ?_⟩; have HO427 := Aside0.mk (Kd.R_lower (Kd.R_newB ho0 (g := gb423) (o := .cells #[.int .i64 a1_0, .int .i64 a1_1, .int .i64 a1_2] 30 (0, 0)) (bx_ BK423)) (bz_ HB)); replace BK423 := ab_ BK423 hb; replace HB := at_ HB hb; clear hb ho0; obtain ⟨Ao13, co13, eo13⟩ := Kd.R_slice HO427.out; subst eo13) | ((with_reducible refine gate_callee (f := 97) rfl ?_); refine gl_ (some 15) Try.func97 #[.slice Ao13 t425.length co13, .func (.func 98) #[] #[.pointer (some ⟨gb423, 0, none⟩)]] ?_; (with_reducible refine (slices_DeleteFunc_impl_Route_impl_Route.calls k (fun k_ => some k_ = (.slice Ao13 t425.length co13 : Value).ownBlock) (.slice Ao13 t425.length co13) t425 _ [(⟨(⟨a1_0, a1_1⟩ : S28), a1_2⟩ : S30)] t428 w _ ?side1 ?side2 ?side3 A6.out).mono ?_); (case side1 => exact by_ HB); (case side2 => exact Kd.R_tight rfl HO427.out); (case side3 => exact C_box1_kept (cs := [.int .i64 a1_0, .int .i64 a1_1, .int .i64 a1_2]) (bx_ BK423) (fun hs_ => (fun e_ => (Kd.R_away HO427.out (fun _ hk => hk.2)) e_) hs_) (fun W_ hk_ => k30_mk _ (⟨(⟨a1_0, a1_1⟩ : S28), a1_2⟩ : S30) )); rintro e w14 ⟨v429, rfl, ho0, hb, hkp⟩; refine ⟨_, rfl, ?_⟩; have HO430 := Aside0.mk (Kd.R_mono (ok' := fun k_ => k_ ≠ gb423) ho0 (fun k_ hk_ => Or.elim hk_ (fun hs_ => fun e_ => (Kd.R_away HO427.out (fun _ hk => hk.2)) (by rw [← e_]; exact hs_)) (fun hn_ => (Kd.freshB (g := gb423) (o := .cells #[.int .i64 a1_0, .int .i64 a1_1, .int .i64 a1_2] 30 (0, 0)) (bx_ BK423) k_ hn_)))); replace BK423 := bk_ BK423 hkp (fun hs_ => (fun e_ => (Kd.R_away HO427.out (fun _ hk => hk.2)) e_) hs_); replace HB := Aside0.mk (hb); clear HO427 hb hkp ho0; have hcz15_0 := cz_ BK423 0 (.int .i64 a1_0); have hcz15_1 := cz_ BK423 1 (.int .i64 a1_1); have hcz15_2 := cz_ BK423 2 (.int .i64 a1_2); have hfz15_0 := fz_ BK423 0; have hfz15_1 := fz_ BK423 1; have hfz15_2 := fz_ BK423 2; obtain ⟨Ao16, co16, eo16⟩ := Kd.R_slice HO430.out; subst eo16) | ((with_reducible refine gate_callee (f := 94) rfl ?_); refine gl_ (some 21) Try.func94 #[.slice Ao16 t428.length co16, .int .i64 a1_0] ?_; (with_reducible refine (impl_best.calls k _ _ t428 a1_0 t431 t432 t433 true _ ?side1 ?side2 A7.out).mono ?_); (case side1 => exact rc_ HO430); (case side2 => exact (Kd.R_reads' HO430.out).2.1); rintro e w17 ⟨rfl, hb⟩; refine ⟨_, rfl, ?_⟩; replace HO430 := rb_ HO430 hb; replace BK423 := ab_ BK423 hb; replace HB := at_ HB hb; clear hb) | ((with_reducible refine gate_dst (N := 6) rfl ?_); refine be_ 6 #[.int .i64 0, .int .i64 0, .int .i64 0] 30 ?_; intro gb435 hg w18 BK435 hb; have GW435 := ge_ HB hg; have GE435 := ge_ HB hg; have NB423_435 := nl_ BK423 hg; have NB435_423 := ng_ BK423 hg; replace HO430 := Aside0.mk (Kd.R_below (Kd.R_elderB (hd_ HO430) gb435 (Nat.le_of_eq hg.symm)) hb); replace HB := at_ HB hb; replace BK423 := ab_ BK423 hb; clear hb hg; have hnb19 := NB435_423.out; have hnc19 := NB423_435.out; have hcz20_0 := cz_ BK435 0 (.int .i64 0); have hcz20_1 := cz_ BK435 1 (.int .i64 0); have hcz20_2 := cz_ BK435 2 (.int .i64 0); have hfz20_0 := fz_ BK435 0; have hfz20_1 := fz_ BK435 1; have hfz20_2 := fz_ BK435 2; have hcz21_0 := cz_ BK423 0 (.int .i64 a1_0); have hcz21_1 := cz_ BK423 1 (.int .i64 a1_1); have hcz21_2 := cz_ BK423 2 (.int .i64 a1_2); have hfz21_0 := fz_ BK423 0; have hfz21_1 := fz_ BK423 1; have hfz21_2 := fz_ BK423 2))
  go_ret
  exact ⟨by first | rfl | (simp [errW_none, errW_some] <;> rfl) | (simp [*, errW_none, errW_some] <;> rfl), bw112_⟩
 replace c8 := Bool.eq_false_iff.mpr c8
 subst c8
 rw [if_neg (show ¬ (false = true) by decide)] at H
 obtain rfl := Option.some.inj H
 go_enter Try.func62, Try.ntmps62
 go_wp2_with (first | ((with_reducible refine gate_dst (N := 3) rfl ?_); refine be_ 3 #[.int .i64 a1_0, .int .i64 a1_1, .int .i64 a1_2] 30 ?_; intro gb423 hg w22 BK423 hb; have GW423 := ge_ HB hg; have GE423 := ge_ HB hg; replace HB := at_ HB hb; clear hb hg; have hcz23_0 := cz_ BK423 0 (.int .i64 a1_0); have hcz23_1 := cz_ BK423 1 (.int .i64 a1_1); have hcz23_2 := cz_ BK423 2 (.int .i64 a1_2); have hfz23_0 := fz_ BK423 0; have hfz23_1 := fz_ BK423 1; have hfz23_2 := fz_ BK423 2) | ((with_reducible refine gate_callee (f := 96) rfl ?_); refine gl_ (some 10) Try.func96 #[.slice A0 l0.length c0, .agg #[.int .i64 a1_0, .int .i64 a1_1, .int .i64 a1_2]] ?_; (with_reducible refine (impl_isUsed.calls k _ _ l0 a1_0 a1_1 a1_2 true _ ?side1 ?side2 A3.out).mono ?_); (case side1 => exact cb_ HR0 HB); (case side2 => exact HC0.out); rintro e w24 ⟨rfl, hb⟩; refine ⟨_, rfl, ?_⟩; replace BK423 := ab_ BK423 hb; replace HB := at_ HB hb; clear hb) | ((with_reducible refine gate_callee (f := 89) rfl ?_); refine gl_ (some 13) Try.func89 #[.slice A0 l0.length c0] ?_; (with_reducible refine (slices_Clone_impl_Route_impl_Route.calls _ _ l0 t425 _ ?side1 ?side2 A5.out).mono ?_); (case side1 => exact cb_ HR0 HB); (case side2 => exact HC0.out); rintro e w25 ⟨v426, rfl, ho0, hb⟩; refine ⟨_, rfl, ?_⟩; have HO427 := Aside0.mk (Kd.R_lower (Kd.R_newB ho0 (g := gb423) (o := .cells #[.int .i64 a1_0, .int .i64 a1_1, .int .i64 a1_2] 30 (0, 0)) (bx_ BK423)) (bz_ HB)); replace BK423 := ab_ BK423 hb; replace HB := at_ HB hb; clear hb ho0; obtain ⟨Ao26, co26, eo26⟩ := Kd.R_slice HO427.out; subst eo26) | ((with_reducible refine gate_callee (f := 97) rfl ?_); refine gl_ (some 15) Try.func97 #[.slice Ao26 t425.length co26, .func (.func 98) #[] #[.pointer (some ⟨gb423, 0, none⟩)]] ?_; (with_reducible refine (slices_DeleteFunc_impl_Route_impl_Route.calls k (fun k_ => some k_ = (.slice Ao26 t425.length co26 : Value).ownBlock) (.slice Ao26 t425.length co26) t425 _ [(⟨(⟨a1_0, a1_1⟩ : S28), a1_2⟩ : S30)] t428 w _ ?side1 ?side2 ?side3 A6.out).mono ?_); (case side1 => exact by_ HB); (case side2 => exact Kd.R_tight rfl HO427.out); (case side3 => exact C_box1_kept (cs := [.int .i64 a1_0, .int .i64 a1_1, .int .i64 a1_2]) (bx_ BK423) (fun hs_ => (fun e_ => (Kd.R_away HO427.out (fun _ hk => hk.2)) e_) hs_) (fun W_ hk_ => k30_mk _ (⟨(⟨a1_0, a1_1⟩ : S28), a1_2⟩ : S30) )); rintro e w27 ⟨v429, rfl, ho0, hb, hkp⟩; refine ⟨_, rfl, ?_⟩; have HO430 := Aside0.mk (Kd.R_mono (ok' := fun k_ => k_ ≠ gb423) ho0 (fun k_ hk_ => Or.elim hk_ (fun hs_ => fun e_ => (Kd.R_away HO427.out (fun _ hk => hk.2)) (by rw [← e_]; exact hs_)) (fun hn_ => (Kd.freshB (g := gb423) (o := .cells #[.int .i64 a1_0, .int .i64 a1_1, .int .i64 a1_2] 30 (0, 0)) (bx_ BK423) k_ hn_)))); replace BK423 := bk_ BK423 hkp (fun hs_ => (fun e_ => (Kd.R_away HO427.out (fun _ hk => hk.2)) e_) hs_); replace HB := Aside0.mk (hb); clear HO427 hb hkp ho0; have hcz28_0 := cz_ BK423 0 (.int .i64 a1_0); have hcz28_1 := cz_ BK423 1 (.int .i64 a1_1); have hcz28_2 := cz_ BK423 2 (.int .i64 a1_2); have hfz28_0 := fz_ BK423 0; have hfz28_1 := fz_ BK423 1; have hfz28_2 := fz_ BK423 2; obtain ⟨Ao29, co29, eo29⟩ := Kd.R_slice HO430.out; subst eo29) | ((with_reducible refine gate_callee (f := 94) rfl ?_); refine gl_ (some 21) Try.func94 #[.slice Ao29 t428.length co29, .int .i64 a1_0] ?_; (with_reducible refine (impl_best.calls k _ _ t428 a1_0 t431 t432 t433 false _ ?side1 ?side2 A7.out).mono ?_); (case side1 => exact rc_ HO430); (case side2 => exact (Kd.R_reads' HO430.out).2.1); rintro e w30 ⟨rfl, hb⟩; refine ⟨_, rfl, ?_⟩; replace HO430 := rb_ HO430 hb; replace BK423 := ab_ BK423 hb; replace HB := at_ HB hb; clear hb) | ((with_reducible refine gate_dst (N := 6) rfl ?_); refine be_ 6 #[.int .i64 0, .int .i64 0, .int .i64 0] 30 ?_; intro gb435 hg w31 BK435 hb; have GW435 := ge_ HB hg; have GE435 := ge_ HB hg; have NB423_435 := nl_ BK423 hg; have NB435_423 := ng_ BK423 hg; replace HO430 := Aside0.mk (Kd.R_below (Kd.R_elderB (hd_ HO430) gb435 (Nat.le_of_eq hg.symm)) hb); replace HB := at_ HB hb; replace BK423 := ab_ BK423 hb; clear hb hg; have hnb32 := NB435_423.out; have hnc32 := NB423_435.out; have hcz33_0 := cz_ BK435 0 (.int .i64 0); have hcz33_1 := cz_ BK435 1 (.int .i64 0); have hcz33_2 := cz_ BK435 2 (.int .i64 0); have hfz33_0 := fz_ BK435 0; have hfz33_1 := fz_ BK435 1; have hfz33_2 := fz_ BK435 2))
 go_ret
 exact ⟨by first | rfl | (simp [errW_none, errW_some] <;> rfl) | (simp [*, errW_none, errW_some] <;> rfl), bw112_⟩

end Go.Proofs.Ytjepmdngbafonaa.QFnSqueezed
