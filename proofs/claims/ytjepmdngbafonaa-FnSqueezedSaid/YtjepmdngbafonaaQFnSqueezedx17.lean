/- Contracts of functions that the law reaches: what each call returns and what it leaves in memory. Made by this session over the print of the kit. -/
import Derived.Test.YtjepmdngbafonaaQFnSqueezedx0
import Derived.Test.YtjepmdngbafonaaQFnSqueezedx4
import Derived.Test.YtjepmdngbafonaaQFnSqueezedx5
import Derived.Test.YtjepmdngbafonaaQFnSqueezedx6
import Derived.Test.YtjepmdngbafonaaQFnSqueezedx15
namespace Go.Proofs.Ytjepmdngbafonaa.QFnSqueezed
open Go.RowKit Go.Proofs.YtjepmdngbafonaaZ.PrintWords Go.Proofs.YtjepmdngbafonaaZ.PrintLast Go.Proofs.YtjepmdngbafonaaZ.PrintMore
attribute [local go_sem] max2_int min2_int max_two min_two max_three min_three max_four min_four   -- for this text's walks alone
set_option linter.unusedVariables false
set_option linter.unusedSimpArgs false
def ba17_0 := bs_ 21 0
def ba17_1 := bs_ 21 1
def ba17_2 := bs_ 21 3
def ba17_3 := bs_ 21 7
def ba17_4 := bs_ 21 15
def ba17_5 := bs_ 21 31
def ba17_6 := bs_ 21 63
def ba17_7 := bs_ 21 127
def ba17_8 := bs_ 21 255
def ba17_9 := bs_ 21 511
def ba17_10 := bs_ 21 1023
def ba17_11 := bs_ 21 2047
def ba17_12 := bs_ 21 4095
def ba17_13 := bs_ 21 8191
def ba17_14 := bs_ 21 16383
def ba17_15 := bs_ 21 32767
def ba17_16 := bs_ 21 65535
def ba17_17 := bs_ 21 131071
def ba17_18 := bs_ 21 262143
def ba17_19 := bs_ 21 524287
def ba17_20 := bs_ 21 1048575
def ba17_21 := bs_ 21 2097151
def ba17_22 := bs_ 21 3071
def ba17_23 := bs_ 21 11263
def ba17_24 := bs_ 21 12287

/-! ### impl_Squeeze: function 20 -/
mutual
def impl_Squeeze.l0 : Nat → List (S30) → Option ((List (S30)) × Bool)
 | 0, _ => none
 | k + 1, x442000 => impl_Squeeze.l1 k (-1) x442000 (x442000.length : Int) 0 x442000
def impl_Squeeze.l1 : Nat → Int → List (S30) → Int → Int → List (S30) → Option ((List (S30)) × Bool)
 | 0, _, _, _, _, _ => none
 | k + 1, x5, x15, x16, x17, x442000 => if x17 < x16 then (if 0 ≤ x17 then (if x17 < (x15.length : Int) then ((impl_isRedundant.f k x442000 ((rd_T30 x15 x17).f0.f0) ((rd_T30 x15 x17).f0.f1) ((rd_T30 x15 x17).f1)).bind fun t445 => (if t445 = true then (if x5 < 0 then (impl_Squeeze.l1 k x17 x15 x16 (wrap64 (x17 + 1)) x442000) else (if 0 ≤ x5 then (if x5 < (x442000.length : Int) then (if ((rd_T30 x15 x17).f0.f1) > ((rd_T30 x442000 x5).f0.f1) then (impl_Squeeze.l1 k x17 x15 x16 (wrap64 (x17 + 1)) x442000) else (impl_Squeeze.l1 k x5 x15 x16 (wrap64 (x17 + 1)) x442000)) else (none)) else (none))) else (impl_Squeeze.l1 k x5 x15 x16 (wrap64 (x17 + 1)) x442000))) else (none)) else (none)) else (if x5 < 0 then (some (x442000, true)) else ((slices_Delete_impl_Route_impl_Route.f x442000 x5 (wrap64 (x5 + 1))).bind fun t447 => (impl_Squeeze.l0 k t447)))
end
def impl_Squeeze.f (k : Nat) (l0_0 : List (S30)) : Option ((List (S30)) × Bool) := (impl_ownTable.f l0_0).bind fun t438 => ((impl_TableOk.f k l0_0).bind fun t442 => (if t442 = true then (impl_Squeeze.l0 k t438) else (some (t438, false))))
def impl_Squeeze.T8 : Bool × List (List Nat × List Nat) := (true, [([], []), ([0], [0]), ([], []), ([1, 2], [1, 2]), ([3, 3], [3]), ([4], [4]), ([5, 4], [4, 5]), ([6, 4, 4], [4, 6]), ([7], [7]), ([8, 7], [7, 8]), ([9, 7], [7, 9]), ([7], [7]), ([11, 7], [7, 11]), ([7], [7]), ([12, 13, 7], [7, 12, 13]), ([14, 7], [7, 14]), ([15, 7], [7, 15]), ([16, 7], [7, 16]), ([10, 17, 7], [7, 10, 17]), ([7, 18, 4], [4, 7, 18]), ([4, 19], [4, 19])])
def impl_Squeeze.B8 : List Nat := [0, 1, 0, 7, 15, 31, 63, 127, 255, 511, 1023, 255, 2303, 255, 14591, 30975, 63743, 129279, 262143, 524287, 1048575]
theorem impl_Squeeze.tab8 : rtab .any (opsOf Try.f20 8) = impl_Squeeze.T8 := by kernel_rfl
theorem impl_Squeeze.bits8 : waitsOk impl_Squeeze.T8.2 impl_Squeeze.B8 = true := by kernel_rfl
set_option maxHeartbeats 8000000 in
set_option maxRecDepth 100000 in
theorem impl_Squeeze.calls (k : Nat) (A0_0 : Option Addr) (c0_0 : Nat) (l0_0 : List (S30)) (r1 : List (S30)) (r2 : Bool) (w : World) (hr0_0 : Kd.C k30 w A0_0 l0_0.length l0_0) (hc0_0 : l0_0.length ≤ c0_0) (h : impl_Squeeze.f k l0_0 = some (r1, r2)) :
  Calls Try.prog 20 #[.agg #[.slice A0_0 l0_0.length c0_0]] w fun e w' => ∃ v0_ : Value, e = .returned (.tuple #[.agg #[v0_], .bool r2]) ∧ Kd.R k30 30 w' w.heap.size (fun _ => True) v0_ r1 ∧ Below w.heap.size w w' := by
 have hu26 := Try.underlying26
 have hu30 := Try.underlying30
 have HR0_0 := Aside0.mk hr0_0
 have HC0_0 := Aside0.mk hc0_0
 clear hr0_0 hc0_0
 have HB := Aside0.mk (Below.refl w.heap.size w)
 have H : ((impl_ownTable.f l0_0).bind fun t438 => ((impl_TableOk.f k l0_0).bind fun t442 => (if t442 = true then (impl_Squeeze.l0 k t438) else (some (t438, false))))) = some (r1, r2) := h
 clear h
 obtain ⟨t438, A2, H⟩ := ob_ H
 obtain ⟨t442, A3, H⟩ := ob_ H
 by_cases c4 : t442 = true
 rotate_left
 ·replace c4 := Bool.eq_false_iff.mpr c4
  subst c4
  rw [if_neg (show ¬ (false = true) by decide)] at H
  simp only [Option.some.injEq, Prod.mk.injEq] at H
  obtain ⟨rfl, rfl⟩ := H
  go_enter Try.func20, Try.ntmps20
  go_wp2_with (first | ((with_reducible refine gate_dst (N := 1) rfl ?_); refine be_ 1 #[.slice A0_0 l0_0.length c0_0] 26 ?_; intro gb436 hg w75 BK436 hb; have GW436 := ge_ HB hg; have GE436 := ge_ HB hg; replace HB := at_ HB hb; clear hb hg) | ((with_reducible refine gate_dst (N := 2) rfl ?_); refine be_ 2 #[.slice none 0 0] 26 ?_; intro gb437 hg w76 BK437 hb; have GW437 := ge_ HB hg; have GE437 := ge_ HB hg; have NB436_437 := nl_ BK436 hg; have NB437_436 := ng_ BK436 hg; replace HB := at_ HB hb; replace BK436 := ab_ BK436 hb; clear hb hg; have hnb77 := NB436_437.out; have hnc77 := NB437_436.out; have hcz78_0 := cz_ BK436 0 (.slice A0_0 l0_0.length c0_0); have hfz78_0 := fz_ BK436 0) | ((with_reducible refine gate_callee (f := 50) rfl ?_); refine gl_ (some 9) Try.func50 #[.agg #[.slice A0_0 l0_0.length c0_0]] ?_; (with_reducible refine (impl_ownTable.calls _ _ l0_0 t438 _ ?side1 ?side2 A2.out).mono ?_); (case side1 => exact cb_ HR0_0 HB); (case side2 => exact HC0_0.out); rintro e w79 ⟨v439, rfl, ho0, hb⟩; refine ⟨_, rfl, ?_⟩; have HO440 := Aside0.mk (Kd.R_lower ho0 (bz_ HB)); replace BK436 := ab_ BK436 hb; replace BK437 := ab_ BK437 hb; replace HB := at_ HB hb; clear hb ho0) | ((with_reducible refine gate_dst (N := 4) rfl ?_); refine be_ 4 #[.slice none 0 0] 26 ?_; intro gb441 hg w80 BK441 hb; have GW441 := ge_ HB hg; have GE441 := ge_ HB hg; have NB436_441 := nl_ BK436 hg; have NB441_436 := ng_ BK436 hg; have NB437_441 := nl_ BK437 hg; have NB441_437 := ng_ BK437 hg; replace HO440 := rb_ HO440 hb; replace HB := at_ HB hb; replace BK436 := ab_ BK436 hb; replace BK437 := ab_ BK437 hb; clear hb hg; obtain ⟨Ao81, co81, eo81⟩ := Kd.R_slice HO440.out; subst eo81; have hnb82 := NB441_436.out; have hnc82 := NB436_441.out; have hnb83 := NB441_437.out; have hnc83 := NB437_441.out; have hcz84_0 := cz_ BK441 0 (.slice none 0 0); have hfz84_0 := fz_ BK441 0; have hcz85_0 := cz_ BK436 0 (.slice A0_0 l0_0.length c0_0); have hfz85_0 := fz_ BK436 0) | ((with_reducible refine gate_callee (f := 48) rfl ?_); refine gl_ (some 11) Try.func48 #[.agg #[.slice A0_0 l0_0.length c0_0]] ?_; (with_reducible refine (impl_TableOk.calls k _ _ l0_0 false _ ?side1 ?side2 A3.out).mono ?_); (case side1 => exact Kd.C_below HR0_0.out (bw112_)); (case side2 => exact HC0_0.out); rintro e w86 ⟨rfl, hb⟩; refine ⟨_, rfl, ?_⟩; replace HO440 := rs_ HO440 BK441 hb; replace BK436 := bf_ BK436 NB436_441 hb; replace BK437 := bf_ BK437 NB437_441 hb; replace BK441 := Aside0.mk (blk_below (g := gb441) (o := .cells #[.slice Ao81 t438.length co81] 26 (0, 0)) (by refine bd_ ?_; refine blk_put (cs := #[.slice none 0 0]) ?_ 0 _ rfl; refine bd_ ?_; exact BK441.out) hb); replace HB := at_ HB hb; clear hb; have hcz87_0 := cz_ BK441 0 (.slice Ao81 t438.length co81); have hfz87_0 := fz_ BK441 0; have hcz88_0 := cz_ BK437 0 (.slice none 0 0); have hfz88_0 := fz_ BK437 0))
  refine bodyPost_ret (results_ct rfl _ _ gb437 26 #[.slice Ao81 t438.length co81] (0, 0) _ rfl (by refine bd_ ?_; refine blk_put (cs := #[.slice none 0 0]) ?_ 0 _ rfl; refine bd_ ?_; exact BK437.out) Try.underlying26 rfl (by kernel_rfl)) rfl ?_
  exact ⟨_, by first | rfl | (simp [errW_none, errW_some] <;> rfl) | (simp [*, errW_none, errW_some] <;> rfl), by (with_reducible repeat (first | apply Kd.R_alloc | apply Kd.R_drewN | apply Kd.R_drew)); exact Kd.R_mono (Kd.R_far (Kd.R_types HO440.out BK437.out (by decide)) (fun _ hk => hk.2) _) (fun _ hk => trivial), bw112_⟩
 subst c4
 rw [if_pos rfl] at H
 have H' := Aside0.mk H
 clear H
 go_enter Try.func20, Try.ntmps20
 go_wp2_with (first | ((with_reducible refine gate_dst (N := 1) rfl ?_); refine be_ 1 #[.slice A0_0 l0_0.length c0_0] 26 ?_; intro gb436 hg w5 BK436 hb; have GW436 := ge_ HB hg; have GE436 := ge_ HB hg; replace HB := at_ HB hb; clear hb hg) | ((with_reducible refine gate_dst (N := 2) rfl ?_); refine be_ 2 #[.slice none 0 0] 26 ?_; intro gb437 hg w6 BK437 hb; have GW437 := ge_ HB hg; have GE437 := ge_ HB hg; have NB436_437 := nl_ BK436 hg; have NB437_436 := ng_ BK436 hg; replace HB := at_ HB hb; replace BK436 := ab_ BK436 hb; clear hb hg; have hnb7 := NB436_437.out; have hnc7 := NB437_436.out; have hcz8_0 := cz_ BK436 0 (.slice A0_0 l0_0.length c0_0); have hfz8_0 := fz_ BK436 0) | ((with_reducible refine gate_callee (f := 50) rfl ?_); refine gl_ (some 9) Try.func50 #[.agg #[.slice A0_0 l0_0.length c0_0]] ?_; (with_reducible refine (impl_ownTable.calls _ _ l0_0 t438 _ ?side1 ?side2 A2.out).mono ?_); (case side1 => exact cb_ HR0_0 HB); (case side2 => exact HC0_0.out); rintro e w9 ⟨v439, rfl, ho0, hb⟩; refine ⟨_, rfl, ?_⟩; have HO440 := Aside0.mk (Kd.R_lower ho0 (bz_ HB)); replace BK436 := ab_ BK436 hb; replace BK437 := ab_ BK437 hb; replace HB := at_ HB hb; clear hb ho0) | ((with_reducible refine gate_dst (N := 4) rfl ?_); refine be_ 4 #[.slice none 0 0] 26 ?_; intro gb441 hg w10 BK441 hb; have GW441 := ge_ HB hg; have GE441 := ge_ HB hg; have NB436_441 := nl_ BK436 hg; have NB441_436 := ng_ BK436 hg; have NB437_441 := nl_ BK437 hg; have NB441_437 := ng_ BK437 hg; replace HO440 := rb_ HO440 hb; replace HB := at_ HB hb; replace BK436 := ab_ BK436 hb; replace BK437 := ab_ BK437 hb; clear hb hg; obtain ⟨Ao11, co11, eo11⟩ := Kd.R_slice HO440.out; subst eo11; have hnb12 := NB441_436.out; have hnc12 := NB436_441.out; have hnb13 := NB441_437.out; have hnc13 := NB437_441.out; have hcz14_0 := cz_ BK441 0 (.slice none 0 0); have hfz14_0 := fz_ BK441 0; have hcz15_0 := cz_ BK436 0 (.slice A0_0 l0_0.length c0_0); have hfz15_0 := fz_ BK436 0) | ((with_reducible refine gate_callee (f := 48) rfl ?_); refine gl_ (some 11) Try.func48 #[.agg #[.slice A0_0 l0_0.length c0_0]] ?_; (with_reducible refine (impl_TableOk.calls k _ _ l0_0 true _ ?side1 ?side2 A3.out).mono ?_); (case side1 => exact Kd.C_below HR0_0.out (bw112_)); (case side2 => exact HC0_0.out); rintro e w16 ⟨rfl, hb⟩; refine ⟨_, rfl, ?_⟩; replace HO440 := rs_ HO440 BK441 hb; replace BK436 := bf_ BK436 NB436_441 hb; replace BK437 := bf_ BK437 NB437_441 hb; replace BK441 := Aside0.mk (blk_below (g := gb441) (o := .cells #[.slice Ao11 t438.length co11] 26 (0, 0)) (by refine bd_ ?_; refine blk_put (cs := #[.slice none 0 0]) ?_ 0 _ rfl; refine bd_ ?_; exact BK441.out) hb); replace HB := at_ HB hb; clear hb))
 (try simp only [Act.put, List.setIfInBounds_toArray, List.set_cons_zero, List.set_cons_succ])
 go_loopg [] k (fun kq w' => ∃ (x442000_1 : List (S30)) (u442000 : Value), Aside0 (impl_Squeeze.l0 kq x442000_1 = some (r1, r2)) ∧ Aside0 (kq ≤ k) ∧ Aside0 (Kd.R k30 30 w' w.heap.size (fun _ => True) u442000 x442000_1) ∧ Aside0 (w'.heap[gb436]? = some (.cells #[(.slice A0_0 l0_0.length c0_0)] 26 (0, 0))) ∧ Aside0 (w'.heap[gb437]? = some (.cells #[(.slice none 0 0)] 26 (0, 0))) ∧ Aside0 (w'.heap[gb441]? = some (.cells #[u442000] 26 (0, 0))) ∧ Aside0 (Below w.heap.size w w'))
 case atStart => exact ⟨(t438), (.slice Ao11 t438.length co11), H', ⟨Nat.le_refl _⟩, ⟨hd_ HO440⟩, ⟨bx_ BK436⟩, ⟨bx_ BK437⟩, ⟨bx_ BK441⟩, ⟨bw112_⟩⟩
 case round =>
  clear H' hcz14_0 hcz15_0 hcz8_0 hfz14_0 hfz15_0 hfz8_0
  obtain ⟨x442000_1, u442000, HA, HK1, HO_442000, BK436, BK437, BK441, HB⟩ := hrel
  cases gk with
  | zero => exact absurd HA.out (by simp [impl_Squeeze.l0])
  | succ k1 =>
   have H := HA.out
   clear HA
   simp only [impl_Squeeze.l0] at H
   have H' := Aside0.mk H
   clear H
   have hnb17 := NB441_436.out
   have hnc17 := NB436_441.out
   have hnb18 := NB441_437.out
   have hnc18 := NB437_441.out
   have hcz19_0 := cz_ BK441 0 (u442000)
   have hfz19_0 := fz_ BK441 0
   obtain ⟨Ao20, co20, eo20⟩ := Kd.R_slice HO_442000.out
   subst eo20
   go_wp2
   go_loopg [5, 17] k1 (fun kq v5 v17 w' => ∃ (x5_2 : Int) (x17_2 : Int), v5 = .int .i64 x5_2 ∧ v17 = .int .i64 x17_2 ∧ Aside0 (impl_Squeeze.l1 kq x5_2 x442000_1 (x442000_1.length : Int) x17_2 x442000_1 = some (r1, r2)) ∧ Aside0 (kq ≤ k1) ∧ Aside0 (Kd.R k30 30 w' w.heap.size (fun _ => True) (.slice Ao20 x442000_1.length co20) x442000_1) ∧ Aside0 (Kd.R k30 30 w' w.heap.size (fun _ => True) (.slice Ao20 x442000_1.length co20) x442000_1) ∧ Aside0 (w'.heap[gb436]? = some (.cells #[(.slice A0_0 l0_0.length c0_0)] 26 (0, 0))) ∧ Aside0 (w'.heap[gb437]? = some (.cells #[(.slice none 0 0)] 26 (0, 0))) ∧ Aside0 (w'.heap[gb441]? = some (.cells #[(.slice Ao20 x442000_1.length co20)] 26 (0, 0))) ∧ Aside0 (Below w.heap.size w w'))
   case atStart => exact ⟨((-1)), (0), er_, er_, H', ⟨Nat.le_refl _⟩, ⟨hd_ HO_442000⟩, ⟨hd_ HO_442000⟩, ⟨bx_ BK436⟩, ⟨bx_ BK437⟩, ⟨bx_ BK441⟩, ⟨bw112_⟩⟩
   case round =>
    clear H' hcz19_0 hfz19_0
    obtain ⟨x5_2, x17_2, rfl, rfl, HA, HK2, HO_15, HO_442000, BK436, BK437, BK441, HB⟩ := hrel
    cases gk with
    | zero => exact absurd HA.out (by simp [impl_Squeeze.l1])
    | succ k2 =>
     have H := HA.out
     clear HA
     simp only [impl_Squeeze.l1] at H
     by_cases c21 : x17_2 < (x442000_1.length : Int)
     rotate_left
     ·rw [if_neg c21] at H
      have c21b0 : decide (x17_2 < (x442000_1.length : Int)) = false := decide_eq_false c21
      clear c21
      by_cases c62 : x5_2 < 0
      ·rw [if_pos c62] at H
       have c62b0 : decide (x5_2 < 0) = true := decide_eq_true c62
       clear c62
       simp only [Option.some.injEq, Prod.mk.injEq] at H
       obtain ⟨rfl, rfl⟩ := H
       have hnb63 := NB441_436.out
       have hnc63 := NB436_441.out
       have hnb64 := NB441_437.out
       have hnc64 := NB437_441.out
       have hcz65_0 := cz_ BK441 0 (.slice Ao20 x442000_1.length co20)
       have hfz65_0 := fz_ BK441 0
       have hnb66 := NB437_436.out
       have hnc66 := NB436_437.out
       have hcz67_0 := cz_ BK437 0 (.slice none 0 0)
       have hfz67_0 := fz_ BK437 0
       go_wp2
       refine bodyPost_ret (results_ct rfl _ _ gb437 26 #[.slice Ao20 x442000_1.length co20] (0, 0) _ rfl (by refine bd_ ?_; refine blk_put (cs := #[.slice none 0 0]) ?_ 0 _ rfl; refine bd_ ?_; exact BK437.out) Try.underlying26 rfl (by kernel_rfl)) rfl ?_
       exact ⟨_, by first | rfl | (simp [errW_none, errW_some] <;> rfl) | (simp [*, errW_none, errW_some] <;> rfl), by (with_reducible repeat (first | apply Kd.R_alloc | apply Kd.R_drewN | apply Kd.R_drew)); exact Kd.R_mono (Kd.R_far (Kd.R_types HO_442000.out BK437.out (by decide)) (fun _ hk => hk.2) _) (fun _ hk => trivial), bw112_⟩
      rw [if_neg c62] at H
      have c62b0 : decide (x5_2 < 0) = false := decide_eq_false c62
      clear c62
      obtain ⟨t447, A68, H⟩ := ob_ H
      have H' := Aside0.mk H
      clear H
      have hnb69 := NB441_436.out
      have hnc69 := NB436_441.out
      have hnb70 := NB441_437.out
      have hnc70 := NB437_441.out
      have hcz71_0 := cz_ BK441 0 (.slice Ao20 x442000_1.length co20)
      have hfz71_0 := fz_ BK441 0
      go_wp2_with ((with_reducible refine gate_callee (f := 53) rfl ?_); refine gl_ (some 53) Try.func53 #[.slice Ao20 x442000_1.length co20, .int .i64 x5_2, .int .i64 (wrap64 (x5_2 + 1))] ?_; (with_reducible refine (slices_Delete_impl_Route_impl_Route.calls (fun k_ => some k_ = (.slice Ao20 x442000_1.length co20 : Value).ownBlock) (.slice Ao20 x442000_1.length co20) x442000_1 x5_2 (wrap64 (x5_2 + 1)) t447 w _ ?side1 ?side2 A68.out).mono ?_); (case side1 => exact by_ HB); (case side2 => exact Kd.R_tight rfl HO_442000.out); rintro e w72 ⟨v448, rfl, ho0, hb, hkp⟩; refine ⟨_, rfl, ?_⟩; have HO449 := Aside0.mk (Kd.R_mono (ok' := fun k_ => True) ho0 (fun k_ hk_ => trivial)); replace BK436 := bk_ BK436 hkp (fun hs_ => (Kd.R_ne HO_442000.out BK436.out (by decide)) hs_); replace BK437 := bk_ BK437 hkp (fun hs_ => (Kd.R_ne HO_442000.out BK437.out (by decide)) hs_); replace BK441 := bk_ BK441 hkp (fun hs_ => (Kd.R_ne HO_442000.out BK441.out (by decide)) hs_); replace HB := Aside0.mk (hb); clear HO_442000 hb hkp ho0; obtain ⟨Ao73, co73, eo73⟩ := Kd.R_slice HO449.out; subst eo73; have hcz74_0 := cz_ BK441 0 (.slice Ao20 x442000_1.length co20); have hfz74_0 := fz_ BK441 0)
      go_roundg k2
      case measure => have := HK1.out; have := HK2.out; omega
      case rel => exact ⟨(t447), (.slice Ao73 t447.length co73), H', ⟨by have := HK1.out; have := HK2.out; omega⟩, ⟨by (with_reducible repeat (first | apply Kd.R_alloc | apply Kd.R_drewN | apply Kd.R_drew)); exact Kd.R_mono (Kd.R_far (Kd.R_types HO449.out BK441.out (by decide)) (fun _ hk => hk.2) _) (fun _ hk => trivial)⟩, ⟨bc_ BK436⟩, ⟨bc_ BK437⟩, ⟨by refine bd_ ?_; refine blk_put (cs := #[.slice Ao20 x442000_1.length co20]) ?_ 0 _ rfl; refine bd_ ?_; exact BK441.out⟩, ⟨bw112_⟩⟩
     rw [if_pos c21] at H
     have c21b0 : decide (x17_2 < (x442000_1.length : Int)) = true := decide_eq_true c21
     clear c21
     obtain ⟨c22b0, H⟩ := iq_ H
     obtain ⟨c23b0, H⟩ := iq_ H
     obtain ⟨t445, A24, H⟩ := ob_ H
     by_cases c25 : t445 = true
     rotate_left
     ·replace c25 := Bool.eq_false_iff.mpr c25
      subst c25
      rw [if_neg (show ¬ (false = true) by decide)] at H
      have H' := Aside0.mk H
      clear H
      have p443 : 0 ≤ (x17_2 : Int) := oa_
      have q443 : x17_2 < (x442000_1.length : Int) := oa_
      obtain ⟨ad443, e443, hx443_0, hx443_1, hx443_2⟩ := at_T30 (Kd.R_reads' HO_15.out).2.2 x17_2 p443 q443
      cases e443
      obtain ⟨p443, q443⟩ := et_ p443 q443
      try go_wp2_with ((with_reducible refine gate_dst (N := 7) rfl ?_); refine be_ 7 #[.int .i64 0, .int .i64 0, .int .i64 0] 30 ?_; intro gb444 hg w54 BK444 hb; have GW444 := ge_ HB hg; have GE444 := ge_ HB hg; have NB436_444 := nl_ BK436 hg; have NB444_436 := ng_ BK436 hg; have NB437_444 := nl_ BK437 hg; have NB444_437 := ng_ BK437 hg; have NB441_444 := nl_ BK441 hg; have NB444_441 := ng_ BK441 hg; replace HO_15 := Aside0.mk (Kd.R_below (Kd.R_elderB (hd_ HO_15) gb444 (Nat.le_of_eq hg.symm)) hb); replace HO_442000 := Aside0.mk (Kd.R_below (Kd.R_elderB (hd_ HO_442000) gb444 (Nat.le_of_eq hg.symm)) hb); replace HB := at_ HB hb; replace BK436 := ab_ BK436 hb; replace BK437 := ab_ BK437 hb; replace BK441 := ab_ BK441 hb; clear hb hg; have hnb55 := NB444_436.out; have hnc55 := NB436_444.out; have hnb56 := NB444_437.out; have hnc56 := NB437_444.out; have hnb57 := NB444_441.out; have hnc57 := NB441_444.out; have hcz58_0 := cz_ BK444 0 (.int .i64 0); have hcz58_1 := cz_ BK444 1 (.int .i64 0); have hcz58_2 := cz_ BK444 2 (.int .i64 0); have hfz58_0 := fz_ BK444 0; have hfz58_1 := fz_ BK444 1; have hfz58_2 := fz_ BK444 2)
      generalize hW_ : (((w54.setCell ⟨gb444, 0, none⟩ (.int .i64 ((rd_T30 x442000_1 x17_2).f0.f0))).setCell ⟨gb444, 1, none⟩ (.int .i64 ((rd_T30 x442000_1 x17_2).f0.f1))).setCell ⟨gb444, 2, none⟩ (.int .i64 ((rd_T30 x442000_1 x17_2).f1))) = w59
      have n0_ : Aside0 (Kd.R k30 30 w59 w.heap.size (fun k_ => k_ ≠ gb444) (.slice (some ad443) x442000_1.length co20) x442000_1) := by subst hW_; exact ⟨by (with_reducible repeat (first | apply Kd.R_alloc | apply Kd.R_drewN | apply Kd.R_drew)); exact Kd.R_mono (Kd.R_far (Kd.R_far (Kd.R_far (Kd.R_mono HO_15.out (fun k_ hk => (⟨hk, hk.2⟩ : _ ∧ k_ ≠ gb444))) (fun _ hk => hk.2) _) (fun _ hk => hk.2) _) (fun _ hk => hk.2) _) (fun _ hk => hk.1.2)⟩
      have n1_ : Aside0 (Kd.R k30 30 w59 w.heap.size (fun k_ => k_ ≠ gb444) (.slice (some ad443) x442000_1.length co20) x442000_1) := by subst hW_; exact ⟨by (with_reducible repeat (first | apply Kd.R_alloc | apply Kd.R_drewN | apply Kd.R_drew)); exact Kd.R_mono (Kd.R_far (Kd.R_far (Kd.R_far (Kd.R_mono HO_442000.out (fun k_ hk => (⟨hk, hk.2⟩ : _ ∧ k_ ≠ gb444))) (fun _ hk => hk.2) _) (fun _ hk => hk.2) _) (fun _ hk => hk.2) _) (fun _ hk => hk.1.2)⟩
      have n2_ : Aside0 (w59.heap[gb436]? = some (.cells #[.slice A0_0 l0_0.length c0_0] 26 (0, 0))) := by subst hW_; exact ⟨bc_ BK436⟩
      have n3_ : Aside0 (w59.heap[gb437]? = some (.cells #[.slice none 0 0] 26 (0, 0))) := by subst hW_; exact ⟨bc_ BK437⟩
      have n4_ : Aside0 (w59.heap[gb441]? = some (.cells #[.slice (some ad443) x442000_1.length co20] 26 (0, 0))) := by subst hW_; exact ⟨bc_ BK441⟩
      have n5_ : Aside0 (w59.heap[gb444]? = some (.cells #[.int .i64 ((rd_T30 x442000_1 x17_2).f0.f0), .int .i64 ((rd_T30 x442000_1 x17_2).f0.f1), .int .i64 ((rd_T30 x442000_1 x17_2).f1)] 30 (0, 0))) := by subst hW_; exact ⟨by refine bd_ ?_; refine blk_put (cs := #[.int .i64 ((rd_T30 x442000_1 x17_2).f0.f0), .int .i64 ((rd_T30 x442000_1 x17_2).f0.f1), .int .i64 0]) ?_ 2 _ rfl; refine bd_ ?_; refine blk_put (cs := #[.int .i64 ((rd_T30 x442000_1 x17_2).f0.f0), .int .i64 0, .int .i64 0]) ?_ 1 _ rfl; refine bd_ ?_; refine blk_put (cs := #[.int .i64 0, .int .i64 0, .int .i64 0]) ?_ 0 _ rfl; refine bd_ ?_; exact BK444.out⟩
      have n6_ : Aside0 (Below w.heap.size w w59) := by subst hW_; exact ⟨bw112_⟩
      clear hW_ HO_15 HO_442000 BK436 BK437 BK441 BK444 HB
      have HO_15 := n0_
      have HO_442000 := n1_
      have BK436 := n2_
      have BK437 := n3_
      have BK441 := n4_
      have BK444 := n5_
      have HB := n6_
      clear n0_ n1_ n2_ n3_ n4_ n5_ n6_
      replace HO_15 := Aside0.mk (Kd.R_drew HO_15.out)
      replace HO_442000 := Aside0.mk (Kd.R_drew HO_442000.out)
      replace BK436 := ad_ BK436
      replace BK437 := ad_ BK437
      replace BK441 := ad_ BK441
      replace BK444 := ad_ BK444
      replace HB := Aside0.mk (below_drew1 HB.out)
      refine start_ (n := 21) (S := fun w' => w'.cell? ⟨gb441, 0, none⟩ = some (.slice (some ad443) x442000_1.length co20) ∧ w'.cell? ⟨gb444, 0, none⟩ = some (.int .i64 ((rd_T30 x442000_1 x17_2).f0.f0)) ∧ w'.cell? ⟨gb444, 1, none⟩ = some (.int .i64 ((rd_T30 x442000_1 x17_2).f0.f1)) ∧ w'.cell? ⟨gb444, 2, none⟩ = some (.int .i64 ((rd_T30 x442000_1 x17_2).f1))) (ds := []) ba17_0 (by kernel_rfl) rfl rfl ⟨bq5_ BK441 0, bq5_ BK444 0, bq5_ BK444 1, bq5_ BK444 2⟩ (fun hHeld => ?_); refine with_tabW impl_Squeeze.tab8 impl_Squeeze.bits8 (fun HT_ HW_ => ?_)
      generalize w59.drew = w60 at HO_15 HO_442000 BK436 BK437 BK441 BK444 HB hHeld ⊢
      refine pz_ 0 22 ba17_1 HT_ ?_
      refine pt_ 1 23 ba17_2 HT_ HW_ hHeld ?_
      refine pt_ 2 24 ba17_3 HT_ HW_ hHeld ?_
      refine on_ 3 (some 25) ba17_4 HT_ (fun K hK => ?_)
      refine gz_ Try.func62 #[.slice (some ad443) x442000_1.length co20, .agg #[.int .i64 ((rd_T30 x442000_1 x17_2).f0.f0), .int .i64 ((rd_T30 x442000_1 x17_2).f0.f1), .int .i64 ((rd_T30 x442000_1 x17_2).f1)]] ?_
      with_reducible refine (impl_isRedundant.calls k2 _ _ x442000_1 ((rd_T30 x442000_1 x17_2).f0.f0) ((rd_T30 x442000_1 x17_2).f0.f1) ((rd_T30 x442000_1 x17_2).f1) false _ ?side1 ?side2 A24.out).mono ?_
      (case side1 => exact rc_ HO_442000)
      (case side2 => exact (Kd.R_reads' HO_442000.out).2.1)
      rintro e w61 ⟨rfl, hb⟩
      refine ⟨_, rfl, ?_⟩
      replace HO_15 := rb_ HO_15 hb
      replace HO_442000 := rb_ HO_442000 hb
      replace BK436 := ab_ BK436 hb
      replace BK437 := ab_ BK437 hb
      replace BK441 := ab_ BK441 hb
      replace BK444 := ab_ BK444 hb
      replace HB := at_ HB hb
      clear hb
      refine hK.out _ _ ⟨bq5_ BK441 0, bq5_ BK444 0, bq5_ BK444 1, bq5_ BK444 2⟩ (fun hHeld => ?_)
      clear hK K
      refine nz_ 25 ?_
      refine pz_ 4 26 ba17_5 HT_ ?_
      refine pu_ 5 27 ba17_6 HT_ ?_
      refine pu_ 6 28 ba17_7 HT_ ?_
      refine pu_ 7 29 ba17_8 HT_ ?_
      refine pu_ 8 30 ba17_9 HT_ ?_
      refine pu_ 9 31 ba17_10 HT_ ?_
      refine pu_ 10 32 ba17_11 HT_ ?_
      refine pu_ 11 33 ba17_12 HT_ ?_
      refine pu_ 12 34 ba17_13 HT_ ?_
      refine pu_ 13 35 ba17_14 HT_ ?_
      refine pu_ 14 36 ba17_15 HT_ ?_
      refine pu_ 15 37 ba17_16 HT_ ?_
      refine pu_ 16 38 ba17_17 HT_ ?_
      refine pu_ 17 39 ba17_18 HT_ ?_
      refine pu_ 18 40 ba17_19 HT_ ?_
      refine pu_ 19 41 ba17_20 HT_ ?_
      refine pz_ 20 42 ba17_21 HT_ ?_
      refine done_ (done_of HT_.out (by kernel_rfl)) ?_
      go_wp2
      go_roundg k2
      case measure => have := HK1.out; have := HK2.out; omega
      case rel => exact ⟨(x5_2), (wrap64 (x17_2 + 1)), er_, er_, H', ⟨by have := HK1.out; have := HK2.out; omega⟩, ⟨by (with_reducible repeat (first | apply Kd.R_alloc | apply Kd.R_drewN | apply Kd.R_drew)); exact Kd.R_mono HO_15.out (fun _ hk => trivial)⟩, ⟨by (with_reducible repeat (first | apply Kd.R_alloc | apply Kd.R_drewN | apply Kd.R_drew)); exact Kd.R_mono HO_442000.out (fun _ hk => trivial)⟩, ⟨bx_ BK436⟩, ⟨bx_ BK437⟩, ⟨bx_ BK441⟩, ⟨bw112_⟩⟩
     subst c25
     rw [if_pos rfl] at H
     by_cases c26 : x5_2 < 0
     ·rw [if_pos c26] at H
      have c26b0 : decide (x5_2 < 0) = true := decide_eq_true c26
      clear c26
      have H' := Aside0.mk H
      clear H
      have p443 : 0 ≤ (x17_2 : Int) := oa_
      have q443 : x17_2 < (x442000_1.length : Int) := oa_
      obtain ⟨ad443, e443, hx443_0, hx443_1, hx443_2⟩ := at_T30 (Kd.R_reads' HO_15.out).2.2 x17_2 p443 q443
      cases e443
      obtain ⟨p443, q443⟩ := et_ p443 q443
      try go_wp2_with ((with_reducible refine gate_dst (N := 7) rfl ?_); refine be_ 7 #[.int .i64 0, .int .i64 0, .int .i64 0] 30 ?_; intro gb444 hg w27 BK444 hb; have GW444 := ge_ HB hg; have GE444 := ge_ HB hg; have NB436_444 := nl_ BK436 hg; have NB444_436 := ng_ BK436 hg; have NB437_444 := nl_ BK437 hg; have NB444_437 := ng_ BK437 hg; have NB441_444 := nl_ BK441 hg; have NB444_441 := ng_ BK441 hg; replace HO_15 := Aside0.mk (Kd.R_below (Kd.R_elderB (hd_ HO_15) gb444 (Nat.le_of_eq hg.symm)) hb); replace HO_442000 := Aside0.mk (Kd.R_below (Kd.R_elderB (hd_ HO_442000) gb444 (Nat.le_of_eq hg.symm)) hb); replace HB := at_ HB hb; replace BK436 := ab_ BK436 hb; replace BK437 := ab_ BK437 hb; replace BK441 := ab_ BK441 hb; clear hb hg; have hnb28 := NB444_436.out; have hnc28 := NB436_444.out; have hnb29 := NB444_437.out; have hnc29 := NB437_444.out; have hnb30 := NB444_441.out; have hnc30 := NB441_444.out; have hcz31_0 := cz_ BK444 0 (.int .i64 0); have hcz31_1 := cz_ BK444 1 (.int .i64 0); have hcz31_2 := cz_ BK444 2 (.int .i64 0); have hfz31_0 := fz_ BK444 0; have hfz31_1 := fz_ BK444 1; have hfz31_2 := fz_ BK444 2)
      generalize hW_ : (((w27.setCell ⟨gb444, 0, none⟩ (.int .i64 ((rd_T30 x442000_1 x17_2).f0.f0))).setCell ⟨gb444, 1, none⟩ (.int .i64 ((rd_T30 x442000_1 x17_2).f0.f1))).setCell ⟨gb444, 2, none⟩ (.int .i64 ((rd_T30 x442000_1 x17_2).f1))) = w32
      have n0_ : Aside0 (Kd.R k30 30 w32 w.heap.size (fun k_ => k_ ≠ gb444) (.slice (some ad443) x442000_1.length co20) x442000_1) := by subst hW_; exact ⟨by (with_reducible repeat (first | apply Kd.R_alloc | apply Kd.R_drewN | apply Kd.R_drew)); exact Kd.R_mono (Kd.R_far (Kd.R_far (Kd.R_far (Kd.R_mono HO_15.out (fun k_ hk => (⟨hk, hk.2⟩ : _ ∧ k_ ≠ gb444))) (fun _ hk => hk.2) _) (fun _ hk => hk.2) _) (fun _ hk => hk.2) _) (fun _ hk => hk.1.2)⟩
      have n1_ : Aside0 (Kd.R k30 30 w32 w.heap.size (fun k_ => k_ ≠ gb444) (.slice (some ad443) x442000_1.length co20) x442000_1) := by subst hW_; exact ⟨by (with_reducible repeat (first | apply Kd.R_alloc | apply Kd.R_drewN | apply Kd.R_drew)); exact Kd.R_mono (Kd.R_far (Kd.R_far (Kd.R_far (Kd.R_mono HO_442000.out (fun k_ hk => (⟨hk, hk.2⟩ : _ ∧ k_ ≠ gb444))) (fun _ hk => hk.2) _) (fun _ hk => hk.2) _) (fun _ hk => hk.2) _) (fun _ hk => hk.1.2)⟩
      have n2_ : Aside0 (w32.heap[gb436]? = some (.cells #[.slice A0_0 l0_0.length c0_0] 26 (0, 0))) := by subst hW_; exact ⟨bc_ BK436⟩
      have n3_ : Aside0 (w32.heap[gb437]? = some (.cells #[.slice none 0 0] 26 (0, 0))) := by subst hW_; exact ⟨bc_ BK437⟩
      have n4_ : Aside0 (w32.heap[gb441]? = some (.cells #[.slice (some ad443) x442000_1.length co20] 26 (0, 0))) := by subst hW_; exact ⟨bc_ BK441⟩
      have n5_ : Aside0 (w32.heap[gb444]? = some (.cells #[.int .i64 ((rd_T30 x442000_1 x17_2).f0.f0), .int .i64 ((rd_T30 x442000_1 x17_2).f0.f1), .int .i64 ((rd_T30 x442000_1 x17_2).f1)] 30 (0, 0))) := by subst hW_; exact ⟨by refine bd_ ?_; refine blk_put (cs := #[.int .i64 ((rd_T30 x442000_1 x17_2).f0.f0), .int .i64 ((rd_T30 x442000_1 x17_2).f0.f1), .int .i64 0]) ?_ 2 _ rfl; refine bd_ ?_; refine blk_put (cs := #[.int .i64 ((rd_T30 x442000_1 x17_2).f0.f0), .int .i64 0, .int .i64 0]) ?_ 1 _ rfl; refine bd_ ?_; refine blk_put (cs := #[.int .i64 0, .int .i64 0, .int .i64 0]) ?_ 0 _ rfl; refine bd_ ?_; exact BK444.out⟩
      have n6_ : Aside0 (Below w.heap.size w w32) := by subst hW_; exact ⟨bw112_⟩
      clear hW_ HO_15 HO_442000 BK436 BK437 BK441 BK444 HB
      have HO_15 := n0_
      have HO_442000 := n1_
      have BK436 := n2_
      have BK437 := n3_
      have BK441 := n4_
      have BK444 := n5_
      have HB := n6_
      clear n0_ n1_ n2_ n3_ n4_ n5_ n6_
      replace HO_15 := Aside0.mk (Kd.R_drew HO_15.out)
      replace HO_442000 := Aside0.mk (Kd.R_drew HO_442000.out)
      replace BK436 := ad_ BK436
      replace BK437 := ad_ BK437
      replace BK441 := ad_ BK441
      replace BK444 := ad_ BK444
      replace HB := Aside0.mk (below_drew1 HB.out)
      refine start_ (n := 21) (S := fun w' => w'.cell? ⟨gb441, 0, none⟩ = some (.slice (some ad443) x442000_1.length co20) ∧ w'.cell? ⟨gb444, 0, none⟩ = some (.int .i64 ((rd_T30 x442000_1 x17_2).f0.f0)) ∧ w'.cell? ⟨gb444, 1, none⟩ = some (.int .i64 ((rd_T30 x442000_1 x17_2).f0.f1)) ∧ w'.cell? ⟨gb444, 2, none⟩ = some (.int .i64 ((rd_T30 x442000_1 x17_2).f1))) (ds := []) ba17_0 (by kernel_rfl) rfl rfl ⟨bq5_ BK441 0, bq5_ BK444 0, bq5_ BK444 1, bq5_ BK444 2⟩ (fun hHeld => ?_); refine with_tabW impl_Squeeze.tab8 impl_Squeeze.bits8 (fun HT_ HW_ => ?_)
      generalize w32.drew = w33 at HO_15 HO_442000 BK436 BK437 BK441 BK444 HB hHeld ⊢
      refine pz_ 0 22 ba17_1 HT_ ?_
      refine pt_ 1 23 ba17_2 HT_ HW_ hHeld ?_
      refine pt_ 2 24 ba17_3 HT_ HW_ hHeld ?_
      refine on_ 3 (some 25) ba17_4 HT_ (fun K hK => ?_)
      refine gz_ Try.func62 #[.slice (some ad443) x442000_1.length co20, .agg #[.int .i64 ((rd_T30 x442000_1 x17_2).f0.f0), .int .i64 ((rd_T30 x442000_1 x17_2).f0.f1), .int .i64 ((rd_T30 x442000_1 x17_2).f1)]] ?_
      with_reducible refine (impl_isRedundant.calls k2 _ _ x442000_1 ((rd_T30 x442000_1 x17_2).f0.f0) ((rd_T30 x442000_1 x17_2).f0.f1) ((rd_T30 x442000_1 x17_2).f1) true _ ?side1 ?side2 A24.out).mono ?_
      (case side1 => exact rc_ HO_442000)
      (case side2 => exact (Kd.R_reads' HO_442000.out).2.1)
      rintro e w34 ⟨rfl, hb⟩
      refine ⟨_, rfl, ?_⟩
      replace HO_15 := rb_ HO_15 hb
      replace HO_442000 := rb_ HO_442000 hb
      replace BK436 := ab_ BK436 hb
      replace BK437 := ab_ BK437 hb
      replace BK441 := ab_ BK441 hb
      replace BK444 := ab_ BK444 hb
      replace HB := at_ HB hb
      clear hb
      refine hK.out _ _ ⟨bq5_ BK441 0, bq5_ BK444 0, bq5_ BK444 1, bq5_ BK444 2⟩ (fun hHeld => ?_)
      clear hK K
      refine nz_ 25 ?_
      refine pz_ 4 26 ba17_5 HT_ ?_
      refine pz_ 5 27 ba17_6 HT_ ?_
      refine pz_ 6 28 ba17_7 HT_ ?_
      refine pz_ 7 29 ba17_8 HT_ ?_
      refine pu_ 8 30 ba17_9 HT_ ?_
      refine pu_ 9 31 ba17_10 HT_ ?_
      refine pu_ 10 32 ba17_11 HT_ ?_
      refine pu_ 11 33 ba17_12 HT_ ?_
      refine pu_ 12 34 ba17_13 HT_ ?_
      refine pu_ 13 35 ba17_14 HT_ ?_
      refine pu_ 14 36 ba17_15 HT_ ?_
      refine pu_ 15 37 ba17_16 HT_ ?_
      refine pu_ 16 38 ba17_17 HT_ ?_
      refine pu_ 17 39 ba17_18 HT_ ?_
      refine pu_ 18 40 ba17_19 HT_ ?_
      refine pz_ 19 41 ba17_20 HT_ ?_
      refine pz_ 20 42 ba17_21 HT_ ?_
      refine done_ (done_of HT_.out (by kernel_rfl)) ?_
      go_wp2
      go_roundg k2
      case measure => have := HK1.out; have := HK2.out; omega
      case rel => exact ⟨(x17_2), (wrap64 (x17_2 + 1)), er_, er_, H', ⟨by have := HK1.out; have := HK2.out; omega⟩, ⟨by (with_reducible repeat (first | apply Kd.R_alloc | apply Kd.R_drewN | apply Kd.R_drew)); exact Kd.R_mono HO_15.out (fun _ hk => trivial)⟩, ⟨by (with_reducible repeat (first | apply Kd.R_alloc | apply Kd.R_drewN | apply Kd.R_drew)); exact Kd.R_mono HO_442000.out (fun _ hk => trivial)⟩, ⟨bx_ BK436⟩, ⟨bx_ BK437⟩, ⟨bx_ BK441⟩, ⟨bw112_⟩⟩
     rw [if_neg c26] at H
     have c26b0 : decide (x5_2 < 0) = false := decide_eq_false c26
     clear c26
     obtain ⟨c35b0, H⟩ := iq_ H
     obtain ⟨c36b0, H⟩ := iq_ H
     by_cases c37 : ((rd_T30 x442000_1 x17_2).f0.f1) > ((rd_T30 x442000_1 x5_2).f0.f1)
     ·rw [if_pos c37] at H
      have c37b0 : decide (((rd_T30 x442000_1 x5_2).f0.f1) < ((rd_T30 x442000_1 x17_2).f0.f1)) = true := decide_eq_true c37
      clear c37
      have H' := Aside0.mk H
      clear H
      have p443 : 0 ≤ (x17_2 : Int) := oa_
      have q443 : x17_2 < (x442000_1.length : Int) := oa_
      obtain ⟨ad443, e443, hx443_0, hx443_1, hx443_2⟩ := at_T30 (Kd.R_reads' HO_15.out).2.2 x17_2 p443 q443
      cases e443
      obtain ⟨p443, q443⟩ := et_ p443 q443
      try go_wp2_with ((with_reducible refine gate_dst (N := 7) rfl ?_); refine be_ 7 #[.int .i64 0, .int .i64 0, .int .i64 0] 30 ?_; intro gb444 hg w38 BK444 hb; have GW444 := ge_ HB hg; have GE444 := ge_ HB hg; have NB436_444 := nl_ BK436 hg; have NB444_436 := ng_ BK436 hg; have NB437_444 := nl_ BK437 hg; have NB444_437 := ng_ BK437 hg; have NB441_444 := nl_ BK441 hg; have NB444_441 := ng_ BK441 hg; replace HO_15 := Aside0.mk (Kd.R_below (Kd.R_elderB (hd_ HO_15) gb444 (Nat.le_of_eq hg.symm)) hb); replace HO_442000 := Aside0.mk (Kd.R_below (Kd.R_elderB (hd_ HO_442000) gb444 (Nat.le_of_eq hg.symm)) hb); replace HB := at_ HB hb; replace BK436 := ab_ BK436 hb; replace BK437 := ab_ BK437 hb; replace BK441 := ab_ BK441 hb; clear hb hg; have hnb39 := NB444_436.out; have hnc39 := NB436_444.out; have hnb40 := NB444_437.out; have hnc40 := NB437_444.out; have hnb41 := NB444_441.out; have hnc41 := NB441_444.out; have hcz42_0 := cz_ BK444 0 (.int .i64 0); have hcz42_1 := cz_ BK444 1 (.int .i64 0); have hcz42_2 := cz_ BK444 2 (.int .i64 0); have hfz42_0 := fz_ BK444 0; have hfz42_1 := fz_ BK444 1; have hfz42_2 := fz_ BK444 2)
      generalize hW_ : (((w38.setCell ⟨gb444, 0, none⟩ (.int .i64 ((rd_T30 x442000_1 x17_2).f0.f0))).setCell ⟨gb444, 1, none⟩ (.int .i64 ((rd_T30 x442000_1 x17_2).f0.f1))).setCell ⟨gb444, 2, none⟩ (.int .i64 ((rd_T30 x442000_1 x17_2).f1))) = w43
      have n0_ : Aside0 (Kd.R k30 30 w43 w.heap.size (fun k_ => k_ ≠ gb444) (.slice (some ad443) x442000_1.length co20) x442000_1) := by subst hW_; exact ⟨by (with_reducible repeat (first | apply Kd.R_alloc | apply Kd.R_drewN | apply Kd.R_drew)); exact Kd.R_mono (Kd.R_far (Kd.R_far (Kd.R_far (Kd.R_mono HO_15.out (fun k_ hk => (⟨hk, hk.2⟩ : _ ∧ k_ ≠ gb444))) (fun _ hk => hk.2) _) (fun _ hk => hk.2) _) (fun _ hk => hk.2) _) (fun _ hk => hk.1.2)⟩
      have n1_ : Aside0 (Kd.R k30 30 w43 w.heap.size (fun k_ => k_ ≠ gb444) (.slice (some ad443) x442000_1.length co20) x442000_1) := by subst hW_; exact ⟨by (with_reducible repeat (first | apply Kd.R_alloc | apply Kd.R_drewN | apply Kd.R_drew)); exact Kd.R_mono (Kd.R_far (Kd.R_far (Kd.R_far (Kd.R_mono HO_442000.out (fun k_ hk => (⟨hk, hk.2⟩ : _ ∧ k_ ≠ gb444))) (fun _ hk => hk.2) _) (fun _ hk => hk.2) _) (fun _ hk => hk.2) _) (fun _ hk => hk.1.2)⟩
      have n2_ : Aside0 (w43.heap[gb436]? = some (.cells #[.slice A0_0 l0_0.length c0_0] 26 (0, 0))) := by subst hW_; exact ⟨bc_ BK436⟩
      have n3_ : Aside0 (w43.heap[gb437]? = some (.cells #[.slice none 0 0] 26 (0, 0))) := by subst hW_; exact ⟨bc_ BK437⟩
      have n4_ : Aside0 (w43.heap[gb441]? = some (.cells #[.slice (some ad443) x442000_1.length co20] 26 (0, 0))) := by subst hW_; exact ⟨bc_ BK441⟩
      have n5_ : Aside0 (w43.heap[gb444]? = some (.cells #[.int .i64 ((rd_T30 x442000_1 x17_2).f0.f0), .int .i64 ((rd_T30 x442000_1 x17_2).f0.f1), .int .i64 ((rd_T30 x442000_1 x17_2).f1)] 30 (0, 0))) := by subst hW_; exact ⟨by refine bd_ ?_; refine blk_put (cs := #[.int .i64 ((rd_T30 x442000_1 x17_2).f0.f0), .int .i64 ((rd_T30 x442000_1 x17_2).f0.f1), .int .i64 0]) ?_ 2 _ rfl; refine bd_ ?_; refine blk_put (cs := #[.int .i64 ((rd_T30 x442000_1 x17_2).f0.f0), .int .i64 0, .int .i64 0]) ?_ 1 _ rfl; refine bd_ ?_; refine blk_put (cs := #[.int .i64 0, .int .i64 0, .int .i64 0]) ?_ 0 _ rfl; refine bd_ ?_; exact BK444.out⟩
      have n6_ : Aside0 (Below w.heap.size w w43) := by subst hW_; exact ⟨bw112_⟩
      clear hW_ HO_15 HO_442000 BK436 BK437 BK441 BK444 HB
      have HO_15 := n0_
      have HO_442000 := n1_
      have BK436 := n2_
      have BK437 := n3_
      have BK441 := n4_
      have BK444 := n5_
      have HB := n6_
      clear n0_ n1_ n2_ n3_ n4_ n5_ n6_
      replace HO_15 := Aside0.mk (Kd.R_drew HO_15.out)
      replace HO_442000 := Aside0.mk (Kd.R_drew HO_442000.out)
      replace BK436 := ad_ BK436
      replace BK437 := ad_ BK437
      replace BK441 := ad_ BK441
      replace BK444 := ad_ BK444
      replace HB := Aside0.mk (below_drew1 HB.out)
      have p446 : 0 ≤ (x5_2 : Int) := oa_
      have q446 : x5_2 < (x442000_1.length : Int) := oa_
      obtain ⟨ad446, e446, hx446_0, hx446_1, hx446_2⟩ := at_T30 (Kd.R_reads' HO_442000.out).2.2 x5_2 p446 q446
      obtain rfl : ad443 = ad446 := (by injection e446)
      obtain ⟨p446, q446⟩ := et_ p446 q446
      refine start_ (n := 21) (S := fun w' => w'.cell? ⟨gb441, 0, none⟩ = some (.slice (some ad443) x442000_1.length co20) ∧ w'.cell? ⟨gb444, 0, none⟩ = some (.int .i64 ((rd_T30 x442000_1 x17_2).f0.f0)) ∧ w'.cell? ⟨gb444, 1, none⟩ = some (.int .i64 ((rd_T30 x442000_1 x17_2).f0.f1)) ∧ w'.cell? ⟨gb444, 2, none⟩ = some (.int .i64 ((rd_T30 x442000_1 x17_2).f1)) ∧ w'.cell? (ad443.add ((x5_2).toNat * 3)) = some (.int .i64 ((rd_T30 x442000_1 x5_2).f0.f0)) ∧ w'.cell? ⟨(ad443.add ((x5_2).toNat * 3)).block, (ad443.add ((x5_2).toNat * 3)).off + 1, none⟩ = some (.int .i64 ((rd_T30 x442000_1 x5_2).f0.f1)) ∧ w'.cell? ⟨(ad443.add ((x5_2).toNat * 3)).block, (ad443.add ((x5_2).toNat * 3)).off + 2, none⟩ = some (.int .i64 ((rd_T30 x442000_1 x5_2).f1))) (ds := []) ba17_0 (by kernel_rfl) rfl rfl ⟨bq5_ BK441 0, bq5_ BK444 0, bq5_ BK444 1, bq5_ BK444 2, hx446_0, hx446_1, hx446_2⟩ (fun hHeld => ?_); refine with_tabW impl_Squeeze.tab8 impl_Squeeze.bits8 (fun HT_ HW_ => ?_)
      generalize w43.drew = w44 at HO_15 HO_442000 BK436 BK437 BK441 BK444 HB hx446_0 hx446_1 hx446_2 hHeld ⊢
      refine pz_ 0 22 ba17_1 HT_ ?_
      refine pt_ 1 23 ba17_2 HT_ HW_ hHeld ?_
      refine pt_ 2 24 ba17_3 HT_ HW_ hHeld ?_
      refine on_ 3 (some 25) ba17_4 HT_ (fun K hK => ?_)
      refine gz_ Try.func62 #[.slice (some ad443) x442000_1.length co20, .agg #[.int .i64 ((rd_T30 x442000_1 x17_2).f0.f0), .int .i64 ((rd_T30 x442000_1 x17_2).f0.f1), .int .i64 ((rd_T30 x442000_1 x17_2).f1)]] ?_
      with_reducible refine (impl_isRedundant.calls k2 _ _ x442000_1 ((rd_T30 x442000_1 x17_2).f0.f0) ((rd_T30 x442000_1 x17_2).f0.f1) ((rd_T30 x442000_1 x17_2).f1) true _ ?side1 ?side2 A24.out).mono ?_
      (case side1 => exact rc_ HO_442000)
      (case side2 => exact (Kd.R_reads' HO_442000.out).2.1)
      rintro e w45 ⟨rfl, hb⟩
      have HS4_ := (hb.cell (World.block_lt_of_cell? _ _ (hHeld.2.2.2.2.1))).trans (hHeld.2.2.2.2.1)
      have HS5_ := (hb.cell (World.block_lt_of_cell? _ _ (hHeld.2.2.2.2.2.1))).trans (hHeld.2.2.2.2.2.1)
      have HS6_ := (hb.cell (World.block_lt_of_cell? _ _ (hHeld.2.2.2.2.2.2))).trans (hHeld.2.2.2.2.2.2)
      refine ⟨_, rfl, ?_⟩
      replace HO_15 := rb_ HO_15 hb
      replace HO_442000 := rb_ HO_442000 hb
      replace BK436 := ab_ BK436 hb
      replace BK437 := ab_ BK437 hb
      replace BK441 := ab_ BK441 hb
      replace BK444 := ab_ BK444 hb
      replace HB := at_ HB hb
      clear hb
      refine hK.out _ _ ⟨bq5_ BK441 0, bq5_ BK444 0, bq5_ BK444 1, bq5_ BK444 2, HS4_, HS5_, HS6_⟩ (fun hHeld => ?_)
      clear hK K
      refine nz_ 25 ?_
      refine pz_ 4 26 ba17_5 HT_ ?_
      refine pz_ 5 27 ba17_6 HT_ ?_
      refine pz_ 6 28 ba17_7 HT_ ?_
      refine pz_ 7 29 ba17_8 HT_ ?_
      refine pz_ 8 30 ba17_9 HT_ ?_
      refine pz_ 9 31 ba17_10 HT_ ?_
      refine pz_ 11 33 ba17_22 HT_ ?_
      refine pz_ 13 35 ba17_23 HT_ ?_
      refine pt_ 10 32 ba17_24 HT_ HW_ hHeld ?_
      refine pt_ 12 34 ba17_14 HT_ HW_ hHeld ?_
      refine pz_ 14 36 ba17_15 HT_ ?_
      refine pz_ 15 37 ba17_16 HT_ ?_
      refine pz_ 16 38 ba17_17 HT_ ?_
      refine pt_ 17 39 ba17_18 HT_ HW_ hHeld ?_
      refine pz_ 18 40 ba17_19 HT_ ?_
      refine pz_ 19 41 ba17_20 HT_ ?_
      refine pz_ 20 42 ba17_21 HT_ ?_
      refine done_ (done_of HT_.out (by kernel_rfl)) ?_
      go_wp2
      go_roundg k2
      case measure => have := HK1.out; have := HK2.out; omega
      case rel => exact ⟨(x17_2), (wrap64 (x17_2 + 1)), er_, er_, H', ⟨by have := HK1.out; have := HK2.out; omega⟩, ⟨by (with_reducible repeat (first | apply Kd.R_alloc | apply Kd.R_drewN | apply Kd.R_drew)); exact Kd.R_mono HO_15.out (fun _ hk => trivial)⟩, ⟨by (with_reducible repeat (first | apply Kd.R_alloc | apply Kd.R_drewN | apply Kd.R_drew)); exact Kd.R_mono HO_442000.out (fun _ hk => trivial)⟩, ⟨bx_ BK436⟩, ⟨bx_ BK437⟩, ⟨bx_ BK441⟩, ⟨bw112_⟩⟩
     rw [if_neg c37] at H
     have c37b0 : decide (((rd_T30 x442000_1 x5_2).f0.f1) < ((rd_T30 x442000_1 x17_2).f0.f1)) = false := decide_eq_false c37
     clear c37
     have H' := Aside0.mk H
     clear H
     have p443 : 0 ≤ (x17_2 : Int) := oa_
     have q443 : x17_2 < (x442000_1.length : Int) := oa_
     obtain ⟨ad443, e443, hx443_0, hx443_1, hx443_2⟩ := at_T30 (Kd.R_reads' HO_15.out).2.2 x17_2 p443 q443
     cases e443
     obtain ⟨p443, q443⟩ := et_ p443 q443
     try go_wp2_with ((with_reducible refine gate_dst (N := 7) rfl ?_); refine be_ 7 #[.int .i64 0, .int .i64 0, .int .i64 0] 30 ?_; intro gb444 hg w46 BK444 hb; have GW444 := ge_ HB hg; have GE444 := ge_ HB hg; have NB436_444 := nl_ BK436 hg; have NB444_436 := ng_ BK436 hg; have NB437_444 := nl_ BK437 hg; have NB444_437 := ng_ BK437 hg; have NB441_444 := nl_ BK441 hg; have NB444_441 := ng_ BK441 hg; replace HO_15 := Aside0.mk (Kd.R_below (Kd.R_elderB (hd_ HO_15) gb444 (Nat.le_of_eq hg.symm)) hb); replace HO_442000 := Aside0.mk (Kd.R_below (Kd.R_elderB (hd_ HO_442000) gb444 (Nat.le_of_eq hg.symm)) hb); replace HB := at_ HB hb; replace BK436 := ab_ BK436 hb; replace BK437 := ab_ BK437 hb; replace BK441 := ab_ BK441 hb; clear hb hg; have hnb47 := NB444_436.out; have hnc47 := NB436_444.out; have hnb48 := NB444_437.out; have hnc48 := NB437_444.out; have hnb49 := NB444_441.out; have hnc49 := NB441_444.out; have hcz50_0 := cz_ BK444 0 (.int .i64 0); have hcz50_1 := cz_ BK444 1 (.int .i64 0); have hcz50_2 := cz_ BK444 2 (.int .i64 0); have hfz50_0 := fz_ BK444 0; have hfz50_1 := fz_ BK444 1; have hfz50_2 := fz_ BK444 2)
     generalize hW_ : (((w46.setCell ⟨gb444, 0, none⟩ (.int .i64 ((rd_T30 x442000_1 x17_2).f0.f0))).setCell ⟨gb444, 1, none⟩ (.int .i64 ((rd_T30 x442000_1 x17_2).f0.f1))).setCell ⟨gb444, 2, none⟩ (.int .i64 ((rd_T30 x442000_1 x17_2).f1))) = w51
     have n0_ : Aside0 (Kd.R k30 30 w51 w.heap.size (fun k_ => k_ ≠ gb444) (.slice (some ad443) x442000_1.length co20) x442000_1) := by subst hW_; exact ⟨by (with_reducible repeat (first | apply Kd.R_alloc | apply Kd.R_drewN | apply Kd.R_drew)); exact Kd.R_mono (Kd.R_far (Kd.R_far (Kd.R_far (Kd.R_mono HO_15.out (fun k_ hk => (⟨hk, hk.2⟩ : _ ∧ k_ ≠ gb444))) (fun _ hk => hk.2) _) (fun _ hk => hk.2) _) (fun _ hk => hk.2) _) (fun _ hk => hk.1.2)⟩
     have n1_ : Aside0 (Kd.R k30 30 w51 w.heap.size (fun k_ => k_ ≠ gb444) (.slice (some ad443) x442000_1.length co20) x442000_1) := by subst hW_; exact ⟨by (with_reducible repeat (first | apply Kd.R_alloc | apply Kd.R_drewN | apply Kd.R_drew)); exact Kd.R_mono (Kd.R_far (Kd.R_far (Kd.R_far (Kd.R_mono HO_442000.out (fun k_ hk => (⟨hk, hk.2⟩ : _ ∧ k_ ≠ gb444))) (fun _ hk => hk.2) _) (fun _ hk => hk.2) _) (fun _ hk => hk.2) _) (fun _ hk => hk.1.2)⟩
     have n2_ : Aside0 (w51.heap[gb436]? = some (.cells #[.slice A0_0 l0_0.length c0_0] 26 (0, 0))) := by subst hW_; exact ⟨bc_ BK436⟩
     have n3_ : Aside0 (w51.heap[gb437]? = some (.cells #[.slice none 0 0] 26 (0, 0))) := by subst hW_; exact ⟨bc_ BK437⟩
     have n4_ : Aside0 (w51.heap[gb441]? = some (.cells #[.slice (some ad443) x442000_1.length co20] 26 (0, 0))) := by subst hW_; exact ⟨bc_ BK441⟩
     have n5_ : Aside0 (w51.heap[gb444]? = some (.cells #[.int .i64 ((rd_T30 x442000_1 x17_2).f0.f0), .int .i64 ((rd_T30 x442000_1 x17_2).f0.f1), .int .i64 ((rd_T30 x442000_1 x17_2).f1)] 30 (0, 0))) := by subst hW_; exact ⟨by refine bd_ ?_; refine blk_put (cs := #[.int .i64 ((rd_T30 x442000_1 x17_2).f0.f0), .int .i64 ((rd_T30 x442000_1 x17_2).f0.f1), .int .i64 0]) ?_ 2 _ rfl; refine bd_ ?_; refine blk_put (cs := #[.int .i64 ((rd_T30 x442000_1 x17_2).f0.f0), .int .i64 0, .int .i64 0]) ?_ 1 _ rfl; refine bd_ ?_; refine blk_put (cs := #[.int .i64 0, .int .i64 0, .int .i64 0]) ?_ 0 _ rfl; refine bd_ ?_; exact BK444.out⟩
     have n6_ : Aside0 (Below w.heap.size w w51) := by subst hW_; exact ⟨bw112_⟩
     clear hW_ HO_15 HO_442000 BK436 BK437 BK441 BK444 HB
     have HO_15 := n0_
     have HO_442000 := n1_
     have BK436 := n2_
     have BK437 := n3_
     have BK441 := n4_
     have BK444 := n5_
     have HB := n6_
     clear n0_ n1_ n2_ n3_ n4_ n5_ n6_
     replace HO_15 := Aside0.mk (Kd.R_drew HO_15.out)
     replace HO_442000 := Aside0.mk (Kd.R_drew HO_442000.out)
     replace BK436 := ad_ BK436
     replace BK437 := ad_ BK437
     replace BK441 := ad_ BK441
     replace BK444 := ad_ BK444
     replace HB := Aside0.mk (below_drew1 HB.out)
     have p446 : 0 ≤ (x5_2 : Int) := oa_
     have q446 : x5_2 < (x442000_1.length : Int) := oa_
     obtain ⟨ad446, e446, hx446_0, hx446_1, hx446_2⟩ := at_T30 (Kd.R_reads' HO_442000.out).2.2 x5_2 p446 q446
     obtain rfl : ad443 = ad446 := (by injection e446)
     obtain ⟨p446, q446⟩ := et_ p446 q446
     refine start_ (n := 21) (S := fun w' => w'.cell? ⟨gb441, 0, none⟩ = some (.slice (some ad443) x442000_1.length co20) ∧ w'.cell? ⟨gb444, 0, none⟩ = some (.int .i64 ((rd_T30 x442000_1 x17_2).f0.f0)) ∧ w'.cell? ⟨gb444, 1, none⟩ = some (.int .i64 ((rd_T30 x442000_1 x17_2).f0.f1)) ∧ w'.cell? ⟨gb444, 2, none⟩ = some (.int .i64 ((rd_T30 x442000_1 x17_2).f1)) ∧ w'.cell? (ad443.add ((x5_2).toNat * 3)) = some (.int .i64 ((rd_T30 x442000_1 x5_2).f0.f0)) ∧ w'.cell? ⟨(ad443.add ((x5_2).toNat * 3)).block, (ad443.add ((x5_2).toNat * 3)).off + 1, none⟩ = some (.int .i64 ((rd_T30 x442000_1 x5_2).f0.f1)) ∧ w'.cell? ⟨(ad443.add ((x5_2).toNat * 3)).block, (ad443.add ((x5_2).toNat * 3)).off + 2, none⟩ = some (.int .i64 ((rd_T30 x442000_1 x5_2).f1))) (ds := []) ba17_0 (by kernel_rfl) rfl rfl ⟨bq5_ BK441 0, bq5_ BK444 0, bq5_ BK444 1, bq5_ BK444 2, hx446_0, hx446_1, hx446_2⟩ (fun hHeld => ?_); refine with_tabW impl_Squeeze.tab8 impl_Squeeze.bits8 (fun HT_ HW_ => ?_)
     generalize w51.drew = w52 at HO_15 HO_442000 BK436 BK437 BK441 BK444 HB hx446_0 hx446_1 hx446_2 hHeld ⊢
     refine pz_ 0 22 ba17_1 HT_ ?_
     refine pt_ 1 23 ba17_2 HT_ HW_ hHeld ?_
     refine pt_ 2 24 ba17_3 HT_ HW_ hHeld ?_
     refine on_ 3 (some 25) ba17_4 HT_ (fun K hK => ?_)
     refine gz_ Try.func62 #[.slice (some ad443) x442000_1.length co20, .agg #[.int .i64 ((rd_T30 x442000_1 x17_2).f0.f0), .int .i64 ((rd_T30 x442000_1 x17_2).f0.f1), .int .i64 ((rd_T30 x442000_1 x17_2).f1)]] ?_
     with_reducible refine (impl_isRedundant.calls k2 _ _ x442000_1 ((rd_T30 x442000_1 x17_2).f0.f0) ((rd_T30 x442000_1 x17_2).f0.f1) ((rd_T30 x442000_1 x17_2).f1) true _ ?side1 ?side2 A24.out).mono ?_
     (case side1 => exact rc_ HO_442000)
     (case side2 => exact (Kd.R_reads' HO_442000.out).2.1)
     rintro e w53 ⟨rfl, hb⟩
     have HS4_ := (hb.cell (World.block_lt_of_cell? _ _ (hHeld.2.2.2.2.1))).trans (hHeld.2.2.2.2.1)
     have HS5_ := (hb.cell (World.block_lt_of_cell? _ _ (hHeld.2.2.2.2.2.1))).trans (hHeld.2.2.2.2.2.1)
     have HS6_ := (hb.cell (World.block_lt_of_cell? _ _ (hHeld.2.2.2.2.2.2))).trans (hHeld.2.2.2.2.2.2)
     refine ⟨_, rfl, ?_⟩
     replace HO_15 := rb_ HO_15 hb
     replace HO_442000 := rb_ HO_442000 hb
     replace BK436 := ab_ BK436 hb
     replace BK437 := ab_ BK437 hb
     replace BK441 := ab_ BK441 hb
     replace BK444 := ab_ BK444 hb
     replace HB := at_ HB hb
     clear hb
     refine hK.out _ _ ⟨bq5_ BK441 0, bq5_ BK444 0, bq5_ BK444 1, bq5_ BK444 2, HS4_, HS5_, HS6_⟩ (fun hHeld => ?_)
     clear hK K
     refine nz_ 25 ?_
     refine pz_ 4 26 ba17_5 HT_ ?_
     refine pz_ 5 27 ba17_6 HT_ ?_
     refine pz_ 6 28 ba17_7 HT_ ?_
     refine pz_ 7 29 ba17_8 HT_ ?_
     refine pz_ 8 30 ba17_9 HT_ ?_
     refine pz_ 9 31 ba17_10 HT_ ?_
     refine pz_ 11 33 ba17_22 HT_ ?_
     refine pz_ 13 35 ba17_23 HT_ ?_
     refine pt_ 10 32 ba17_24 HT_ HW_ hHeld ?_
     refine pt_ 12 34 ba17_14 HT_ HW_ hHeld ?_
     refine pz_ 14 36 ba17_15 HT_ ?_
     refine pz_ 15 37 ba17_16 HT_ ?_
     refine pz_ 16 38 ba17_17 HT_ ?_
     refine pt_ 17 39 ba17_18 HT_ HW_ hHeld ?_
     refine pz_ 18 40 ba17_19 HT_ ?_
     refine pz_ 19 41 ba17_20 HT_ ?_
     refine pz_ 20 42 ba17_21 HT_ ?_
     refine done_ (done_of HT_.out (by kernel_rfl)) ?_
     go_wp2
     go_roundg k2
     case measure => have := HK1.out; have := HK2.out; omega
     case rel => exact ⟨(x5_2), (wrap64 (x17_2 + 1)), er_, er_, H', ⟨by have := HK1.out; have := HK2.out; omega⟩, ⟨by (with_reducible repeat (first | apply Kd.R_alloc | apply Kd.R_drewN | apply Kd.R_drew)); exact Kd.R_mono HO_15.out (fun _ hk => trivial)⟩, ⟨by (with_reducible repeat (first | apply Kd.R_alloc | apply Kd.R_drewN | apply Kd.R_drew)); exact Kd.R_mono HO_442000.out (fun _ hk => trivial)⟩, ⟨bx_ BK436⟩, ⟨bx_ BK437⟩, ⟨bx_ BK441⟩, ⟨bw112_⟩⟩

end Go.Proofs.Ytjepmdngbafonaa.QFnSqueezed
