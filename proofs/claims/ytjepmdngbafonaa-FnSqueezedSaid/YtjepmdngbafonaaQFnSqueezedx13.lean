/- Contracts of functions that the law reaches: what each call returns and what it leaves in memory. Made by this session over the print of the kit. -/
import Derived.Test.YtjepmdngbafonaaQFnSqueezedx0
import Derived.Test.YtjepmdngbafonaaQFnSqueezedx6
import Derived.Test.YtjepmdngbafonaaQFnSqueezedx9
import Derived.Test.YtjepmdngbafonaaQFnSqueezedx11
namespace Go.Proofs.Ytjepmdngbafonaa.QFnSqueezed
open Go.RowKit Go.Proofs.YtjepmdngbafonaaZ.PrintWords Go.Proofs.YtjepmdngbafonaaZ.PrintLast Go.Proofs.YtjepmdngbafonaaZ.PrintMore
attribute [local go_sem] max2_int min2_int max_two min_two max_three min_three max_four min_four   -- for this text's walks alone
set_option linter.unusedVariables false
set_option linter.unusedSimpArgs false
def ba13_0 := bs_ 12 0
def ba13_1 := bs_ 12 1
def ba13_2 := bs_ 12 5
def ba13_3 := bs_ 12 13
def ba13_4 := bs_ 12 15
def ba13_5 := bs_ 12 31
def ba13_6 := bs_ 12 63
def ba13_7 := bs_ 12 2047
def ba13_8 := bs_ 12 127
def ba13_9 := bs_ 12 1087
def ba13_10 := bs_ 12 255
def ba13_11 := bs_ 12 511
def ba13_12 := bs_ 12 1023
def ba13_13 := bs_ 12 1151
def ba13_14 := bs_ 12 1279
def ba13_15 := bs_ 12 1535
def ba13_16 := bs_ 12 4095
def ba13_17 := bs_ 12 4
def ba13_18 := bs_ 12 7
def ba13_19 := bs_ 12 519
def ba13_20 := bs_ 12 543
def ba13_21 := bs_ 12 575
def ba13_22 := bs_ 12 639
def ba13_23 := bs_ 12 767
def ba13_24 := bs_ 12 527
def ba13_25 := bs_ 9 0
def ba13_26 := bs_ 9 1
def ba13_27 := bs_ 9 5
def ba13_28 := bs_ 9 13
def ba13_29 := bs_ 9 15
def ba13_30 := bs_ 9 31
def ba13_31 := bs_ 9 63
def ba13_32 := bs_ 9 127
def ba13_33 := bs_ 9 255
def ba13_34 := bs_ 9 511
def ba13_35 := bs_ 8 0
def ba13_36 := bs_ 8 1
def ba13_37 := bs_ 8 5
def ba13_38 := bs_ 8 13
def ba13_39 := bs_ 8 15
def ba13_40 := bs_ 8 31
def ba13_41 := bs_ 8 63
def ba13_42 := bs_ 8 127
def ba13_43 := bs_ 8 255
def ba13_44 := bs_ 10 0
def ba13_45 := bs_ 10 1
def ba13_46 := bs_ 10 5
def ba13_47 := bs_ 10 7
def ba13_48 := bs_ 10 15
def ba13_49 := bs_ 10 31
def ba13_50 := bs_ 10 63
def ba13_51 := bs_ 10 127
def ba13_52 := bs_ 10 255
def ba13_53 := bs_ 10 511
def ba13_54 := bs_ 10 1023

/-! ### spec_l02DrawTable: function 60 -/
mutual
def spec_l02DrawTable.l0 : Nat → Int → Int → List Int → Int → Int → List (S30) → Option ((List (S30)) × Int × Int)
 | 0, _, _, _, _, _, _ => none
 | k + 1, x1, x6, x1000, x1001, x1002, x292000 => if x6 < x1 then ((spec_l01DrawPrefix.f x1000 x1001 x1002).bind fun bt292 => (if (x292000.length : Int) > 0 then ((spec_l01Once.f x1000 bt292.2.2.1 bt292.2.2.2 2).bind fun bt297 => (spec_l02DrawTable.j1 k x1 x6 bt297.1 x1000 bt297.2.1 bt297.2.2 x292000 bt292.1 bt292.2.1)) else (spec_l02DrawTable.j1 k x1 x6 false x1000 bt292.2.2.1 bt292.2.2.2 x292000 bt292.1 bt292.2.1))) else ((spec_l01Once.f x1000 x1001 x1002 25).bind fun bt347 => (if bt347.1 = true then (spec_l02DrawTable.j2 k (decide ((x292000.length : Int) > 0)) x1000 bt347.2.1 bt347.2.2 x292000) else (spec_l02DrawTable.j2 k false x1000 bt347.2.1 bt347.2.2 x292000)))
def spec_l02DrawTable.j1 : Nat → Int → Int → Bool → List Int → Int → Int → List (S30) → Int → Int → Option ((List (S30)) × Int × Int)
 | 0, _, _, _, _, _, _, _, _, _ => none
 | k + 1, x1, x6, x30, x1000, x1001, x1002, x292000, x297000, x297001 => if x30 = true then ((spec_l01Below.f x1000 x1001 x1002 (x292000.length : Int)).bind fun bt300 => (if 0 ≤ bt300.1 then (if bt300.1 < (x292000.length : Int) then ((spec_Halves.f ((rd_T30 x292000 bt300.1).f0.f0) ((rd_T30 x292000 bt300.1).f0.f1)).bind fun bt305 => (if bt305.2.2.2.2 = true then ((spec_l01Once.f x1000 bt300.2.1 bt300.2.2 2).bind fun bt312 => (if bt312.1 = true then ((spec_l01Below.f x1000 bt312.2.1 bt312.2.2 4).bind fun bt315 => ((spec_PutRoute.f k x292000 bt305.2.2.1 bt305.2.2.2.1 bt315.1).bind fun bt318 => (spec_l02DrawTable.l0 k x1 (wrap64 (x6 + 1)) x1000 bt315.2.1 bt315.2.2 bt318.1))) else ((spec_l01Below.f x1000 bt312.2.1 bt312.2.2 4).bind fun bt323 => ((spec_PutRoute.f k x292000 bt305.1 bt305.2.1 bt323.1).bind fun bt326 => (spec_l02DrawTable.l0 k x1 (wrap64 (x6 + 1)) x1000 bt323.2.1 bt323.2.2 bt326.1))))) else ((spec_l01Below.f x1000 bt300.2.1 bt300.2.2 4).bind fun bt331 => ((spec_PutRoute.f k x292000 x297000 x297001 bt331.1).bind fun bt334 => (spec_l02DrawTable.l0 k x1 (wrap64 (x6 + 1)) x1000 bt331.2.1 bt331.2.2 bt334.1))))) else (none)) else (none))) else ((spec_l01Below.f x1000 x1001 x1002 4).bind fun bt339 => ((spec_PutRoute.f k x292000 x297000 x297001 bt339.1).bind fun bt342 => (spec_l02DrawTable.l0 k x1 (wrap64 (x6 + 1)) x1000 bt339.2.1 bt339.2.2 bt342.1)))
def spec_l02DrawTable.j2 : Nat → Bool → List Int → Int → Int → List (S30) → Option ((List (S30)) × Int × Int)
 | 0, _, _, _, _, _ => none
 | k + 1, x69, x1000, x1001, x1002, x292000 => if x69 = true then ((spec_l01Below.f x1000 x1001 x1002 (x292000.length : Int)).bind fun bt350 => ((spec_l01Below.f x1000 bt350.2.1 bt350.2.2 3).bind fun bt353 => (if bt353.1 = 0 then ((spec_l01PickInt.f x1000 bt353.2.1 bt353.2.2 (([(-1), 999, 1000] : List Int))).bind fun bt359 => (if 0 ≤ bt350.1 then (if bt350.1 < (x292000.length : Int) then (some ((x292000.set (bt350.1 : Int).toNat (⟨(⟨(rd_T30 x292000 bt350.1).f0.f0, (rd_T30 x292000 bt350.1).f0.f1⟩ : S28), bt359.1⟩ : S30)), bt359.2.1, bt359.2.2)) else (none)) else (none))) else (if bt353.1 = 1 then ((spec_l01DrawPrefix.f x1000 bt353.2.1 bt353.2.2).bind fun bt363 => (if 0 ≤ bt350.1 then (if bt350.1 < (x292000.length : Int) then (some ((x292000.set (bt350.1 : Int).toNat (⟨(⟨bt363.1, bt363.2.1⟩ : S28), (rd_T30 x292000 bt350.1).f1⟩ : S30)), bt363.2.2.1, bt363.2.2.2)) else (none)) else (none))) else (if bt353.1 = 2 then (if 0 < (x292000.length : Int) then (if x292000.length < 5864062014805 then (some ((x292000 ++ [(⟨(⟨(rd_T30 x292000 0).f0.f0, (rd_T30 x292000 0).f0.f1⟩ : S28), (rd_T30 x292000 0).f1⟩ : S30)]), bt353.2.1, bt353.2.2)) else (none)) else (none)) else (some (x292000, bt353.2.1, bt353.2.2))))))) else (some (x292000, x1001, x1002))
end
def spec_l02DrawTable.f (k : Nat) (s0_0 : List Int) (s0_1 : Int) (s0_2 : Int) (a1 : Int) : Option ((List (S30)) × Int × Int) := spec_l02DrawTable.l0 k a1 0 s0_0 s0_1 s0_2 ([] : List (S30))
def spec_l02DrawTable.T7 : Bool × List (List Nat × List Nat) := (true, [([], []), ([0], [0]), ([], []), ([], []), ([3], [3]), ([4], [4]), ([2, 5], [2, 5]), ([1, 6], [1, 6]), ([7], [7]), ([8], [8]), ([], []), ([10, 9, 6, 0, 1, 2, 3, 4, 5, 6, 7, 8, 9, 10], [9, 10])])
def spec_l02DrawTable.B7 : List Nat := [0, 1, 0, 0, 8, 24, 60, 127, 255, 511, 0, 2047]
theorem spec_l02DrawTable.tab7 : rtab .any (opsOf Try.f60 7) = spec_l02DrawTable.T7 := by kernel_rfl
theorem spec_l02DrawTable.bits7 : waitsOk spec_l02DrawTable.T7.2 spec_l02DrawTable.B7 = true := by kernel_rfl
def spec_l02DrawTable.T13 : Bool × List (List Nat × List Nat) := (true, [([], []), ([], []), ([], []), ([2], [2]), ([1, 3], [1, 3]), ([0, 4, 3], [0, 4]), ([5], [5]), ([6], [6]), ([6], [6]), ([], []), ([9, 7, 5, 0, 1, 2, 3, 4, 5, 6, 7, 9], [7, 9]), ([8, 10, 0, 1, 2, 3, 4, 5, 6, 7, 8, 9, 10], [8])])
def spec_l02DrawTable.B13 : List Nat := [0, 0, 0, 4, 14, 31, 63, 127, 127, 0, 767, 2047]
theorem spec_l02DrawTable.tab13 : rtab .any (opsOf Try.f60 13) = spec_l02DrawTable.T13 := by kernel_rfl
theorem spec_l02DrawTable.bits13 : waitsOk spec_l02DrawTable.T13.2 spec_l02DrawTable.B13 = true := by kernel_rfl
def spec_l02DrawTable.T19 : Bool × List (List Nat × List Nat) := (true, [([], []), ([0], [0]), ([], []), ([], []), ([], []), ([3, 4], [3, 4]), ([1, 2, 0, 1, 2, 3, 4, 5], [1, 2]), ([6, 0, 1, 2, 3, 4, 5], [6]), ([7, 5, 5, 0, 1, 2, 3, 4, 5], [5, 7])])
def spec_l02DrawTable.B19 : List Nat := [0, 1, 0, 0, 0, 24, 63, 127, 255]
theorem spec_l02DrawTable.tab19 : rtab .any (opsOf Try.f60 19) = spec_l02DrawTable.T19 := by kernel_rfl
theorem spec_l02DrawTable.bits19 : waitsOk spec_l02DrawTable.T19.2 spec_l02DrawTable.B19 = true := by kernel_rfl
def spec_l02DrawTable.T21 : Bool × List (List Nat × List Nat) := (true, [([], []), ([0], [0]), ([], []), ([], []), ([3], [3]), ([1, 2, 0, 1, 2, 3, 4], [1, 2]), ([5, 0, 1, 2, 3, 4], [5]), ([6, 4, 4, 0, 1, 2, 3, 4], [4, 6])])
def spec_l02DrawTable.B21 : List Nat := [0, 1, 0, 0, 8, 31, 63, 127]
theorem spec_l02DrawTable.tab21 : rtab .any (opsOf Try.f60 21) = spec_l02DrawTable.T21 := by kernel_rfl
theorem spec_l02DrawTable.bits21 : waitsOk spec_l02DrawTable.T21.2 spec_l02DrawTable.B21 = true := by kernel_rfl
def spec_l02DrawTable.T23 : Bool × List (List Nat × List Nat) := (true, [([], []), ([0], [0]), ([], []), ([2], [2]), ([3], [3]), ([4], [4]), ([5], [5]), ([1, 6], [1, 6]), ([0, 1, 2, 3, 4, 5, 6, 7], []), ([8, 7, 7, 0, 1, 2, 3, 4, 5, 6, 7], [7, 8])])
def spec_l02DrawTable.B23 : List Nat := [0, 1, 0, 4, 12, 28, 60, 127, 255, 511]
theorem spec_l02DrawTable.tab23 : rtab .any (opsOf Try.f60 23) = spec_l02DrawTable.T23 := by kernel_rfl
theorem spec_l02DrawTable.bits23 : waitsOk spec_l02DrawTable.T23.2 spec_l02DrawTable.B23 = true := by kernel_rfl
set_option maxHeartbeats 8000000 in
set_option maxRecDepth 100000 in
theorem spec_l02DrawTable.calls (k : Nat) (g : Nat) (s0_0 : List Int) (s0_1 : Int) (s0_2 : Int) (a1 : Int) (r1 : List (S30)) (r2 : Int) (r3 : Int) (w0 w : World) (hI : IsS112 w0 w g s0_0 s0_1 s0_2) (hB : Below w0.heap.size w0 w) (h : spec_l02DrawTable.f k s0_0 s0_1 s0_2 a1 = some (r1, r2, r3)) :
  Calls Try.prog 60 #[.pointer (some ⟨g, 0, none⟩), .int .i64 a1] w fun e w' => ∃ v0_ : Value, e = .returned (.agg #[v0_]) ∧ Kd.R k30 30 w' w.heap.size (fun _ => True) v0_ r1 ∧ IsS112 w0 w' g s0_0 r2 r3 ∧ Below w0.heap.size w0 w' ∧ KeepBut w w' g none := by
 have hu26 := Try.underlying26
 have hu28 := Try.underlying28
 have hu30 := Try.underlying30
 have HI0 := Aside0.mk hI
 have HK := Aside0.mk (KeepBut.refl w g none)
 have HL := Aside0.mk hB.size
 clear hI
 have HW0 := Aside0.mk hB.size
 have HB := Aside0.mk hB
 clear hB
 have H : (spec_l02DrawTable.l0 k a1 0 s0_0 s0_1 s0_2 ([] : List (S30))) = some (r1, r2, r3) := h
 clear h
 have H' := Aside0.mk H
 clear H
 go_enter Try.func60, Try.ntmps60
 go_wp2_with (first | ((with_reducible refine gate_dst (N := 4) rfl ?_); refine be_ 4 #[.slice none 0 0] 26 ?_; intro gb290 hg w3 BK290 hb; have GW290 := gw_ HK hg; have GE290 := gv_ HW0 HK hg; have NB0_290 := Aside0.mk ((by rw [hg]; exact Nat.ne_of_lt (IsS112.lt (show IsS112 w0 _ g s0_0 s0_1 s0_2 from is112_)) : g ≠ gb290)); have NB290_0 := Aside0.mk ((by rw [hg]; exact Nat.ne_of_gt (IsS112.lt (show IsS112 w0 _ g s0_0 s0_1 s0_2 from is112_)) : gb290 ≠ g)); replace HB := bs112_ hb; replace HK := kt_ HK (KeepBut.of_below hb g none); replace HI0 := Aside0.mk (IsS112.below is112_ hb); clear hb hg) | ((with_reducible refine gate_dst (N := 5) rfl ?_); refine be_ 5 #[.slice none 0 0] 26 ?_; intro gb291 hg w4 BK291 hb; have GW291 := gw_ HK hg; have GE291 := gv_ HW0 HK hg; have NB290_291 := nl_ BK290 hg; have NB291_290 := ng_ BK290 hg; have NB0_291 := Aside0.mk ((by rw [hg]; exact Nat.ne_of_lt (IsS112.lt (show IsS112 w0 _ g s0_0 s0_1 s0_2 from is112_)) : g ≠ gb291)); have NB291_0 := Aside0.mk ((by rw [hg]; exact Nat.ne_of_gt (IsS112.lt (show IsS112 w0 _ g s0_0 s0_1 s0_2 from is112_)) : gb291 ≠ g)); replace HB := bs112_ hb; replace HK := kt_ HK (KeepBut.of_below hb g none); replace BK290 := ab_ BK290 hb; replace HI0 := Aside0.mk (IsS112.below is112_ hb); clear hb hg; have hnb5 := NB291_290.out; have hnc5 := NB290_291.out; have hnb6 := NB291_0.out; have hnc6 := NB0_291.out; have hcz7_0 := cz_ BK291 0 (.slice none 0 0); have hfz7_0 := fz_ BK291 0))
 go_loopg [6] k (fun kq v6 w' => ∃ (x6_1 : Int) (x1001_1 : Int) (x1002_1 : Int) (x292000_1 : List (S30)) (u292000 : Value), v6 = .int .i64 x6_1 ∧ Aside0 (spec_l02DrawTable.l0 kq a1 x6_1 s0_0 x1001_1 x1002_1 x292000_1 = some (r1, r2, r3)) ∧ Aside0 (kq ≤ k) ∧ Aside0 (Kd.R k30 30 w' w.heap.size (fun _ => True) u292000 x292000_1) ∧ Aside0 (w'.heap[gb290]? = some (.cells #[(.slice none 0 0)] 26 (0, 0))) ∧ Aside0 (w'.heap[gb291]? = some (.cells #[u292000] 26 (0, 0))) ∧ Aside0 (IsS112 w0 w' g s0_0 x1001_1 x1002_1) ∧ Aside0 (KeepBut w w' g none) ∧ Aside0 (Below w0.heap.size w0 w'))
 case atStart => exact ⟨(0), (s0_1), (s0_2), (([] : List (S30))), (.slice none 0 0), er_, H', ⟨Nat.le_refl _⟩, ⟨by first | exact Kd.R_nil _ _ _ _ _ | exact Kd.N_nil _ _ _ _ _ | exact Kd.V_nil _ _ _ _ _ | exact Kd.Q_nil _ _ _ _ _ | exact Kd.S_nil _ _ _ _ _⟩, ⟨bc_ BK290⟩, ⟨by refine bd_ ?_; refine blk_put (cs := #[.slice none 0 0]) ?_ 0 _ rfl; refine bd_ ?_; exact BK291.out⟩, ⟨is112_⟩, ⟨kx_ HK⟩, ⟨bw112_⟩⟩
 case round =>
  clear H' hcz7_0 hfz7_0
  obtain ⟨x6_1, x1001_1, x1002_1, x292000_1, u292000, rfl, HA, HK1, HO_292000, BK290, BK291, HI0, HK, HB⟩ := hrel
  cases gk with
  | zero => exact absurd HA.out (by simp [spec_l02DrawTable.l0])
  | succ k1 =>
   have H := HA.out
   clear HA
   simp only [spec_l02DrawTable.l0] at H
   by_cases c8 : x6_1 < a1
   rotate_left
   ·rw [if_neg c8] at H
    have c8b0 : decide (x6_1 < a1) = false := decide_eq_false c8
    clear c8
    have HC216 := Aside0.mk H
    clear H
    go_upto_region 15 with (fail)
    go_cut [69] (fun v69 wc => ∃ (kq : Nat) (x69_215 : Bool) (x1001_215 : Int) (x1002_215 : Int), v69 = .bool x69_215 ∧ Aside0 (spec_l02DrawTable.j2 kq x69_215 s0_0 x1001_215 x1002_215 x292000_1 = some (r1, r2, r3)) ∧ Aside0 (kq ≤ k1) ∧ Aside0 (Kd.R k30 30 wc w.heap.size (fun _ => True) u292000 x292000_1) ∧ Aside0 (wc.heap[gb290]? = some (.cells #[(.slice none 0 0)] 26 (0, 0))) ∧ Aside0 (wc.heap[gb291]? = some (.cells #[u292000] 26 (0, 0))) ∧ Aside0 (IsS112 w0 wc g s0_0 x1001_215 x1002_215) ∧ Aside0 (KeepBut w wc g none) ∧ Aside0 (Below w0.heap.size w0 wc))
    case first =>
     have H := HC216.out
     clear HC216
     obtain ⟨⟨t347, t348, t349⟩, A217, H⟩ := ob_ H
     by_cases c218 : t347 = true
     ·subst c218
      rw [if_pos rfl] at H
      have H' := Aside0.mk H
      clear H
      go_wp2_with ((with_reducible refine gate_callee (f := 81) rfl ?_); refine gl_ (some 63) Try.func81 #[.pointer (some ⟨g, 0, none⟩), .int .i64 25] ?_; (with_reducible refine (spec_l01Once.calls g s0_0 x1001_1 x1002_1 25 true t348 t349 w0 _ ?side1 ?side2 A217.out).mono ?_); (case side1 => exact is112_); (case side2 => exact bw112_); rintro e w219 ⟨rfl, hi, hb, hk⟩; refine ⟨_, rfl, ?_⟩; replace HO_292000 := ak112_ HO_292000 (show IsS112 w0 _ g s0_0 x1001_1 x1002_1 from is112_) hk; replace BK290 := kb_ BK290 NB290_0 hk; replace BK291 := kb_ BK291 NB291_0 hk; replace HK := kt_ HK hk; replace HB := Aside0.mk (hb); replace HI0 := Aside0.mk (hi); clear hb hk hi; have hnb220 := NB291_290.out; have hnc220 := NB290_291.out; have hnb221 := NB291_0.out; have hnc221 := NB0_291.out; have hcz222_0 := cz_ BK291 0 (u292000); have hfz222_0 := fz_ BK291 0; obtain ⟨Ao223, co223, eo223⟩ := Kd.R_slice HO_292000.out; subst eo223)
      go_meet
      case rel => exact ⟨_, (decide ((x292000_1.length : Int) > 0)), (t348), (t349), er_, H', ⟨by have := HK1.out; first | omega | exact Nat.le_refl _⟩, ⟨hd_ HO_292000⟩, ⟨bx_ BK290⟩, ⟨bx_ BK291⟩, ⟨is112_⟩, ⟨kx_ HK⟩, ⟨bw112_⟩⟩
     replace c218 := Bool.eq_false_iff.mpr c218
     subst c218
     rw [if_neg (show ¬ (false = true) by decide)] at H
     have H' := Aside0.mk H
     clear H
     go_wp2_with ((with_reducible refine gate_callee (f := 81) rfl ?_); refine gl_ (some 63) Try.func81 #[.pointer (some ⟨g, 0, none⟩), .int .i64 25] ?_; (with_reducible refine (spec_l01Once.calls g s0_0 x1001_1 x1002_1 25 false t348 t349 w0 _ ?side1 ?side2 A217.out).mono ?_); (case side1 => exact is112_); (case side2 => exact bw112_); rintro e w224 ⟨rfl, hi, hb, hk⟩; refine ⟨_, rfl, ?_⟩; replace HO_292000 := ak112_ HO_292000 (show IsS112 w0 _ g s0_0 x1001_1 x1002_1 from is112_) hk; replace BK290 := kb_ BK290 NB290_0 hk; replace BK291 := kb_ BK291 NB291_0 hk; replace HK := kt_ HK hk; replace HB := Aside0.mk (hb); replace HI0 := Aside0.mk (hi); clear hb hk hi)
     go_meet
     case rel => exact ⟨_, (false), (t348), (t349), er_, H', ⟨by have := HK1.out; first | omega | exact Nat.le_refl _⟩, ⟨hd_ HO_292000⟩, ⟨bx_ BK290⟩, ⟨bx_ BK291⟩, ⟨is112_⟩, ⟨kx_ HK⟩, ⟨bw112_⟩⟩
    case rest =>
     clear HC216 c8b0
     obtain ⟨kq, x69_215, x1001_215, x1002_215, rfl, HA, HJ215, HO_292000, BK290, BK291, HI0, HK, HB⟩ := hcut
     cases kq with
     | zero => exact absurd HA.out (by simp [spec_l02DrawTable.j2])
     | succ kj215 =>
      have H := HA.out
      clear HA
      simp only [spec_l02DrawTable.j2] at H
      by_cases c225 : x69_215 = true
      rotate_left
      ·replace c225 := Bool.eq_false_iff.mpr c225
       subst c225
       rw [if_neg (show ¬ (false = true) by decide)] at H
       simp only [Option.some.injEq, Prod.mk.injEq] at H
       obtain ⟨rfl, rfl, rfl⟩ := H
       have hnb292 := NB291_290.out
       have hnc292 := NB290_291.out
       have hnb293 := NB291_0.out
       have hnc293 := NB0_291.out
       have hcz294_0 := cz_ BK291 0 (u292000)
       have hfz294_0 := fz_ BK291 0
       obtain ⟨Ao295, co295, eo295⟩ := Kd.R_slice HO_292000.out
       subst eo295
       have hnb296 := NB290_0.out
       have hnc296 := NB0_290.out
       have hcz297_0 := cz_ BK290 0 (.slice none 0 0)
       have hfz297_0 := fz_ BK290 0
       go_wp2
       refine bodyPost_ret (results_cell_row rfl _ _ gb290 26 #[.slice Ao295 x292000_1.length co295] (0, 0) _ rfl (by refine bd_ ?_; refine blk_put (cs := #[.slice none 0 0]) ?_ 0 _ rfl; refine bd_ ?_; exact BK290.out) Try.underlying26 rfl (by kernel_rfl)) rfl ?_
       exact ⟨_, by first | rfl | (simp [errW_none, errW_some] <;> rfl) | (simp [*, errW_none, errW_some] <;> rfl), by (with_reducible repeat (first | apply Kd.R_alloc | apply Kd.R_drewN | apply Kd.R_drew)); exact Kd.R_mono (Kd.R_far (Kd.R_types HO_292000.out BK290.out (by decide)) (fun _ hk => hk.2) _) (fun _ hk => trivial), is112_, bw112_, kx_ HK⟩
      subst c225
      rw [if_pos rfl] at H
      obtain ⟨⟨t350, t351, t352⟩, A226, H⟩ := ob_ H
      obtain ⟨⟨t353, t354, t355⟩, A227, H⟩ := ob_ H
      by_cases c228 : t353 = 0
      ·rw [if_pos c228] at H
       have c228b0 : (t353 == 0) = true := beq_iff_eq.mpr c228
       have c228b1 : (t353 != 0) = false := bne_eq_false_iff_eq.mpr c228
       clear c228
       obtain ⟨y356, hy356⟩ : ∃ y_ : List Int, y_ = (([(-1), 999, 1000] : List Int)) := ⟨_, rfl⟩
       replace H : ((spec_l01PickInt.f s0_0 t354 t355 y356).bind fun bt359 => (if 0 ≤ t350 then (if t350 < (x292000_1.length : Int) then (some ((x292000_1.set (t350 : Int).toNat (⟨(⟨(rd_T30 x292000_1 t350).f0.f0, (rd_T30 x292000_1 t350).f0.f1⟩ : S28), bt359.1⟩ : S30)), bt359.2.1, bt359.2.2)) else (none)) else (none))) = some (r1, r2, r3) := by first | (rw [hy356]; with_reducible exact H) | (have H2_ := (Option.bind_some _ _).symm.trans H; rw [hy356]; with_reducible exact H2_) | (have H2_ := (Option.bind_some _ _).symm.trans H; with_reducible exact H2_) | with_reducible exact H | (rw [hy356]; exact H) | exact H
       have Ny356 := Aside0.mk hy356
       clear hy356
       obtain ⟨⟨t359, t360, t361⟩, A229, H⟩ := ob_ H
       obtain ⟨c230b0, H⟩ := iq_ H
       obtain ⟨c231b0, H⟩ := iq_ H
       obtain ⟨y362, hy362⟩ : ∃ y_ : List (S30), y_ = (x292000_1.set (t350 : Int).toNat (⟨(⟨(rd_T30 x292000_1 t350).f0.f0, (rd_T30 x292000_1 t350).f0.f1⟩ : S28), t359⟩ : S30)) := ⟨_, rfl⟩
       replace H : (some (y362, t360, t361)) = some (r1, r2, r3) := by first | (rw [hy362]; with_reducible exact H) | (have H2_ := (Option.bind_some _ _).symm.trans H; rw [hy362]; with_reducible exact H2_) | (have H2_ := (Option.bind_some _ _).symm.trans H; with_reducible exact H2_) | with_reducible exact H | (rw [hy362]; exact H) | exact H
       have Ny362 := Aside0.mk hy362
       clear hy362
       simp only [Option.some.injEq, Prod.mk.injEq] at H
       obtain ⟨rfl, rfl, rfl⟩ := H
       have hnb233 := NB291_290.out
       have hnc233 := NB290_291.out
       have hnb234 := NB291_0.out
       have hnc234 := NB0_291.out
       have hcz235_0 := cz_ BK291 0 (u292000)
       have hfz235_0 := fz_ BK291 0
       obtain ⟨Ao236, co236, eo236⟩ := Kd.R_slice HO_292000.out
       subst eo236
       try go_wp2_with (first | ((with_reducible refine gate_callee (f := 44) rfl ?_); refine gl_ (some 74) Try.func44 #[.pointer (some ⟨g, 0, none⟩), .int .i64 (x292000_1.length : Int)] ?_; (with_reducible refine (spec_l01Below.calls g s0_0 x1001_215 x1002_215 (x292000_1.length : Int) t350 t351 t352 w0 _ ?side1 ?side2 A226.out).mono ?_); (case side1 => exact is112_); (case side2 => exact bw112_); rintro e w237 ⟨rfl, hi, hb, hk⟩; refine ⟨_, rfl, ?_⟩; replace HO_292000 := ak112_ HO_292000 (show IsS112 w0 _ g s0_0 x1001_215 x1002_215 from is112_) hk; replace BK290 := kb_ BK290 NB290_0 hk; replace BK291 := kb_ BK291 NB291_0 hk; replace HK := kt_ HK hk; replace HB := Aside0.mk (hb); replace HI0 := Aside0.mk (hi); clear hb hk hi) | ((with_reducible refine gate_callee (f := 44) rfl ?_); refine gl_ (some 76) Try.func44 #[.pointer (some ⟨g, 0, none⟩), .int .i64 3] ?_; (with_reducible refine (spec_l01Below.calls g s0_0 t351 t352 3 t353 t354 t355 w0 _ ?side1 ?side2 A227.out).mono ?_); (case side1 => exact is112_); (case side2 => exact bw112_); rintro e w238 ⟨rfl, hi, hb, hk⟩; refine ⟨_, rfl, ?_⟩; replace HO_292000 := ak112_ HO_292000 (show IsS112 w0 _ g s0_0 t351 t352 from is112_) hk; replace BK290 := kb_ BK290 NB290_0 hk; replace BK291 := kb_ BK291 NB291_0 hk; replace HK := kt_ HK hk; replace HB := Aside0.mk (hb); replace HI0 := Aside0.mk (hi); clear hb hk hi))
       replace HO_292000 := Aside0.mk (Kd.R_drew HO_292000.out)
       replace BK290 := ad_ BK290
       replace BK291 := ad_ BK291
       replace HI0 := Aside0.mk (IsS112.drew HI0.out)
       replace HK := Aside0.mk (keep_drew HK.out)
       replace HB := Aside0.mk (below_drew1 HB.out)
       refine start_ (n := 9) (S := fun w' => w'.cell? ⟨gb291, 0, none⟩ = some (.slice Ao236 x292000_1.length co236)) (ds := [8]) ba13_25 (by kernel_rfl) rfl rfl (bq5_ BK291 0) (fun hHeld => ?_); refine with_tabW spec_l02DrawTable.tab19 spec_l02DrawTable.bits19 (fun HT_ HW_ => ?_)
       generalize w238.drew = w239 at HO_292000 BK290 BK291 HI0 HK HB hHeld ⊢
       refine pz_ 0 79 ba13_26 HT_ ?_
       refine pz_ 2 81 ba13_27 HT_ ?_
       refine pz_ 3 82 ba13_28 HT_ ?_
       refine take_ (i := 1) (N := some 80) (v := ?_) (a' := ?_) ba13_29 rfl rfl (take_ofW HT_.out HW_.out (by kernel_rfl)) (fun _ _ _ h => h) (Or.inl ⟨by rfl, ?_⟩) hHeld ?_ ?_
       rotate_left; · intro w' s0; go_simp; with_reducible rfl
       rotate_left; · simp only [Act.put, List.setIfInBounds_toArray, List.set_cons_zero, List.set_cons_succ, i64_w, i32_w]; rfl
       refine on_ 4 (some 83) ba13_30 HT_ (fun K hK => ?_)
       refine Kd.R_lit_step (Kd.int .i64) _ 3 ?hg (N := 83) ?hd (xs := ([(-1), 999, 1000] : List Int)) (inner := [.int .i64 (-1), .int .i64 999, .int .i64 1000]) (ok := fun _ => True) (okp := fun _ => True) ?hr ?hp (fun _ hk => hk) trivial (Below.refl _ _) (Nat.le_refl _) (by simp) ?_; (case hd => rfl); (case hg => rfl); (case hr => first | (go_simp; done) | (go_simp; rfl)); (case hp => exact (Reps.one (show Kd.M (Kd.int .i64) _ _ _ (-1) [.int .i64 (-1)] from rfl) (Reps.one (show Kd.M (Kd.int .i64) _ _ _ 999 [.int .i64 999] from rfl) (Reps.one (show Kd.M (Kd.int .i64) _ _ _ 1000 [.int .i64 1000] from rfl) (Reps.none _ _)))))
       intro v357 w240 ho241 hb hg_ hnew_
       clear hg_ hnew_
       (first | rw [← Ny356.out] at ho241 | (simp only [Int.reduceToNat] at ho241; rw [← Ny356.out] at ho241))
       have HO358 := Aside0.mk (Kd.R_lower ho241 (keep_size (w := w) (g := g) (row := none) (kx_ HK)))
       replace HO_292000 := rb_ HO_292000 hb
       replace BK290 := ab_ BK290 hb
       replace BK291 := ab_ BK291 hb
       replace HK := kt_ HK (KeepBut.of_below hb g none)
       replace HB := bs112_ hb
       replace HI0 := Aside0.mk (IsS112.below is112_ hb)
       clear hb ho241
       obtain ⟨Ao242, co242, eo242⟩ := Kd.R_slice HO358.out
       subst eo242
       refine hK.out _ _ (bq5_ BK291 0) (fun hHeld => ?_)
       clear hK K
       refine nz_ 83 ?_
       refine on_ 5 (some 84) ba13_31 HT_ (fun K hK => ?_)
       refine gz_ Try.func43 #[.pointer (some ⟨g, 0, none⟩), .slice Ao242 y356.length co242] ?_
       with_reducible refine (spec_l01PickInt.calls g s0_0 t354 t355 _ _ y356 t359 t360 t361 w0 _ ?side1 ?side2 ?side3 ?side4 ?side5 A229.out).mono ?_
       (case side1 => exact is112_)
       (case side2 => exact bw112_)
       (case side3 => exact rc_ HO358)
       (case side4 => exact (Kd.R_reads' HO358.out).2.1)
       (case side5 => exact far_slice (IsS112.own_ne HI0.out HO358.out (by decide)))
       rintro e w243 ⟨rfl, hi, hb, hk⟩
       refine ⟨_, rfl, ?_⟩
       replace HO_292000 := ak112_ HO_292000 (show IsS112 w0 _ g s0_0 t354 t355 from is112_) hk
       replace BK290 := kb_ BK290 NB290_0 hk
       replace BK291 := kb_ BK291 NB291_0 hk
       replace HO358 := ak112_ HO358 (show IsS112 w0 _ g s0_0 t354 t355 from is112_) hk
       replace HK := kt_ HK hk
       replace HB := Aside0.mk (hb)
       replace HI0 := Aside0.mk (hi)
       clear hb hk hi
       have p232 : 0 ≤ (t350 : Int) := oa_
       have q232 : (t350 : Int) < ((x292000_1.length : Int) : Int) := oa_
       obtain ⟨go232, co232, eo232, gb232, gl232, cl232, HG232⟩ := Kd.R_form HO_292000.out (by omega)
       (first | cases eo232 | (injection eo232 with ea_ en_ ec_; (first | subst ea_ | (injection ea_ with ea_; subst ea_)); subst ec_; clear en_))
       have GB232 := Aside0.mk gb232
       have GG232 := Aside0.mk HG232
       clear gb232 gl232 HG232
       obtain ⟨ce232, hcl232, hM232, hcc232, hfr232⟩ := Kd.R_elem HO_292000.out z30 (t350 : Int) p232 q232
       obtain rfl := k30_openM hM232
       have hx232_0 : World.cell? _ ⟨go232, (t350 : Int).toNat * 3, none⟩ = some (.int .i64 ((rd_T30 x292000_1 t350).f0.f0)) := hcc232 0 _ rfl
       have hx232_1 : World.cell? _ ⟨go232, (t350 : Int).toNat * 3 + 1, none⟩ = some (.int .i64 ((rd_T30 x292000_1 t350).f0.f1)) := hcc232 1 _ rfl
       have hx232_2 : World.cell? _ ⟨go232, (t350 : Int).toNat * 3 + 2, none⟩ = some (.int .i64 ((rd_T30 x292000_1 t350).f1)) := hcc232 2 _ rfl
       have hf232_0 : World.frozen? _ ⟨go232, (t350 : Int).toNat * 3, none⟩ = false := hfr232 0
       have hf232_1 : World.frozen? _ ⟨go232, (t350 : Int).toNat * 3 + 1, none⟩ = false := hfr232 1
       have hf232_2 : World.frozen? _ ⟨go232, (t350 : Int).toNat * 3 + 2, none⟩ = false := hfr232 2
       clear hcl232 hcc232 hfr232 hM232
       obtain ⟨p232, q232⟩ := et_ p232 q232
       have HN0_go232 := Aside0.mk (show g ≠ go232 from by have h_ := IsS112.own_ne HI0.out HO_292000.out (by decide); intro e_; exact h_ (by rw [e_]; rfl))
       obtain ⟨ce244, hcl244, hM244, hcc244, hfr244⟩ := Kd.R_elem HO_292000.out z30 (t350 : Int) oa_ (by have h_ : (t350 : Int) < ((x292000_1.length : Int) : Int) := oa_; first | exact h_ | (have e_ := (Kd.R_reads' HO_292000.out).1; omega) | simpa using h_)
       obtain rfl := k30_openM hM244
       have HP244 := (Kd.R_seg HO_292000.out (t350 : Int) oa_ (by have h_ : (t350 : Int) < ((x292000_1.length : Int) : Int) := oa_; first | exact h_ | (have e_ := (Kd.R_reads' HO_292000.out).1; omega) | simpa using h_) (seg := [.int .i64 t359]) (j := 2) hcl244 hcc244 (show 3 ≤ 3 from by decide) (x' := (⟨(⟨(rd_T30 x292000_1 t350).f0.f0, (rd_T30 x292000_1 t350).f0.f1⟩ : S28), t359⟩ : S30)) (k30_mkM _ _ _ (⟨(⟨(rd_T30 x292000_1 t350).f0.f0, (rd_T30 x292000_1 t350).f0.f1⟩ : S28), t359⟩ : S30) ) (fun _ hk => hk)).1
       rw [← Ny362.out] at HP244
       have HQ244 := Aside0.mk HP244
       clear hcl244 hcc244 hfr244 hM244 HP244
       refine hK.out _ _ (bq5_ BK291 0) (fun hHeld => ?_)
       clear hK K
       refine nz_ 84 ?_
       refine pz_ 6 85 ba13_32 HT_ ?_
       refine pz_ 7 86 ba13_33 HT_ ?_
       refine last_ (i := 8) (N := none) ba13_34 rfl rfl (one_of HT_.out (by kernel_rfl)) (by decide) (fun K hK => ?_)
       refine skip_ (w1 := ?_) (by rfl) rfl ?_ ?_
       rotate_left; · go_simp; rfl
       refine hK.out _ _ ?_
       clear hK K
       refine done_ (done_of HT_.out (by kernel_rfl)) ?_
       generalize hW_ : (w243.setCell ⟨go232, (t350 : Int).toNat * 3 + 2, none⟩ (.int .i64 t359)) = w245
       have n0_ : Aside0 (Kd.R k30 30 w245 w.heap.size (fun _ => True) (.slice (some ⟨go232, 0, none⟩) x292000_1.length co236) y362) := by subst hW_; exact ⟨by (with_reducible repeat (first | apply Kd.R_alloc | apply Kd.R_drewN | apply Kd.R_drew)); exact HQ244.out⟩
       have n1_ : Aside0 (Kd.R (Kd.int .i64) 3 w245 w.heap.size (fun _ => True) (.slice Ao242 y356.length co242) y356) := by subst hW_; exact ⟨by (with_reducible repeat (first | apply Kd.R_alloc | apply Kd.R_drewN | apply Kd.R_drew)); exact Kd.R_mono (Kd.R_far (p := ⟨go232, (t350 : Int).toNat * 3 + 2, none⟩) (Kd.R_types HO358.out GG232.out (by decide)) (fun _ hk => hk.2) (.int .i64 t359)) (fun _ hk => trivial)⟩
       have n2_ : Aside0 (w245.heap[gb290]? = some (.cells #[.slice none 0 0] 26 (0, 0))) := by subst hW_; exact ⟨by refine bd_ ?_; refine blk_far ?_ (by have h_ := Kd.R_ne HO_292000.out BK290.out (by decide); intro e_; exact h_ (by rw [e_]; rfl)) _; refine bd_ ?_; exact BK290.out⟩
       have n3_ : Aside0 (w245.heap[gb291]? = some (.cells #[.slice (some ⟨go232, 0, none⟩) x292000_1.length co236] 26 (0, 0))) := by subst hW_; exact ⟨by refine bd_ ?_; refine blk_far ?_ (by have h_ := Kd.R_ne HO_292000.out BK291.out (by decide); intro e_; exact h_ (by rw [e_]; rfl)) _; refine bd_ ?_; exact BK291.out⟩
       have n4_ : Aside0 (IsS112 w0 w245 g s0_0 t360 t361) := by subst hW_; exact ⟨by repeat (first | (with_reducible first | exact HI0.out | apply IsS112.alloc | apply IsS112.drewN | apply IsS112.drew | apply IsS112.set_1 | apply IsS112.set_2 | refine IsS112.far ?_ HN0_go232.out _ | refine IsS112.far ?_ NB0_290.out _ | refine IsS112.far ?_ NB0_291.out _) | exact HI0.out)⟩
       have n5_ : Aside0 (KeepBut w w245 g none) := by subst hW_; exact ⟨by repeat (first | (with_reducible first | exact HK.out | apply KeepBut.set_ | apply keep_drewN | apply keep_drew | apply keep_alloc | refine keep_far ?_ GB232.out _ | refine keep_far ?_ GW290.out _ | refine keep_far ?_ GW291.out _) | exact HK.out)⟩
       have n6_ : Aside0 (Below w0.heap.size w0 w245) := by subst hW_; exact ⟨by repeat (first | (with_reducible first | exact HB.out | apply below_alloc | apply pw_below_drewN | apply below_drew1 | refine below_set ?_ (Nat.le_trans HL.out GB232.out) | refine below_set ?_ (IsS112.ge HI0.out) | refine below_set ?_ GE290.out | refine below_set ?_ GE291.out) | exact HB.out)⟩
       clear hW_ HO_292000 HO358 BK290 BK291 HI0 HK HB
       have HO_292000 := n0_
       have HO358 := n1_
       have BK290 := n2_
       have BK291 := n3_
       have HI0 := n4_
       have HK := n5_
       have HB := n6_
       clear n0_ n1_ n2_ n3_ n4_ n5_ n6_
       have hcz246_0 := cz_ BK291 0 (.slice (some ⟨go232, 0, none⟩) x292000_1.length co236)
       have hfz246_0 := fz_ BK291 0
       have hnb247 := NB290_0.out
       have hnc247 := NB0_290.out
       have hcz248_0 := cz_ BK290 0 (.slice none 0 0)
       have hfz248_0 := fz_ BK290 0
       go_wp2
       refine bodyPost_ret (results_cell_row rfl _ _ gb290 26 #[.slice (some ⟨go232, 0, none⟩) x292000_1.length co236] (0, 0) _ rfl (by refine bd_ ?_; refine blk_put (cs := #[.slice none 0 0]) ?_ 0 _ rfl; refine bd_ ?_; exact BK290.out) Try.underlying26 rfl (by kernel_rfl)) rfl ?_
       exact ⟨_, by first | rfl | (simp [errW_none, errW_some] <;> rfl) | (simp [*, errW_none, errW_some] <;> rfl), by (with_reducible repeat (first | apply Kd.R_alloc | apply Kd.R_drewN | apply Kd.R_drew)); exact Kd.R_mono (Kd.R_far (Kd.R_types HO_292000.out BK290.out (by decide)) (fun _ hk => hk.2) _) (fun _ hk => trivial), is112_, bw112_, kx_ HK⟩
      rw [if_neg c228] at H
      have c228b0 : (t353 == 0) = false := beq_eq_false_iff_ne.mpr c228
      have c228b1 : (t353 != 0) = true := bne_iff_ne.mpr c228
      by_cases c249 : t353 = 1
      ·rw [if_pos c249] at H
       have c249b0 : (t353 == 1) = true := beq_iff_eq.mpr c249
       have c249b1 : (t353 != 1) = false := bne_eq_false_iff_eq.mpr c249
       clear c249
       obtain ⟨⟨t363, t364, t365, t366⟩, A250, H⟩ := ob_ H
       obtain ⟨c251b0, H⟩ := iq_ H
       obtain ⟨c252b0, H⟩ := iq_ H
       obtain ⟨y367, hy367⟩ : ∃ y_ : List (S30), y_ = (x292000_1.set (t350 : Int).toNat (⟨(⟨t363, t364⟩ : S28), (rd_T30 x292000_1 t350).f1⟩ : S30)) := ⟨_, rfl⟩
       replace H : (some (y367, t365, t366)) = some (r1, r2, r3) := by first | (rw [hy367]; with_reducible exact H) | (have H2_ := (Option.bind_some _ _).symm.trans H; rw [hy367]; with_reducible exact H2_) | (have H2_ := (Option.bind_some _ _).symm.trans H; with_reducible exact H2_) | with_reducible exact H | (rw [hy367]; exact H) | exact H
       have Ny367 := Aside0.mk hy367
       clear hy367
       simp only [Option.some.injEq, Prod.mk.injEq] at H
       obtain ⟨rfl, rfl, rfl⟩ := H
       have hnb254 := NB291_290.out
       have hnc254 := NB290_291.out
       have hnb255 := NB291_0.out
       have hnc255 := NB0_291.out
       have hcz256_0 := cz_ BK291 0 (u292000)
       have hfz256_0 := fz_ BK291 0
       obtain ⟨Ao257, co257, eo257⟩ := Kd.R_slice HO_292000.out
       subst eo257
       try go_wp2_with (first | ((with_reducible refine gate_callee (f := 44) rfl ?_); refine gl_ (some 74) Try.func44 #[.pointer (some ⟨g, 0, none⟩), .int .i64 (x292000_1.length : Int)] ?_; (with_reducible refine (spec_l01Below.calls g s0_0 x1001_215 x1002_215 (x292000_1.length : Int) t350 t351 t352 w0 _ ?side1 ?side2 A226.out).mono ?_); (case side1 => exact is112_); (case side2 => exact bw112_); rintro e w258 ⟨rfl, hi, hb, hk⟩; refine ⟨_, rfl, ?_⟩; replace HO_292000 := ak112_ HO_292000 (show IsS112 w0 _ g s0_0 x1001_215 x1002_215 from is112_) hk; replace BK290 := kb_ BK290 NB290_0 hk; replace BK291 := kb_ BK291 NB291_0 hk; replace HK := kt_ HK hk; replace HB := Aside0.mk (hb); replace HI0 := Aside0.mk (hi); clear hb hk hi) | ((with_reducible refine gate_callee (f := 44) rfl ?_); refine gl_ (some 76) Try.func44 #[.pointer (some ⟨g, 0, none⟩), .int .i64 3] ?_; (with_reducible refine (spec_l01Below.calls g s0_0 t351 t352 3 t353 t354 t355 w0 _ ?side1 ?side2 A227.out).mono ?_); (case side1 => exact is112_); (case side2 => exact bw112_); rintro e w259 ⟨rfl, hi, hb, hk⟩; refine ⟨_, rfl, ?_⟩; replace HO_292000 := ak112_ HO_292000 (show IsS112 w0 _ g s0_0 t351 t352 from is112_) hk; replace BK290 := kb_ BK290 NB290_0 hk; replace BK291 := kb_ BK291 NB291_0 hk; replace HK := kt_ HK hk; replace HB := Aside0.mk (hb); replace HI0 := Aside0.mk (hi); clear hb hk hi))
       replace HO_292000 := Aside0.mk (Kd.R_drew HO_292000.out)
       replace BK290 := ad_ BK290
       replace BK291 := ad_ BK291
       replace HI0 := Aside0.mk (IsS112.drew HI0.out)
       replace HK := Aside0.mk (keep_drew HK.out)
       replace HB := Aside0.mk (below_drew1 HB.out)
       refine start_ (n := 8) (S := fun w' => w'.cell? ⟨gb291, 0, none⟩ = some (.slice Ao257 x292000_1.length co257)) (ds := [7]) ba13_35 (by kernel_rfl) rfl rfl (bq5_ BK291 0) (fun hHeld => ?_); refine with_tabW spec_l02DrawTable.tab21 spec_l02DrawTable.bits21 (fun HT_ HW_ => ?_)
       generalize w259.drew = w260 at HO_292000 BK290 BK291 HI0 HK HB hHeld ⊢
       refine pz_ 0 89 ba13_36 HT_ ?_
       refine pz_ 2 91 ba13_37 HT_ ?_
       refine pz_ 3 92 ba13_38 HT_ ?_
       refine take_ (i := 1) (N := some 90) (v := ?_) (a' := ?_) ba13_39 rfl rfl (take_ofW HT_.out HW_.out (by kernel_rfl)) (fun _ _ _ h => h) (Or.inl ⟨by rfl, ?_⟩) hHeld ?_ ?_
       rotate_left; · intro w' s0; go_simp; with_reducible rfl
       rotate_left; · simp only [Act.put, List.setIfInBounds_toArray, List.set_cons_zero, List.set_cons_succ, i64_w, i32_w]; rfl
       refine on_ 4 (some 93) ba13_40 HT_ (fun K hK => ?_)
       refine gz_ Try.func86 #[.pointer (some ⟨g, 0, none⟩)] ?_
       with_reducible refine (spec_l01DrawPrefix.calls g s0_0 t354 t355 t363 t364 t365 t366 w0 _ ?side1 ?side2 A250.out).mono ?_
       (case side1 => exact is112_)
       (case side2 => exact bw112_)
       rintro e w261 ⟨rfl, hi, hb, hk⟩
       refine ⟨_, rfl, ?_⟩
       replace HO_292000 := ak112_ HO_292000 (show IsS112 w0 _ g s0_0 t354 t355 from is112_) hk
       replace BK290 := kb_ BK290 NB290_0 hk
       replace BK291 := kb_ BK291 NB291_0 hk
       replace HK := kt_ HK hk
       replace HB := Aside0.mk (hb)
       replace HI0 := Aside0.mk (hi)
       clear hb hk hi
       have p253 : 0 ≤ (t350 : Int) := oa_
       have q253 : (t350 : Int) < ((x292000_1.length : Int) : Int) := oa_
       obtain ⟨go253, co253, eo253, gb253, gl253, cl253, HG253⟩ := Kd.R_form HO_292000.out (by omega)
       (first | cases eo253 | (injection eo253 with ea_ en_ ec_; (first | subst ea_ | (injection ea_ with ea_; subst ea_)); subst ec_; clear en_))
       have GB253 := Aside0.mk gb253
       have GG253 := Aside0.mk HG253
       clear gb253 gl253 HG253
       obtain ⟨ce253, hcl253, hM253, hcc253, hfr253⟩ := Kd.R_elem HO_292000.out z30 (t350 : Int) p253 q253
       obtain rfl := k30_openM hM253
       have hx253_0 : World.cell? _ ⟨go253, (t350 : Int).toNat * 3, none⟩ = some (.int .i64 ((rd_T30 x292000_1 t350).f0.f0)) := hcc253 0 _ rfl
       have hx253_1 : World.cell? _ ⟨go253, (t350 : Int).toNat * 3 + 1, none⟩ = some (.int .i64 ((rd_T30 x292000_1 t350).f0.f1)) := hcc253 1 _ rfl
       have hx253_2 : World.cell? _ ⟨go253, (t350 : Int).toNat * 3 + 2, none⟩ = some (.int .i64 ((rd_T30 x292000_1 t350).f1)) := hcc253 2 _ rfl
       have hf253_0 : World.frozen? _ ⟨go253, (t350 : Int).toNat * 3, none⟩ = false := hfr253 0
       have hf253_1 : World.frozen? _ ⟨go253, (t350 : Int).toNat * 3 + 1, none⟩ = false := hfr253 1
       have hf253_2 : World.frozen? _ ⟨go253, (t350 : Int).toNat * 3 + 2, none⟩ = false := hfr253 2
       clear hcl253 hcc253 hfr253 hM253
       obtain ⟨p253, q253⟩ := et_ p253 q253
       have HN0_go253 := Aside0.mk (show g ≠ go253 from by have h_ := IsS112.own_ne HI0.out HO_292000.out (by decide); intro e_; exact h_ (by rw [e_]; rfl))
       obtain ⟨ce262, hcl262, hM262, hcc262, hfr262⟩ := Kd.R_elem HO_292000.out z30 (t350 : Int) oa_ (by have h_ : (t350 : Int) < ((x292000_1.length : Int) : Int) := oa_; first | exact h_ | (have e_ := (Kd.R_reads' HO_292000.out).1; omega) | simpa using h_)
       obtain rfl := k30_openM hM262
       have HP262 := (Kd.R_seg HO_292000.out (t350 : Int) oa_ (by have h_ : (t350 : Int) < ((x292000_1.length : Int) : Int) := oa_; first | exact h_ | (have e_ := (Kd.R_reads' HO_292000.out).1; omega) | simpa using h_) (seg := [.int .i64 t363, .int .i64 t364]) (j := 0) hcl262 hcc262 (show 2 ≤ 3 from by decide) (x' := (⟨(⟨t363, t364⟩ : S28), (rd_T30 x292000_1 t350).f1⟩ : S30)) (k30_mkM _ _ _ (⟨(⟨t363, t364⟩ : S28), (rd_T30 x292000_1 t350).f1⟩ : S30) ) (fun _ hk => hk)).1
       rw [← Ny367.out] at HP262
       have HQ262 := Aside0.mk HP262
       clear hcl262 hcc262 hfr262 hM262 HP262
       refine hK.out _ _ (bq5_ BK291 0) (fun hHeld => ?_)
       clear hK K
       refine nz_ 93 ?_
       refine pz_ 5 94 ba13_41 HT_ ?_
       refine pz_ 6 95 ba13_42 HT_ ?_
       refine last_ (i := 7) (N := none) ba13_43 rfl rfl (one_of HT_.out (by kernel_rfl)) (by decide) (fun K hK => ?_)
       refine skip_ (w1 := ?_) (by rfl) rfl ?_ ?_
       rotate_left; · go_simp; rfl
       refine hK.out _ _ ?_
       clear hK K
       refine done_ (done_of HT_.out (by kernel_rfl)) ?_
       generalize hW_ : ((w261.setCell ⟨go253, (t350 : Int).toNat * 3, none⟩ (.int .i64 t363)).setCell ⟨go253, (t350 : Int).toNat * 3 + 1, none⟩ (.int .i64 t364)) = w263
       have n0_ : Aside0 (Kd.R k30 30 w263 w.heap.size (fun _ => True) (.slice (some ⟨go253, 0, none⟩) x292000_1.length co257) y367) := by subst hW_; exact ⟨by (with_reducible repeat (first | apply Kd.R_alloc | apply Kd.R_drewN | apply Kd.R_drew)); exact HQ262.out⟩
       have n1_ : Aside0 (w263.heap[gb290]? = some (.cells #[.slice none 0 0] 26 (0, 0))) := by subst hW_; exact ⟨by refine bd_ ?_; refine blk_far ?_ (by have h_ := Kd.R_ne HO_292000.out BK290.out (by decide); intro e_; exact h_ (by rw [e_]; rfl)) _; refine bd_ ?_; refine blk_far ?_ (by have h_ := Kd.R_ne HO_292000.out BK290.out (by decide); intro e_; exact h_ (by rw [e_]; rfl)) _; refine bd_ ?_; exact BK290.out⟩
       have n2_ : Aside0 (w263.heap[gb291]? = some (.cells #[.slice (some ⟨go253, 0, none⟩) x292000_1.length co257] 26 (0, 0))) := by subst hW_; exact ⟨by refine bd_ ?_; refine blk_far ?_ (by have h_ := Kd.R_ne HO_292000.out BK291.out (by decide); intro e_; exact h_ (by rw [e_]; rfl)) _; refine bd_ ?_; refine blk_far ?_ (by have h_ := Kd.R_ne HO_292000.out BK291.out (by decide); intro e_; exact h_ (by rw [e_]; rfl)) _; refine bd_ ?_; exact BK291.out⟩
       have n3_ : Aside0 (IsS112 w0 w263 g s0_0 t365 t366) := by subst hW_; exact ⟨by repeat (first | (with_reducible first | exact HI0.out | apply IsS112.alloc | apply IsS112.drewN | apply IsS112.drew | apply IsS112.set_1 | apply IsS112.set_2 | refine IsS112.far ?_ HN0_go253.out _ | refine IsS112.far ?_ HN0_go253.out _ | refine IsS112.far ?_ NB0_290.out _ | refine IsS112.far ?_ NB0_291.out _) | exact HI0.out)⟩
       have n4_ : Aside0 (KeepBut w w263 g none) := by subst hW_; exact ⟨by repeat (first | (with_reducible first | exact HK.out | apply KeepBut.set_ | apply keep_drewN | apply keep_drew | apply keep_alloc | refine keep_far ?_ GB253.out _ | refine keep_far ?_ GB253.out _ | refine keep_far ?_ GW290.out _ | refine keep_far ?_ GW291.out _) | exact HK.out)⟩
       have n5_ : Aside0 (Below w0.heap.size w0 w263) := by subst hW_; exact ⟨by repeat (first | (with_reducible first | exact HB.out | apply below_alloc | apply pw_below_drewN | apply below_drew1 | refine below_set ?_ (Nat.le_trans HL.out GB253.out) | refine below_set ?_ (Nat.le_trans HL.out GB253.out) | refine below_set ?_ (IsS112.ge HI0.out) | refine below_set ?_ GE290.out | refine below_set ?_ GE291.out) | exact HB.out)⟩
       clear hW_ HO_292000 BK290 BK291 HI0 HK HB
       have HO_292000 := n0_
       have BK290 := n1_
       have BK291 := n2_
       have HI0 := n3_
       have HK := n4_
       have HB := n5_
       clear n0_ n1_ n2_ n3_ n4_ n5_
       have hcz264_0 := cz_ BK291 0 (.slice (some ⟨go253, 0, none⟩) x292000_1.length co257)
       have hfz264_0 := fz_ BK291 0
       have hnb265 := NB290_0.out
       have hnc265 := NB0_290.out
       have hcz266_0 := cz_ BK290 0 (.slice none 0 0)
       have hfz266_0 := fz_ BK290 0
       go_wp2
       refine bodyPost_ret (results_cell_row rfl _ _ gb290 26 #[.slice (some ⟨go253, 0, none⟩) x292000_1.length co257] (0, 0) _ rfl (by refine bd_ ?_; refine blk_put (cs := #[.slice none 0 0]) ?_ 0 _ rfl; refine bd_ ?_; exact BK290.out) Try.underlying26 rfl (by kernel_rfl)) rfl ?_
       exact ⟨_, by first | rfl | (simp [errW_none, errW_some] <;> rfl) | (simp [*, errW_none, errW_some] <;> rfl), by (with_reducible repeat (first | apply Kd.R_alloc | apply Kd.R_drewN | apply Kd.R_drew)); exact Kd.R_mono (Kd.R_far (Kd.R_types HO_292000.out BK290.out (by decide)) (fun _ hk => hk.2) _) (fun _ hk => trivial), is112_, bw112_, kx_ HK⟩
      rw [if_neg c249] at H
      have c249b0 : (t353 == 1) = false := beq_eq_false_iff_ne.mpr c249
      have c249b1 : (t353 != 1) = true := bne_iff_ne.mpr c249
      by_cases c267 : t353 = 2
      rotate_left
      ·rw [if_neg c267] at H
       have c267b0 : (t353 == 2) = false := beq_eq_false_iff_ne.mpr c267
       have c267b1 : (t353 != 2) = true := bne_iff_ne.mpr c267
       simp only [Option.some.injEq, Prod.mk.injEq] at H
       obtain ⟨rfl, rfl, rfl⟩ := H
       have hnb283 := NB291_290.out
       have hnc283 := NB290_291.out
       have hnb284 := NB291_0.out
       have hnc284 := NB0_291.out
       have hcz285_0 := cz_ BK291 0 (u292000)
       have hfz285_0 := fz_ BK291 0
       obtain ⟨Ao286, co286, eo286⟩ := Kd.R_slice HO_292000.out
       subst eo286
       go_wp2_with (first | ((with_reducible refine gate_callee (f := 44) rfl ?_); refine gl_ (some 74) Try.func44 #[.pointer (some ⟨g, 0, none⟩), .int .i64 (x292000_1.length : Int)] ?_; (with_reducible refine (spec_l01Below.calls g s0_0 x1001_215 x1002_215 (x292000_1.length : Int) t350 t351 t352 w0 _ ?side1 ?side2 A226.out).mono ?_); (case side1 => exact is112_); (case side2 => exact bw112_); rintro e w287 ⟨rfl, hi, hb, hk⟩; refine ⟨_, rfl, ?_⟩; replace HO_292000 := ak112_ HO_292000 (show IsS112 w0 _ g s0_0 x1001_215 x1002_215 from is112_) hk; replace BK290 := kb_ BK290 NB290_0 hk; replace BK291 := kb_ BK291 NB291_0 hk; replace HK := kt_ HK hk; replace HB := Aside0.mk (hb); replace HI0 := Aside0.mk (hi); clear hb hk hi) | ((with_reducible refine gate_callee (f := 44) rfl ?_); refine gl_ (some 76) Try.func44 #[.pointer (some ⟨g, 0, none⟩), .int .i64 3] ?_; (with_reducible refine (spec_l01Below.calls g s0_0 t351 t352 3 t353 t354 t355 w0 _ ?side1 ?side2 A227.out).mono ?_); (case side1 => exact is112_); (case side2 => exact bw112_); rintro e w288 ⟨rfl, hi, hb, hk⟩; refine ⟨_, rfl, ?_⟩; replace HO_292000 := ak112_ HO_292000 (show IsS112 w0 _ g s0_0 t351 t352 from is112_) hk; replace BK290 := kb_ BK290 NB290_0 hk; replace BK291 := kb_ BK291 NB291_0 hk; replace HK := kt_ HK hk; replace HB := Aside0.mk (hb); replace HI0 := Aside0.mk (hi); clear hb hk hi; have hcz289_0 := cz_ BK291 0 (.slice Ao286 x292000_1.length co286); have hfz289_0 := fz_ BK291 0; have hnb290 := NB290_0.out; have hnc290 := NB0_290.out; have hcz291_0 := cz_ BK290 0 (.slice none 0 0); have hfz291_0 := fz_ BK290 0))
       refine bodyPost_ret (results_cell_row rfl _ _ gb290 26 #[.slice Ao286 x292000_1.length co286] (0, 0) _ rfl (by refine bd_ ?_; refine blk_put (cs := #[.slice none 0 0]) ?_ 0 _ rfl; refine bd_ ?_; exact BK290.out) Try.underlying26 rfl (by kernel_rfl)) rfl ?_
       exact ⟨_, by first | rfl | (simp [errW_none, errW_some] <;> rfl) | (simp [*, errW_none, errW_some] <;> rfl), by (with_reducible repeat (first | apply Kd.R_alloc | apply Kd.R_drewN | apply Kd.R_drew)); exact Kd.R_mono (Kd.R_far (Kd.R_types HO_292000.out BK290.out (by decide)) (fun _ hk => hk.2) _) (fun _ hk => trivial), is112_, bw112_, kx_ HK⟩
      rw [if_pos c267] at H
      have c267b0 : (t353 == 2) = true := beq_iff_eq.mpr c267
      have c267b1 : (t353 != 2) = false := bne_eq_false_iff_eq.mpr c267
      clear c267
      by_cases c268 : 0 < (x292000_1.length : Int)
      rotate_left
      ·rw [if_neg c268] at H
       exact absurd H (by simp)
      rw [if_pos c268] at H
      have c268b0 : decide (0 < (x292000_1.length : Int)) = true := decide_eq_true c268
      have c268b1 : decide (0 < x292000_1.length) = true := decide_eq_true (by omega)
      clear c268
      by_cases c269 : x292000_1.length < 5864062014805
      rotate_left
      ·rw [if_neg c269] at H
       exact absurd H (by simp)
      rw [if_pos c269] at H
      have LMc269 := Aside0.mk c269
      clear c269
      obtain ⟨y369, hy369⟩ : ∃ y_ : List (S30), y_ = (x292000_1 ++ [(⟨(⟨(rd_T30 x292000_1 0).f0.f0, (rd_T30 x292000_1 0).f0.f1⟩ : S28), (rd_T30 x292000_1 0).f1⟩ : S30)]) := ⟨_, rfl⟩
      replace H : (some (y369, t354, t355)) = some (r1, r2, r3) := by first | (rw [hy369]; with_reducible exact H) | (have H2_ := (Option.bind_some _ _).symm.trans H; rw [hy369]; with_reducible exact H2_) | (have H2_ := (Option.bind_some _ _).symm.trans H; with_reducible exact H2_) | with_reducible exact H | (rw [hy369]; exact H) | exact H
      have Ny369 := Aside0.mk hy369
      clear hy369
      simp only [Option.some.injEq, Prod.mk.injEq] at H
      obtain ⟨rfl, rfl, rfl⟩ := H
      have hnb270 := NB291_290.out
      have hnc270 := NB290_291.out
      have hnb271 := NB291_0.out
      have hnc271 := NB0_291.out
      have hcz272_0 := cz_ BK291 0 (u292000)
      have hfz272_0 := fz_ BK291 0
      obtain ⟨Ao273, co273, eo273⟩ := Kd.R_slice HO_292000.out
      subst eo273
      try go_wp2_with (first | ((with_reducible refine gate_callee (f := 44) rfl ?_); refine gl_ (some 74) Try.func44 #[.pointer (some ⟨g, 0, none⟩), .int .i64 (x292000_1.length : Int)] ?_; (with_reducible refine (spec_l01Below.calls g s0_0 x1001_215 x1002_215 (x292000_1.length : Int) t350 t351 t352 w0 _ ?side1 ?side2 A226.out).mono ?_); (case side1 => exact is112_); (case side2 => exact bw112_); rintro e w274 ⟨rfl, hi, hb, hk⟩; refine ⟨_, rfl, ?_⟩; replace HO_292000 := ak112_ HO_292000 (show IsS112 w0 _ g s0_0 x1001_215 x1002_215 from is112_) hk; replace BK290 := kb_ BK290 NB290_0 hk; replace BK291 := kb_ BK291 NB291_0 hk; replace HK := kt_ HK hk; replace HB := Aside0.mk (hb); replace HI0 := Aside0.mk (hi); clear hb hk hi) | ((with_reducible refine gate_callee (f := 44) rfl ?_); refine gl_ (some 76) Try.func44 #[.pointer (some ⟨g, 0, none⟩), .int .i64 3] ?_; (with_reducible refine (spec_l01Below.calls g s0_0 t351 t352 3 t353 t354 t355 w0 _ ?side1 ?side2 A227.out).mono ?_); (case side1 => exact is112_); (case side2 => exact bw112_); rintro e w275 ⟨rfl, hi, hb, hk⟩; refine ⟨_, rfl, ?_⟩; replace HO_292000 := ak112_ HO_292000 (show IsS112 w0 _ g s0_0 t351 t352 from is112_) hk; replace BK290 := kb_ BK290 NB290_0 hk; replace BK291 := kb_ BK291 NB291_0 hk; replace HK := kt_ HK hk; replace HB := Aside0.mk (hb); replace HI0 := Aside0.mk (hi); clear hb hk hi))
      replace HO_292000 := Aside0.mk (Kd.R_drew HO_292000.out)
      replace BK290 := ad_ BK290
      replace BK291 := ad_ BK291
      replace HI0 := Aside0.mk (IsS112.drew HI0.out)
      replace HK := Aside0.mk (keep_drew HK.out)
      replace HB := Aside0.mk (below_drew1 HB.out)
      have p368 : 0 ≤ (0 : Int) := (by omega)
      have q368 : 0 < (x292000_1.length : Int) := oa_
      obtain ⟨ad368, e368, hx368_0, hx368_1, hx368_2⟩ := at_T30 (Kd.R_reads' HO_292000.out).2.2 0 p368 q368
      cases e368
      have qi368 : (0 < x292000_1.length) = True := eq_true (by omega)
      (try rw [show ((0 : Int)).toNat = 0 from rfl] at hx368_0)
      (try rw [show 0 * 3 = 0 from rfl] at hx368_0)
      (try rw [Addr.add_zero'] at hx368_0)
      (try rw [show ((0 : Int)).toNat = 0 from rfl] at hx368_1)
      (try rw [show 0 * 3 = 0 from rfl] at hx368_1)
      (try rw [Addr.add_zero'] at hx368_1)
      (try rw [show ((0 : Int)).toNat = 0 from rfl] at hx368_2)
      (try rw [show 0 * 3 = 0 from rfl] at hx368_2)
      (try rw [Addr.add_zero'] at hx368_2)
      obtain ⟨p368, q368⟩ := et_ p368 q368
      refine start_ (n := 10) (S := fun w' => w'.cell? ⟨gb291, 0, none⟩ = some (.slice (some ad368) x292000_1.length co273) ∧ w'.cell? ad368 = some (.int .i64 ((rd_T30 x292000_1 0).f0.f0)) ∧ w'.cell? ⟨ad368.block, ad368.off + 1, none⟩ = some (.int .i64 ((rd_T30 x292000_1 0).f0.f1)) ∧ w'.cell? ⟨ad368.block, ad368.off + 2, none⟩ = some (.int .i64 ((rd_T30 x292000_1 0).f1))) (ds := [7, 9]) ba13_44 (by kernel_rfl) rfl rfl ⟨bq5_ BK291 0, hx368_0, hx368_1, hx368_2⟩ (fun hHeld => ?_); refine with_tabW spec_l02DrawTable.tab23 spec_l02DrawTable.bits23 (fun HT_ HW_ => ?_)
      generalize w275.drew = w276 at HO_292000 BK290 BK291 HI0 HK HB hx368_0 hx368_1 hx368_2 hHeld ⊢
      refine pz_ 0 98 ba13_45 HT_ ?_
      refine pz_ 2 100 ba13_46 HT_ ?_
      refine pt_ 1 99 ba13_47 HT_ HW_ hHeld ?_
      refine pt_ 3 101 ba13_48 HT_ HW_ hHeld ?_
      refine pz_ 4 102 ba13_49 HT_ ?_
      refine pt_ 5 103 ba13_50 HT_ HW_ hHeld ?_
      refine on_ 6 (some 104) ba13_51 HT_ (fun K hK => ?_)
      refine value_ (w1 := ?_) (v := ?_) (by rfl) rfl ?_ ?_
      rotate_left 2
      ·go_simp
       constructor
       ·rfl
       ·rfl
      refine hK.out _ _ ⟨(blk_cell (blk_alloc BK291.out _) 0).trans rfl, (World.cell?_alloc_lt _ _ _ (World.block_lt_of_cell? _ _ (hHeld.2.1))).trans (hHeld.2.1), (World.cell?_alloc_lt _ _ _ (World.block_lt_of_cell? _ _ (hHeld.2.2.1))).trans (hHeld.2.2.1), (World.cell?_alloc_lt _ _ _ (World.block_lt_of_cell? _ _ (hHeld.2.2.2))).trans (hHeld.2.2.2)⟩ (fun hHeld => ?_)
      clear hK K
      refine nz_ 104 ?_
      refine last_ (i := 7) (N := some 105) ba13_52 rfl rfl (one_of HT_.out (by kernel_rfl)) (by decide) (fun K hK => ?_)
      refine Kd.R_append_step k30 w.heap.size (by rfl) (.tmp 99) (.tmp 104) 24 30 (.agg #[(.int .i64 0), (.int .i64 0), (.int .i64 0)]) 24 rfl Try.underlying24 info30 rfl (by decide) (by omega) (.slice (some ad368) x292000_1.length co273) x292000_1 (⟨(⟨(rd_T30 x292000_1 0).f0.f0, (rd_T30 x292000_1 0).f0.f1⟩ : S28), (rd_T30 x292000_1 0).f1⟩ : S30) [.int .i64 ((rd_T30 x292000_1 0).f0.f0), .int .i64 ((rd_T30 x292000_1 0).f0.f1), .int .i64 ((rd_T30 x292000_1 0).f1)] (fun _ => True) (fun _ => False) rfl rfl ?aP (fun _ hk => hk.elim) ?aF ?aO (Below.refl _ _) ?aS ?aL ?_
      (case aP => exact k30_mkM _ _ _ (⟨(⟨(rd_T30 x292000_1 0).f0.f0, (rd_T30 x292000_1 0).f0.f1⟩ : S28), (rd_T30 x292000_1 0).f1⟩ : S30))
      (case aF => exact (fun _ _ => trivial))
      (case aO => exact (hd_ HO_292000))
      (case aS => exact (keep_size (w := w) (g := g) (row := none) (kx_ HK)))
      (case aL => have := LMc269.out; omega)
      intro v370 w277 ho hb hg hat
      rw [← Ny369.out] at ho
      have HO371 := Aside0.mk ho
      replace BK290 := Aside0.mk (blk_grown (g := gb290) (o := .cells #[.slice none 0 0] 26 (0, 0)) (bx_ BK290) hg (Kd.R_ne HO_292000.out BK290.out (by decide)))
      replace BK291 := Aside0.mk (blk_grown (g := gb291) (o := .cells #[.slice (some ad368) x292000_1.length co273] 26 (0, 0)) (bx_ BK291) hg (Kd.R_ne HO_292000.out BK291.out (by decide)))
      replace HB := Aside0.mk (below_weaken (bw112_) HL.out hb)
      replace HI0 := Aside0.mk (IsS112.grown (is112_) hg (IsS112.own_ne HI0.out HO_292000.out (by decide)))
      replace HK := Aside0.mk (KeepBut.trans (kx_ HK) (KeepBut.of_grown hg g) (Kd.R_base2 HO_292000.out))
      clear HO_292000 ho hb hg hat
      obtain ⟨Ao278, co278, eo278⟩ := Kd.R_slice HO371.out
      subst eo278
      refine hK.out _ _ ?_
      clear hK K
      refine nz_ 105 ?_
      refine pz_ 8 106 ba13_53 HT_ ?_
      refine last_ (i := 9) (N := none) ba13_54 rfl rfl (one_of HT_.out (by kernel_rfl)) (by decide) (fun K hK => ?_)
      have hs279 : w277.cell? ⟨gb291, 0, none⟩ = some (.slice (some ad368) x292000_1.length co273) := bq5_ BK291 0
      have hfs279 := fz_ BK291 0
      have hns279_0 := NB290_291.out
      have hms279_0 := NB291_290.out
      refine skip_ (w1 := ?_) (by rfl) rfl ?_ ?_
      rotate_left; · go_simp; rfl
      refine hK.out _ _ ?_
      clear hK K
      refine done_ (done_of HT_.out (by kernel_rfl)) ?_
      have hcz280_0 := cz_ BK291 0 (.slice (some ad368) x292000_1.length co273)
      have hfz280_0 := fz_ BK291 0
      have hnb281 := NB290_0.out
      have hnc281 := NB0_290.out
      have hcz282_0 := cz_ BK290 0 (.slice none 0 0)
      have hfz282_0 := fz_ BK290 0
      go_wp2
      refine bodyPost_ret (results_cell_row rfl _ _ gb290 26 #[.slice Ao278 y369.length co278] (0, 0) _ rfl (by refine bd_ ?_; refine blk_put (cs := #[.slice none 0 0]) ?_ 0 _ rfl; refine bd_ ?_; refine blk_far ?_ NB290_291.out _; refine bd_ ?_; exact BK290.out) Try.underlying26 rfl (by kernel_rfl)) rfl ?_
      exact ⟨_, by first | rfl | (simp [errW_none, errW_some] <;> rfl) | (simp [*, errW_none, errW_some] <;> rfl), by (with_reducible repeat (first | apply Kd.R_alloc | apply Kd.R_drewN | apply Kd.R_drew)); exact Kd.R_mono (Kd.R_far (Kd.R_far (Kd.R_types (Kd.R_types HO371.out BK291.out (by decide)) BK290.out (by decide)) (fun _ hk => hk.1.2) _) (fun _ hk => hk.2) _) (fun _ hk => trivial), is112_, bw112_, kx_ HK⟩
   rw [if_pos c8] at H
   have c8b0 : decide (x6_1 < a1) = true := decide_eq_true c8
   clear c8
   obtain ⟨⟨t292, t293, t294, t295⟩, A9, H⟩ := ob_ H
   have HC10 := Aside0.mk H
   clear H
   go_upto_region 6 with (first | ((with_reducible refine gate_callee (f := 86) rfl ?_); refine gl_ (some 22) Try.func86 #[.pointer (some ⟨g, 0, none⟩)] ?_; (with_reducible refine (spec_l01DrawPrefix.calls g s0_0 x1001_1 x1002_1 t292 t293 t294 t295 w0 _ ?side1 ?side2 A9.out).mono ?_); (case side1 => exact is112_); (case side2 => exact bw112_); rintro e w11 ⟨rfl, hi, hb, hk⟩; refine ⟨_, rfl, ?_⟩; replace HO_292000 := ak112_ HO_292000 (show IsS112 w0 _ g s0_0 x1001_1 x1002_1 from is112_) hk; replace BK290 := kb_ BK290 NB290_0 hk; replace BK291 := kb_ BK291 NB291_0 hk; replace HK := kt_ HK hk; replace HB := Aside0.mk (hb); replace HI0 := Aside0.mk (hi); clear hb hk hi) | ((with_reducible refine gate_dst (N := 7) rfl ?_); refine be_ 7 #[.int .i64 0, .int .i64 0] 28 ?_; intro gb296 hg w12 BK296 hb; have GW296 := gw_ HK hg; have GE296 := gv_ HW0 HK hg; have NB290_296 := nl_ BK290 hg; have NB296_290 := ng_ BK290 hg; have NB291_296 := nl_ BK291 hg; have NB296_291 := ng_ BK291 hg; have NB0_296 := Aside0.mk ((by rw [hg]; exact Nat.ne_of_lt (IsS112.lt (show IsS112 w0 _ g s0_0 t294 t295 from is112_)) : g ≠ gb296)); have NB296_0 := Aside0.mk ((by rw [hg]; exact Nat.ne_of_gt (IsS112.lt (show IsS112 w0 _ g s0_0 t294 t295 from is112_)) : gb296 ≠ g)); replace HO_292000 := rb_ HO_292000 hb; replace HB := bs112_ hb; replace HK := kt_ HK (KeepBut.of_below hb g none); replace BK290 := ab_ BK290 hb; replace BK291 := ab_ BK291 hb; replace HI0 := Aside0.mk (IsS112.below is112_ hb); clear hb hg; have hnb13 := NB296_290.out; have hnc13 := NB290_296.out; have hnb14 := NB296_291.out; have hnc14 := NB291_296.out; have hnb15 := NB296_0.out; have hnc15 := NB0_296.out; have hcz16_0 := cz_ BK296 0 (.int .i64 0); have hcz16_1 := cz_ BK296 1 (.int .i64 0); have hfz16_0 := fz_ BK296 0; have hfz16_1 := fz_ BK296 1))
   (try simp only [Act.put, List.setIfInBounds_toArray, List.set_cons_zero, List.set_cons_succ])
   go_cut [30] (fun v30 wc => ∃ (kq : Nat) (x30_9 : Bool) (x1001_9 : Int) (x1002_9 : Int), v30 = .bool x30_9 ∧ Aside0 (spec_l02DrawTable.j1 kq a1 x6_1 x30_9 s0_0 x1001_9 x1002_9 x292000_1 t292 t293 = some (r1, r2, r3)) ∧ Aside0 (kq ≤ k1) ∧ Aside0 (Kd.R k30 30 wc w.heap.size (fun _ => True) u292000 x292000_1) ∧ Aside0 (wc.heap[gb290]? = some (.cells #[(.slice none 0 0)] 26 (0, 0))) ∧ Aside0 (wc.heap[gb291]? = some (.cells #[u292000] 26 (0, 0))) ∧ Aside0 (wc.heap[gb296]? = some (.cells #[.int .i64 t292, .int .i64 t293] 28 (0, 0))) ∧ Aside0 (IsS112 w0 wc g s0_0 x1001_9 x1002_9) ∧ Aside0 (KeepBut w wc g none) ∧ Aside0 (Below w0.heap.size w0 wc))
   case first =>
    have H := HC10.out
    clear HC10
    by_cases c17 : (x292000_1.length : Int) > 0
    rotate_left
    ·rw [if_neg c17] at H
     have c17b0 : decide (0 < (x292000_1.length : Int)) = false := decide_eq_false c17
     have c17b1 : decide (0 < x292000_1.length) = false := decide_eq_false (by omega)
     clear c17
     (first | rw [c17b0] | (simp only [i64_w, i32_w]; rw [c17b0]) | skip)
     have H' := Aside0.mk H
     clear H
     have hnb25 := NB291_290.out
     have hnc25 := NB290_291.out
     have hnb26 := NB291_296.out
     have hnc26 := NB296_291.out
     have hnb27 := NB291_0.out
     have hnc27 := NB0_291.out
     have hcz28_0 := cz_ BK291 0 (u292000)
     have hfz28_0 := fz_ BK291 0
     obtain ⟨Ao29, co29, eo29⟩ := Kd.R_slice HO_292000.out
     subst eo29
     go_wp2
     go_meet
     case rel => exact ⟨_, (false), (t294), (t295), er_, H', ⟨by have := HK1.out; first | omega | exact Nat.le_refl _⟩, ⟨by (with_reducible repeat (first | apply Kd.R_alloc | apply Kd.R_drewN | apply Kd.R_drew)); exact Kd.R_mono (Kd.R_far (Kd.R_far (Kd.R_types HO_292000.out BK296.out (by decide)) (fun _ hk => hk.2) _) (fun _ hk => hk.2) _) (fun _ hk => trivial)⟩, ⟨bc_ BK290⟩, ⟨bc_ BK291⟩, ⟨by refine bd_ ?_; refine blk_put (cs := #[.int .i64 t292, .int .i64 0]) ?_ 1 _ rfl; refine bd_ ?_; refine blk_put (cs := #[.int .i64 0, .int .i64 0]) ?_ 0 _ rfl; refine bd_ ?_; exact BK296.out⟩, ⟨is112_⟩, ⟨kx_ HK⟩, ⟨bw112_⟩⟩
    rw [if_pos c17] at H
    have c17b0 : decide (0 < (x292000_1.length : Int)) = true := decide_eq_true c17
    have c17b1 : decide (0 < x292000_1.length) = true := decide_eq_true (by omega)
    clear c17
    (first | rw [c17b0] | (simp only [i64_w, i32_w]; rw [c17b0]) | skip)
    obtain ⟨⟨t297, t298, t299⟩, A18, H⟩ := ob_ H
    have H' := Aside0.mk H
    clear H
    have hnb19 := NB291_290.out
    have hnc19 := NB290_291.out
    have hnb20 := NB291_296.out
    have hnc20 := NB296_291.out
    have hnb21 := NB291_0.out
    have hnc21 := NB0_291.out
    have hcz22_0 := cz_ BK291 0 (u292000)
    have hfz22_0 := fz_ BK291 0
    obtain ⟨Ao23, co23, eo23⟩ := Kd.R_slice HO_292000.out
    subst eo23
    go_wp2_with (go_at_call 81; (with_reducible refine (spec_l01Once.calls g s0_0 t294 t295 2 t297 t298 t299 w0 _ ?side1 ?side2 A18.out).mono ?_); (case side1 => exact is112_); (case side2 => exact bw112_); rintro e w24 ⟨rfl, hi, hb, hk⟩; replace HO_292000 := Aside0.mk (Kd.R_mono (Kd.R_keep (IsS112.apart (show IsS112 w0 _ g s0_0 t294 t295 from is112_) (hs_ HO_292000 BK296) (by decide)) hk (fun _ h => h.2)) (fun _ h => h.1)); replace BK290 := kc_ BK290 NB290_0 hk; replace BK291 := kc_ BK291 NB291_0 hk; replace BK296 := Aside0.mk (KeepBut.blk hk (g' := gb296) (o := .cells #[.int .i64 t292, .int .i64 t293] 28 (0, 0)) (by refine bd_ ?_; refine blk_put (cs := #[.int .i64 t292, .int .i64 0]) ?_ 1 _ rfl; refine bd_ ?_; refine blk_put (cs := #[.int .i64 0, .int .i64 0]) ?_ 0 _ rfl; refine bd_ ?_; exact BK296.out) NB296_0.out (by simp)); replace HK := kt_ HK hk; replace HB := Aside0.mk (hb); replace HI0 := Aside0.mk (hi); clear hb hk hi)
    go_meet
    case rel => exact ⟨_, (t297), (t298), (t299), er_, H', ⟨by have := HK1.out; first | omega | exact Nat.le_refl _⟩, ⟨hd_ HO_292000⟩, ⟨bx_ BK290⟩, ⟨bx_ BK291⟩, ⟨bx_ BK296⟩, ⟨is112_⟩, ⟨kx_ HK⟩, ⟨bw112_⟩⟩
   case rest =>
    clear HC10 c8b0 hcz16_0 hcz16_1 hfz16_0 hfz16_1
    obtain ⟨kq, x30_9, x1001_9, x1002_9, rfl, HA, HJ9, HO_292000, BK290, BK291, BK296, HI0, HK, HB⟩ := hcut
    cases kq with
    | zero => exact absurd HA.out (by simp [spec_l02DrawTable.j1])
    | succ kj9 =>
     have H := HA.out
     clear HA
     simp only [spec_l02DrawTable.j1] at H
     by_cases c30 : x30_9 = true
     rotate_left
     ·replace c30 := Bool.eq_false_iff.mpr c30
      subst c30
      rw [if_neg (show ¬ (false = true) by decide)] at H
      obtain ⟨⟨t339, t340, t341⟩, A197, H⟩ := ob_ H
      obtain ⟨⟨t342, t345⟩, A198, H⟩ := ob_ H
      have H' := Aside0.mk H
      clear H
      obtain ⟨Ao199, co199, eo199⟩ := Kd.R_slice HO_292000.out
      subst eo199
      go_wp2
      replace HO_292000 := Aside0.mk (Kd.R_drew HO_292000.out)
      replace BK290 := ad_ BK290
      replace BK291 := ad_ BK291
      replace BK296 := ad_ BK296
      replace HI0 := Aside0.mk (IsS112.drew HI0.out)
      replace HK := Aside0.mk (keep_drew HK.out)
      replace HB := Aside0.mk (below_drew1 HB.out)
      refine start_ (n := 12) (S := fun w' => w'.cell? ⟨gb291, 0, none⟩ = some (.slice Ao199 x292000_1.length co199) ∧ w'.cell? ⟨gb296, 0, none⟩ = some (.int .i64 t292) ∧ w'.cell? ⟨gb296, 1, none⟩ = some (.int .i64 t293)) (ds := []) ba13_0 (by kernel_rfl) rfl rfl ⟨bq5_ BK291 0, bq5_ BK296 0, bq5_ BK296 1⟩ (fun hHeld => ?_); refine with_tabW spec_l02DrawTable.tab13 spec_l02DrawTable.bits13 (fun HT_ HW_ => ?_)
      generalize wc.drew = w200 at HO_292000 BK290 BK291 BK296 HI0 HK HB hHeld ⊢
      refine pz_ 2 55 ba13_17 HT_ ?_
      refine pt_ 0 53 ba13_2 HT_ HW_ hHeld ?_
      refine pt_ 1 54 ba13_18 HT_ HW_ hHeld ?_
      refine join_ (σ := Value × Nat) 2 ba13_12 (fun s_ => [(56, .int .i64 t339), (58, .tuple #[.agg #[s_.1], .bool t345]), (12, .pointer (some ⟨s_.2, 0, none⟩)), (57, .agg #[.int .i64 t292, .int .i64 t293, .int .i64 t339]), (52, .tuple #[.agg #[s_.1], .bool t345]), (59, .agg #[s_.1]), (60, .bool t345)]) (fun s_ w' => (w'.cell? ⟨gb291, 0, none⟩ = some (.slice Ao199 x292000_1.length co199) ∧ w'.cell? ⟨gb296, 0, none⟩ = some (.int .i64 t292) ∧ w'.cell? ⟨gb296, 1, none⟩ = some (.int .i64 t293)) ∧ (Kd.R k30 30 w' w.heap.size (fun k_ => some k_ ≠ (.slice Ao199 x292000_1.length co199 : Value).ownBlock) s_.1 t342) ∧ (Kd.R k30 30 w' w.heap.size (fun k_ => some k_ ≠ (s_.1 : Value).ownBlock) (.slice Ao199 x292000_1.length co199) x292000_1) ∧ (w'.heap[gb290]? = some (.cells #[.slice none 0 0] 26 (0, 0))) ∧ (w'.heap[gb291]? = some (.cells #[.slice Ao199 x292000_1.length co199] 26 (0, 0))) ∧ (w'.heap[gb296]? = some (.cells #[.int .i64 t292, .int .i64 t293] 28 (0, 0))) ∧ (w'.heap[s_.2]? = some (.cells #[.slice none 0 0] 26 (0, 0))) ∧ (w.heap.size ≤ s_.2) ∧ (w0.heap.size ≤ s_.2) ∧ (g ≠ s_.2) ∧ (s_.2 ≠ g) ∧ (gb290 ≠ s_.2) ∧ (s_.2 ≠ gb290) ∧ (gb291 ≠ s_.2) ∧ (s_.2 ≠ gb291) ∧ (gb296 ≠ s_.2) ∧ (s_.2 ≠ gb296) ∧ (IsS112 w0 w' g s0_0 t340 t341) ∧ (KeepBut w w' g none) ∧ (Below w0.heap.size w0 w')) ?_ ?_
      rotate_left
      ·intro hCont
       refine two_ (i := 3) (j := 9) (Ni := some 56) (Nj := some 12) ba13_4 ba13_19 rfl rfl rfl rfl (two_of HT_.out (by kernel_rfl)) (by decide) (by decide) (fun K hK => ?_) (fun K hK => ?_)
       ·skip
        refine gz_ Try.func44 #[.pointer (some ⟨g, 0, none⟩), .int .i64 4] ?_
        with_reducible refine (spec_l01Below.calls g s0_0 x1001_9 x1002_9 4 t339 t340 t341 w0 _ ?side1 ?side2 A197.out).mono ?_
        (case side1 => exact is112_)
        (case side2 => exact bw112_)
        rintro e w201 ⟨rfl, hi, hb, hk⟩
        refine ⟨_, rfl, ?_⟩
        replace HO_292000 := ak112_ HO_292000 (show IsS112 w0 _ g s0_0 x1001_9 x1002_9 from is112_) hk
        replace BK290 := kb_ BK290 NB290_0 hk
        replace BK291 := kb_ BK291 NB291_0 hk
        replace BK296 := kb_ BK296 NB296_0 hk
        replace HK := kt_ HK hk
        replace HB := Aside0.mk (hb)
        replace HI0 := Aside0.mk (hi)
        clear hb hk hi
        refine hK.out _ _ ⟨bq5_ BK291 0, bq5_ BK296 0, bq5_ BK296 1⟩ (fun hHeld => ?_)
        clear hK K
        refine nz_ 56 ?_
        refine pz_ 4 57 ba13_5 HT_ ?_
        refine two_ (i := 5) (j := 9) (Ni := some 58) (Nj := some 12) ba13_6 ba13_20 rfl rfl rfl rfl (two_of HT_.out (by kernel_rfl)) (by decide) (by decide) (fun K hK => ?_) (fun K hK => ?_)
        ·skip
         refine gz_ Try.func10 #[.agg #[.slice Ao199 x292000_1.length co199], .agg #[.int .i64 t292, .int .i64 t293, .int .i64 t339]] ?_
         with_reducible refine (spec_PutRoute.calls kj9 _ _ x292000_1 t292 t293 t339 t342 t345 _ ?side1 ?side2 A198.out).mono ?_
         (case side1 => exact rc_ HO_292000)
         (case side2 => exact (Kd.R_reads' HO_292000.out).2.1)
         rintro e w202 ⟨v343, rfl, ho0, hb⟩
         refine ⟨_, rfl, ?_⟩
         have HO344 := Aside0.mk (Kd.R_lower (Kd.R_new' ho0 (Kd.R_lt (hd_ HO_292000))) (keep_size (w := w) (g := g) (row := none) (kx_ HK)))
         replace HO_292000 := Aside0.mk (Kd.R_elder' (hd_ HO_292000) (Kd.R_base ho0) hb)
         replace BK290 := ab_ BK290 hb
         replace BK291 := ab_ BK291 hb
         replace BK296 := ab_ BK296 hb
         replace HK := kt_ HK (KeepBut.of_below hb g none)
         replace HB := bs112_ hb
         replace HI0 := Aside0.mk (IsS112.below is112_ hb)
         clear hb ho0
         refine hK.out _ _ ⟨bq5_ BK291 0, bq5_ BK296 0, bq5_ BK296 1⟩ (fun hHeld => ?_)
         clear hK K
         refine nz_ 58 ?_
         refine pz_ 6 52 ba13_8 HT_ ?_
         refine pz_ 7 59 ba13_10 HT_ ?_
         refine pz_ 8 60 ba13_11 HT_ ?_
         refine on_ 9 (some 12) ba13_12 HT_ (fun K hK => ?_)
         refine box_step ?hg (N := 12) ?hd (cs := #[.slice none 0 0]) (t := 26) ?hr ?_; (case hd => rfl); (case hg => rfl); (case hr => first | (go_simp; done) | (go_simp; rfl))
         intro gb346 hg w203 hbox hb
         have BK346 := Aside0.mk hbox
         have GW346 := gw_ HK hg
         have GE346 := gv_ HW0 HK hg
         have NB290_346 := nl_ BK290 hg
         have NB346_290 := ng_ BK290 hg
         have NB291_346 := nl_ BK291 hg
         have NB346_291 := ng_ BK291 hg
         have NB296_346 := nl_ BK296 hg
         have NB346_296 := ng_ BK296 hg
         have NB0_346 := Aside0.mk ((by rw [hg]; exact Nat.ne_of_lt (IsS112.lt (show IsS112 w0 _ g s0_0 t340 t341 from is112_)) : g ≠ gb346))
         have NB346_0 := Aside0.mk ((by rw [hg]; exact Nat.ne_of_gt (IsS112.lt (show IsS112 w0 _ g s0_0 t340 t341 from is112_)) : gb346 ≠ g))
         replace HO_292000 := rb_ HO_292000 hb
         replace HO344 := rb_ HO344 hb
         replace HB := bs112_ hb
         replace HK := kt_ HK (KeepBut.of_below hb g none)
         replace BK290 := ab_ BK290 hb
         replace BK291 := ab_ BK291 hb
         replace BK296 := ab_ BK296 hb
         replace HI0 := Aside0.mk (IsS112.below is112_ hb)
         clear hb hbox hg
         refine hK.out _ _ ⟨bq5_ BK291 0, bq5_ BK296 0, bq5_ BK296 1⟩ (fun hHeld => ?_)
         clear hK K
         refine nz_ 12 ?_
         exact norm_ (by simp only [putAll, Act.put, List.setIfInBounds_toArray, List.set_cons_zero, List.set_cons_succ]) (hCont (v343, gb346) _ ⟨hHeld, (by (with_reducible repeat (first | apply Kd.R_alloc | apply Kd.R_drewN | apply Kd.R_drew)); exact Kd.R_mono HO344.out (fun _ hk => hk.2)), (by (with_reducible repeat (first | apply Kd.R_alloc | apply Kd.R_drewN | apply Kd.R_drew)); exact Kd.R_mono HO_292000.out (fun _ hk => hk.2)), (bx_ BK290), (bx_ BK291), (bx_ BK296), (bx_ BK346), GW346.out, GE346.out, NB0_346.out, NB346_0.out, NB290_346.out, NB346_290.out, NB291_346.out, NB346_291.out, NB296_346.out, NB346_296.out, (is112_), (kx_ HK), (bw112_)⟩)
        ·skip
         refine box_step ?hg (N := 12) ?hd (cs := #[.slice none 0 0]) (t := 26) ?hr ?_; (case hd => rfl); (case hg => rfl); (case hr => first | (go_simp; done) | (go_simp; rfl))
         intro gb346 hg w202 hbox hb
         have BK346 := Aside0.mk hbox
         have GW346 := gw_ HK hg
         have GE346 := gv_ HW0 HK hg
         have NB290_346 := nl_ BK290 hg
         have NB346_290 := ng_ BK290 hg
         have NB291_346 := nl_ BK291 hg
         have NB346_291 := ng_ BK291 hg
         have NB296_346 := nl_ BK296 hg
         have NB346_296 := ng_ BK296 hg
         have NB0_346 := Aside0.mk ((by rw [hg]; exact Nat.ne_of_lt (IsS112.lt (show IsS112 w0 _ g s0_0 t340 t341 from is112_)) : g ≠ gb346))
         have NB346_0 := Aside0.mk ((by rw [hg]; exact Nat.ne_of_gt (IsS112.lt (show IsS112 w0 _ g s0_0 t340 t341 from is112_)) : gb346 ≠ g))
         replace HO_292000 := rb_ HO_292000 hb
         replace HB := bs112_ hb
         replace HK := kt_ HK (KeepBut.of_below hb g none)
         replace BK290 := ab_ BK290 hb
         replace BK291 := ab_ BK291 hb
         replace BK296 := ab_ BK296 hb
         replace HI0 := Aside0.mk (IsS112.below is112_ hb)
         clear hb hbox hg
         refine hK.out _ _ ⟨bq5_ BK291 0, bq5_ BK296 0, bq5_ BK296 1⟩ (fun hHeld => ?_)
         clear hK K
         refine nz_ 12 ?_
         refine on_ 5 (some 58) ba13_21 HT_ (fun K hK => ?_)
         refine gz_ Try.func10 #[.agg #[.slice Ao199 x292000_1.length co199], .agg #[.int .i64 t292, .int .i64 t293, .int .i64 t339]] ?_
         with_reducible refine (spec_PutRoute.calls kj9 _ _ x292000_1 t292 t293 t339 t342 t345 _ ?side1 ?side2 A198.out).mono ?_
         (case side1 => exact rc_ HO_292000)
         (case side2 => exact (Kd.R_reads' HO_292000.out).2.1)
         rintro e w203 ⟨v343, rfl, ho0, hb⟩
         refine ⟨_, rfl, ?_⟩
         have HO344 := Aside0.mk (Kd.R_lower (Kd.R_new' ho0 (Kd.R_lt (hd_ HO_292000))) (keep_size (w := w) (g := g) (row := none) (kx_ HK)))
         replace HO_292000 := Aside0.mk (Kd.R_elder' (hd_ HO_292000) (Kd.R_base ho0) hb)
         replace BK290 := ab_ BK290 hb
         replace BK291 := ab_ BK291 hb
         replace BK296 := ab_ BK296 hb
         replace BK346 := ab_ BK346 hb
         replace HK := kt_ HK (KeepBut.of_below hb g none)
         replace HB := bs112_ hb
         replace HI0 := Aside0.mk (IsS112.below is112_ hb)
         clear hb ho0
         refine hK.out _ _ ⟨bq5_ BK291 0, bq5_ BK296 0, bq5_ BK296 1⟩ (fun hHeld => ?_)
         clear hK K
         refine nz_ 58 ?_
         refine pz_ 6 52 ba13_22 HT_ ?_
         refine pz_ 7 59 ba13_23 HT_ ?_
         refine pz_ 8 60 ba13_12 HT_ ?_
         exact norm_ (by simp only [putAll, Act.put, List.setIfInBounds_toArray, List.set_cons_zero, List.set_cons_succ]) (hCont (v343, gb346) _ ⟨hHeld, (by (with_reducible repeat (first | apply Kd.R_alloc | apply Kd.R_drewN | apply Kd.R_drew)); exact Kd.R_mono HO344.out (fun _ hk => hk.2)), (by (with_reducible repeat (first | apply Kd.R_alloc | apply Kd.R_drewN | apply Kd.R_drew)); exact Kd.R_mono HO_292000.out (fun _ hk => hk.2)), (bx_ BK290), (bx_ BK291), (bx_ BK296), (bx_ BK346), GW346.out, GE346.out, NB0_346.out, NB346_0.out, NB290_346.out, NB346_290.out, NB291_346.out, NB346_291.out, NB296_346.out, NB346_296.out, (is112_), (kx_ HK), (bw112_)⟩)
       ·skip
        refine box_step ?hg (N := 12) ?hd (cs := #[.slice none 0 0]) (t := 26) ?hr ?_; (case hd => rfl); (case hg => rfl); (case hr => first | (go_simp; done) | (go_simp; rfl))
        intro gb346 hg w201 hbox hb
        have BK346 := Aside0.mk hbox
        have GW346 := gw_ HK hg
        have GE346 := gv_ HW0 HK hg
        have NB290_346 := nl_ BK290 hg
        have NB346_290 := ng_ BK290 hg
        have NB291_346 := nl_ BK291 hg
        have NB346_291 := ng_ BK291 hg
        have NB296_346 := nl_ BK296 hg
        have NB346_296 := ng_ BK296 hg
        have NB0_346 := Aside0.mk ((by rw [hg]; exact Nat.ne_of_lt (IsS112.lt (show IsS112 w0 _ g s0_0 x1001_9 x1002_9 from is112_)) : g ≠ gb346))
        have NB346_0 := Aside0.mk ((by rw [hg]; exact Nat.ne_of_gt (IsS112.lt (show IsS112 w0 _ g s0_0 x1001_9 x1002_9 from is112_)) : gb346 ≠ g))
        replace HO_292000 := rb_ HO_292000 hb
        replace HB := bs112_ hb
        replace HK := kt_ HK (KeepBut.of_below hb g none)
        replace BK290 := ab_ BK290 hb
        replace BK291 := ab_ BK291 hb
        replace BK296 := ab_ BK296 hb
        replace HI0 := Aside0.mk (IsS112.below is112_ hb)
        clear hb hbox hg
        refine hK.out _ _ ⟨bq5_ BK291 0, bq5_ BK296 0, bq5_ BK296 1⟩ (fun hHeld => ?_)
        clear hK K
        refine nz_ 12 ?_
        refine on_ 3 (some 56) ba13_24 HT_ (fun K hK => ?_)
        refine gz_ Try.func44 #[.pointer (some ⟨g, 0, none⟩), .int .i64 4] ?_
        with_reducible refine (spec_l01Below.calls g s0_0 x1001_9 x1002_9 4 t339 t340 t341 w0 _ ?side1 ?side2 A197.out).mono ?_
        (case side1 => exact is112_)
        (case side2 => exact bw112_)
        rintro e w202 ⟨rfl, hi, hb, hk⟩
        refine ⟨_, rfl, ?_⟩
        replace HO_292000 := ak112_ HO_292000 (show IsS112 w0 _ g s0_0 x1001_9 x1002_9 from is112_) hk
        replace BK290 := kb_ BK290 NB290_0 hk
        replace BK291 := kb_ BK291 NB291_0 hk
        replace BK296 := kb_ BK296 NB296_0 hk
        replace BK346 := kb_ BK346 NB346_0 hk
        replace HK := kt_ HK hk
        replace HB := Aside0.mk (hb)
        replace HI0 := Aside0.mk (hi)
        clear hb hk hi
        refine hK.out _ _ ⟨bq5_ BK291 0, bq5_ BK296 0, bq5_ BK296 1⟩ (fun hHeld => ?_)
        clear hK K
        refine nz_ 56 ?_
        refine pz_ 4 57 ba13_20 HT_ ?_
        refine on_ 5 (some 58) ba13_21 HT_ (fun K hK => ?_)
        refine gz_ Try.func10 #[.agg #[.slice Ao199 x292000_1.length co199], .agg #[.int .i64 t292, .int .i64 t293, .int .i64 t339]] ?_
        with_reducible refine (spec_PutRoute.calls kj9 _ _ x292000_1 t292 t293 t339 t342 t345 _ ?side1 ?side2 A198.out).mono ?_
        (case side1 => exact rc_ HO_292000)
        (case side2 => exact (Kd.R_reads' HO_292000.out).2.1)
        rintro e w203 ⟨v343, rfl, ho0, hb⟩
        refine ⟨_, rfl, ?_⟩
        have HO344 := Aside0.mk (Kd.R_lower (Kd.R_new' ho0 (Kd.R_lt (hd_ HO_292000))) (keep_size (w := w) (g := g) (row := none) (kx_ HK)))
        replace HO_292000 := Aside0.mk (Kd.R_elder' (hd_ HO_292000) (Kd.R_base ho0) hb)
        replace BK290 := ab_ BK290 hb
        replace BK291 := ab_ BK291 hb
        replace BK296 := ab_ BK296 hb
        replace BK346 := ab_ BK346 hb
        replace HK := kt_ HK (KeepBut.of_below hb g none)
        replace HB := bs112_ hb
        replace HI0 := Aside0.mk (IsS112.below is112_ hb)
        clear hb ho0
        refine hK.out _ _ ⟨bq5_ BK291 0, bq5_ BK296 0, bq5_ BK296 1⟩ (fun hHeld => ?_)
        clear hK K
        refine nz_ 58 ?_
        refine pz_ 6 52 ba13_22 HT_ ?_
        refine pz_ 7 59 ba13_23 HT_ ?_
        refine pz_ 8 60 ba13_12 HT_ ?_
        exact norm_ (by simp only [putAll, Act.put, List.setIfInBounds_toArray, List.set_cons_zero, List.set_cons_succ]) (hCont (v343, gb346) _ ⟨hHeld, (by (with_reducible repeat (first | apply Kd.R_alloc | apply Kd.R_drewN | apply Kd.R_drew)); exact Kd.R_mono HO344.out (fun _ hk => hk.2)), (by (with_reducible repeat (first | apply Kd.R_alloc | apply Kd.R_drewN | apply Kd.R_drew)); exact Kd.R_mono HO_292000.out (fun _ hk => hk.2)), (bx_ BK290), (bx_ BK291), (bx_ BK296), (bx_ BK346), GW346.out, GE346.out, NB0_346.out, NB346_0.out, NB290_346.out, NB346_290.out, NB291_346.out, NB346_291.out, NB296_346.out, NB346_296.out, (is112_), (kx_ HK), (bw112_)⟩)
      rintro ⟨v343, gb346⟩ w204 ⟨hS_, h0_, h1_, h2_, h3_, h4_, h5_, h6_, h7_, h8_, h9_, h10_, h11_, h12_, h13_, h14_, h15_, h16_, h17_, h18_⟩
      have HO344 : Aside0 (Kd.R k30 30 w204 w.heap.size (fun k_ => some k_ ≠ (.slice Ao199 x292000_1.length co199 : Value).ownBlock) v343 t342) := ⟨h0_⟩
      have BK346 : Aside0 (w204.heap[gb346]? = some (.cells #[.slice none 0 0] 26 (0, 0))) := ⟨h5_⟩
      have GW346 : Aside0 (w.heap.size ≤ gb346) := ⟨h6_⟩
      have GE346 : Aside0 (w0.heap.size ≤ gb346) := ⟨h7_⟩
      have NB0_346 : Aside0 (g ≠ gb346) := ⟨h8_⟩
      have NB346_0 : Aside0 (gb346 ≠ g) := ⟨h9_⟩
      have NB290_346 : Aside0 (gb290 ≠ gb346) := ⟨h10_⟩
      have NB346_290 : Aside0 (gb346 ≠ gb290) := ⟨h11_⟩
      have NB291_346 : Aside0 (gb291 ≠ gb346) := ⟨h12_⟩
      have NB346_291 : Aside0 (gb346 ≠ gb291) := ⟨h13_⟩
      have NB296_346 : Aside0 (gb296 ≠ gb346) := ⟨h14_⟩
      have NB346_296 : Aside0 (gb346 ≠ gb296) := ⟨h15_⟩
      replace HO_292000 : Aside0 (Kd.R k30 30 w204 w.heap.size (fun k_ => some k_ ≠ (v343 : Value).ownBlock) (.slice Ao199 x292000_1.length co199) x292000_1) := ⟨h1_⟩
      replace BK290 : Aside0 (w204.heap[gb290]? = some (.cells #[.slice none 0 0] 26 (0, 0))) := ⟨h2_⟩
      replace BK291 : Aside0 (w204.heap[gb291]? = some (.cells #[.slice Ao199 x292000_1.length co199] 26 (0, 0))) := ⟨h3_⟩
      replace BK296 : Aside0 (w204.heap[gb296]? = some (.cells #[.int .i64 t292, .int .i64 t293] 28 (0, 0))) := ⟨h4_⟩
      replace HI0 : Aside0 (IsS112 w0 w204 g s0_0 t340 t341) := ⟨h16_⟩
      replace HK : Aside0 (KeepBut w w204 g none) := ⟨h17_⟩
      replace HB : Aside0 (Below w0.heap.size w0 w204) := ⟨h18_⟩
      clear h0_ h1_ h2_ h3_ h4_ h5_ h6_ h7_ h8_ h9_ h10_ h11_ h12_ h13_ h14_ h15_ h16_ h17_ h18_
      have hHeld : w204.cell? ⟨gb291, 0, none⟩ = some (.slice Ao199 x292000_1.length co199) ∧ w204.cell? ⟨gb296, 0, none⟩ = some (.int .i64 t292) ∧ w204.cell? ⟨gb296, 1, none⟩ = some (.int .i64 t293) := hS_
      obtain ⟨Ao205, co205, eo205⟩ := Kd.R_slice HO344.out
      subst eo205
      refine norm_ (a' := ?_) ?_ ?_
      rotate_left; · simp only [putAll, Act.put, List.setIfInBounds_toArray, List.set_cons_zero, List.set_cons_succ]; rfl
      refine on_ 10 none ba13_7 HT_ (fun K hK => ?_)
      have hs206 : w204.cell? ⟨gb346, 0, none⟩ = some (.slice none 0 0) := bq5_ BK346 0
      have hfs206 := fz_ BK346 0
      have hns206_0 := NB290_346.out
      have hns206_1 := NB291_346.out
      have hns206_2 := NB296_346.out
      have hms206_0 := NB346_290.out
      have hms206_1 := NB346_291.out
      have hms206_2 := NB346_296.out
      refine skip_ (w1 := ?_) (by rfl) rfl ?_ ?_
      rotate_left; · go_simp; rfl
      refine hK.out _ _ ⟨((cell_far (p := ⟨gb346, _, none⟩) NB291_346.out _).trans (hHeld.1)), ((cell_far (p := ⟨gb346, _, none⟩) NB296_346.out _).trans (hHeld.2.1)), ((cell_far (p := ⟨gb346, _, none⟩) NB296_346.out _).trans (hHeld.2.2))⟩ (fun hHeld => ?_)
      clear hK K
      refine pz_ 11 13 ba13_16 HT_ ?_
      refine done_ (done_of HT_.out (by kernel_rfl)) ?_
      have hnb207 := NB346_290.out
      have hnc207 := NB290_346.out
      have hnb208 := NB346_291.out
      have hnc208 := NB291_346.out
      have hnb209 := NB346_296.out
      have hnc209 := NB296_346.out
      have hnb210 := NB346_0.out
      have hnc210 := NB0_346.out
      have hcz211_0 := cz_ BK346 0 (.slice none 0 0)
      have hfz211_0 := fz_ BK346 0
      have hnb212 := NB291_290.out
      have hnc212 := NB290_291.out
      have hnb213 := NB291_296.out
      have hnc213 := NB296_291.out
      have hnb214 := NB291_0.out
      have hnc214 := NB0_291.out
      have hcz215_0 := cz_ BK291 0 (.slice Ao199 x292000_1.length co199)
      have hfz215_0 := fz_ BK291 0
      go_wp2
      go_roundg kj9
      case measure => have := HK1.out; have := HJ9.out; omega
      case rel => exact ⟨(wrap64 (x6_1 + 1)), (t340), (t341), (t342), (.slice Ao205 t342.length co205), er_, H', ⟨by have := HK1.out; have := HJ9.out; omega⟩, ⟨by (with_reducible repeat (first | apply Kd.R_alloc | apply Kd.R_drewN | apply Kd.R_drew)); exact Kd.R_mono (Kd.R_far (Kd.R_far (Kd.R_types (Kd.R_types HO344.out BK346.out (by decide)) BK291.out (by decide)) (fun _ hk => hk.1.2) _) (fun _ hk => hk.2) _) (fun _ hk => trivial)⟩, ⟨bc_ BK290⟩, ⟨by refine bd_ ?_; refine blk_put (cs := #[.slice Ao199 x292000_1.length co199]) ?_ 0 _ rfl; refine bd_ ?_; refine blk_far ?_ NB291_346.out _; refine bd_ ?_; exact BK291.out⟩, ⟨is112_⟩, ⟨kx_ HK⟩, ⟨bw112_⟩⟩
     subst c30
     rw [if_pos rfl] at H
     obtain ⟨⟨t300, t301, t302⟩, A31, H⟩ := ob_ H
     obtain ⟨c32b0, H⟩ := iq_ H
     obtain ⟨c33b0, H⟩ := iq_ H
     obtain ⟨⟨t305, t306, t307, t308, t309⟩, A34, H⟩ := ob_ H
     have Hh_ := Aside0.mk H
     clear H
     go_wp2
     replace HO_292000 := Aside0.mk (Kd.R_drew HO_292000.out)
     replace BK290 := ad_ BK290
     replace BK291 := ad_ BK291
     replace BK296 := ad_ BK296
     replace HI0 := Aside0.mk (IsS112.drew HI0.out)
     replace HK := Aside0.mk (keep_drew HK.out)
     replace HB := Aside0.mk (below_drew1 HB.out)
     obtain ⟨Ao41, co41, eo41⟩ := Kd.R_slice HO_292000.out
     subst eo41
     have p303 : 0 ≤ (t300 : Int) := oa_
     have q303 : t300 < (x292000_1.length : Int) := oa_
     obtain ⟨ad303, e303, hx303_0, hx303_1, hx303_2⟩ := at_T30 (Kd.R_reads' HO_292000.out).2.2 t300 p303 q303
     cases e303
     obtain ⟨p303, q303⟩ := et_ p303 q303
     refine start_ (n := 12) (S := fun w' => w'.cell? ⟨gb291, 0, none⟩ = some (.slice (some ad303) x292000_1.length co41) ∧ w'.cell? (ad303.add ((t300).toNat * 3)) = some (.int .i64 ((rd_T30 x292000_1 t300).f0.f0)) ∧ w'.cell? ⟨(ad303.add ((t300).toNat * 3)).block, (ad303.add ((t300).toNat * 3)).off + 1, none⟩ = some (.int .i64 ((rd_T30 x292000_1 t300).f0.f1)) ∧ w'.cell? ⟨(ad303.add ((t300).toNat * 3)).block, (ad303.add ((t300).toNat * 3)).off + 2, none⟩ = some (.int .i64 ((rd_T30 x292000_1 t300).f1))) (ds := []) ba13_0 (by kernel_rfl) rfl rfl ⟨bq5_ BK291 0, hx303_0, hx303_1, hx303_2⟩ (fun hHeld => ?_); refine with_tabW spec_l02DrawTable.tab7 spec_l02DrawTable.bits7 (fun HT_ HW_ => ?_)
     generalize wc.drew = w40 at HO_292000 BK290 BK291 BK296 HI0 HK HB hx303_0 hx303_1 hx303_2 hHeld ⊢
     refine pz_ 0 31 ba13_1 HT_ ?_
     refine pz_ 2 33 ba13_2 HT_ ?_
     refine pz_ 3 34 ba13_3 HT_ ?_
     refine pt_ 1 32 ba13_4 HT_ HW_ hHeld ?_
     refine pt_ 4 35 ba13_5 HT_ HW_ hHeld ?_
     refine pz_ 5 36 ba13_6 HT_ ?_
     refine join_ (σ := Nat) 1 ba13_7 (fun s_ => [(37, .int .i64 t300), (8, .pointer (some ⟨s_, 0, none⟩)), (38, .pointer (some (ad303.add ((t300).toNat * 3)))), (39, .pointer (some (ad303.add ((t300).toNat * 3)))), (40, .agg #[.int .i64 ((rd_T30 x292000_1 t300).f0.f0), .int .i64 ((rd_T30 x292000_1 t300).f0.f1)])]) (fun s_ w' => (w'.cell? ⟨gb291, 0, none⟩ = some (.slice (some ad303) x292000_1.length co41) ∧ w'.cell? (ad303.add ((t300).toNat * 3)) = some (.int .i64 ((rd_T30 x292000_1 t300).f0.f0)) ∧ w'.cell? ⟨(ad303.add ((t300).toNat * 3)).block, (ad303.add ((t300).toNat * 3)).off + 1, none⟩ = some (.int .i64 ((rd_T30 x292000_1 t300).f0.f1)) ∧ w'.cell? ⟨(ad303.add ((t300).toNat * 3)).block, (ad303.add ((t300).toNat * 3)).off + 2, none⟩ = some (.int .i64 ((rd_T30 x292000_1 t300).f1))) ∧ (Kd.R k30 30 w' w.heap.size (fun _ => True) (.slice (some ad303) x292000_1.length co41) x292000_1) ∧ (w'.heap[gb290]? = some (.cells #[.slice none 0 0] 26 (0, 0))) ∧ (w'.heap[gb291]? = some (.cells #[.slice (some ad303) x292000_1.length co41] 26 (0, 0))) ∧ (w'.heap[gb296]? = some (.cells #[.int .i64 t292, .int .i64 t293] 28 (0, 0))) ∧ (w'.heap[s_]? = some (.cells #[.int .i64 0, .int .i64 0] 28 (0, 0))) ∧ (w.heap.size ≤ s_) ∧ (w0.heap.size ≤ s_) ∧ (g ≠ s_) ∧ (s_ ≠ g) ∧ (gb290 ≠ s_) ∧ (s_ ≠ gb290) ∧ (gb291 ≠ s_) ∧ (s_ ≠ gb291) ∧ (gb296 ≠ s_) ∧ (s_ ≠ gb296) ∧ (IsS112 w0 w' g s0_0 t301 t302) ∧ (KeepBut w w' g none) ∧ (Below w0.heap.size w0 w')) ?_ ?_
     rotate_left
     ·intro hCont
      refine two_ (i := 6) (j := 10) (Ni := some 37) (Nj := some 8) ba13_8 ba13_9 rfl rfl rfl rfl (two_of HT_.out (by kernel_rfl)) (by decide) (by decide) (fun K hK => ?_) (fun K hK => ?_)
      ·skip
       refine gz_ Try.func44 #[.pointer (some ⟨g, 0, none⟩), .int .i64 (x292000_1.length : Int)] ?_
       with_reducible refine (spec_l01Below.calls g s0_0 x1001_9 x1002_9 (x292000_1.length : Int) t300 t301 t302 w0 _ ?side1 ?side2 A31.out).mono ?_
       (case side1 => exact is112_)
       (case side2 => exact bw112_)
       rintro e w42 ⟨rfl, hi, hb, hk⟩
       have HS1_ := keep_cell hk (hHeld.2.1) (by first | (rw [add_block]; exact Kd.own_blk (IsS112.own_ne HI0.out HO_292000.out (by decide))) | (show (Addr.add _ _).block ≠ _; rw [add_block]; exact Kd.own_blk (IsS112.own_ne HI0.out HO_292000.out (by decide))) | exact Kd.own_blk (IsS112.own_ne HI0.out HO_292000.out (by decide)))
       have HS2_ := keep_cell hk (hHeld.2.2.1) (by first | (rw [add_block]; exact Kd.own_blk (IsS112.own_ne HI0.out HO_292000.out (by decide))) | (show (Addr.add _ _).block ≠ _; rw [add_block]; exact Kd.own_blk (IsS112.own_ne HI0.out HO_292000.out (by decide))) | exact Kd.own_blk (IsS112.own_ne HI0.out HO_292000.out (by decide)))
       have HS3_ := keep_cell hk (hHeld.2.2.2) (by first | (rw [add_block]; exact Kd.own_blk (IsS112.own_ne HI0.out HO_292000.out (by decide))) | (show (Addr.add _ _).block ≠ _; rw [add_block]; exact Kd.own_blk (IsS112.own_ne HI0.out HO_292000.out (by decide))) | exact Kd.own_blk (IsS112.own_ne HI0.out HO_292000.out (by decide)))
       refine ⟨_, rfl, ?_⟩
       replace HO_292000 := ak112_ HO_292000 (show IsS112 w0 _ g s0_0 x1001_9 x1002_9 from is112_) hk
       replace BK290 := kb_ BK290 NB290_0 hk
       replace BK291 := kb_ BK291 NB291_0 hk
       replace BK296 := kb_ BK296 NB296_0 hk
       replace HK := kt_ HK hk
       replace HB := Aside0.mk (hb)
       replace HI0 := Aside0.mk (hi)
       clear hb hk hi
       refine hK.out _ _ ⟨bq5_ BK291 0, HS1_, HS2_, HS3_⟩ (fun hHeld => ?_)
       clear hK K
       refine nz_ 37 ?_
       refine pz_ 7 38 ba13_10 HT_ ?_
       refine pz_ 8 39 ba13_11 HT_ ?_
       refine pt_ 9 40 ba13_12 HT_ HW_ hHeld ?_
       refine on_ 10 (some 8) ba13_7 HT_ (fun K hK => ?_)
       refine box_step ?hg (N := 8) ?hd (cs := #[.int .i64 0, .int .i64 0]) (t := 28) ?hr ?_; (case hd => rfl); (case hg => rfl); (case hr => first | (go_simp; done) | (go_simp; rfl))
       intro gb304 hg w43 hbox hb
       have HS1_ := (hb.cell (World.block_lt_of_cell? _ _ (hHeld.2.1))).trans (hHeld.2.1)
       have HS2_ := (hb.cell (World.block_lt_of_cell? _ _ (hHeld.2.2.1))).trans (hHeld.2.2.1)
       have HS3_ := (hb.cell (World.block_lt_of_cell? _ _ (hHeld.2.2.2))).trans (hHeld.2.2.2)
       have BK304 := Aside0.mk hbox
       have GW304 := gw_ HK hg
       have GE304 := gv_ HW0 HK hg
       have NB290_304 := nl_ BK290 hg
       have NB304_290 := ng_ BK290 hg
       have NB291_304 := nl_ BK291 hg
       have NB304_291 := ng_ BK291 hg
       have NB296_304 := nl_ BK296 hg
       have NB304_296 := ng_ BK296 hg
       have NB0_304 := Aside0.mk ((by rw [hg]; exact Nat.ne_of_lt (IsS112.lt (show IsS112 w0 _ g s0_0 t301 t302 from is112_)) : g ≠ gb304))
       have NB304_0 := Aside0.mk ((by rw [hg]; exact Nat.ne_of_gt (IsS112.lt (show IsS112 w0 _ g s0_0 t301 t302 from is112_)) : gb304 ≠ g))
       replace HO_292000 := rb_ HO_292000 hb
       replace HB := bs112_ hb
       replace HK := kt_ HK (KeepBut.of_below hb g none)
       replace BK290 := ab_ BK290 hb
       replace BK291 := ab_ BK291 hb
       replace BK296 := ab_ BK296 hb
       replace HI0 := Aside0.mk (IsS112.below is112_ hb)
       clear hb hbox hg
       refine hK.out _ _ ⟨bq5_ BK291 0, HS1_, HS2_, HS3_⟩ (fun hHeld => ?_)
       clear hK K
       refine nz_ 8 ?_
       exact norm_ (by simp only [putAll, Act.put, List.setIfInBounds_toArray, List.set_cons_zero, List.set_cons_succ]) (hCont (gb304) _ ⟨hHeld, (hd_ HO_292000), (bx_ BK290), (bx_ BK291), (bx_ BK296), (bx_ BK304), GW304.out, GE304.out, NB0_304.out, NB304_0.out, NB290_304.out, NB304_290.out, NB291_304.out, NB304_291.out, NB296_304.out, NB304_296.out, (is112_), (kx_ HK), (bw112_)⟩)
      ·skip
       refine box_step ?hg (N := 8) ?hd (cs := #[.int .i64 0, .int .i64 0]) (t := 28) ?hr ?_; (case hd => rfl); (case hg => rfl); (case hr => first | (go_simp; done) | (go_simp; rfl))
       intro gb304 hg w42 hbox hb
       have HS1_ := (hb.cell (World.block_lt_of_cell? _ _ (hHeld.2.1))).trans (hHeld.2.1)
       have HS2_ := (hb.cell (World.block_lt_of_cell? _ _ (hHeld.2.2.1))).trans (hHeld.2.2.1)
       have HS3_ := (hb.cell (World.block_lt_of_cell? _ _ (hHeld.2.2.2))).trans (hHeld.2.2.2)
       have BK304 := Aside0.mk hbox
       have GW304 := gw_ HK hg
       have GE304 := gv_ HW0 HK hg
       have NB290_304 := nl_ BK290 hg
       have NB304_290 := ng_ BK290 hg
       have NB291_304 := nl_ BK291 hg
       have NB304_291 := ng_ BK291 hg
       have NB296_304 := nl_ BK296 hg
       have NB304_296 := ng_ BK296 hg
       have NB0_304 := Aside0.mk ((by rw [hg]; exact Nat.ne_of_lt (IsS112.lt (show IsS112 w0 _ g s0_0 x1001_9 x1002_9 from is112_)) : g ≠ gb304))
       have NB304_0 := Aside0.mk ((by rw [hg]; exact Nat.ne_of_gt (IsS112.lt (show IsS112 w0 _ g s0_0 x1001_9 x1002_9 from is112_)) : gb304 ≠ g))
       replace HO_292000 := rb_ HO_292000 hb
       replace HB := bs112_ hb
       replace HK := kt_ HK (KeepBut.of_below hb g none)
       replace BK290 := ab_ BK290 hb
       replace BK291 := ab_ BK291 hb
       replace BK296 := ab_ BK296 hb
       replace HI0 := Aside0.mk (IsS112.below is112_ hb)
       clear hb hbox hg
       refine hK.out _ _ ⟨bq5_ BK291 0, HS1_, HS2_, HS3_⟩ (fun hHeld => ?_)
       clear hK K
       refine nz_ 8 ?_
       refine on_ 6 (some 37) ba13_13 HT_ (fun K hK => ?_)
       refine gz_ Try.func44 #[.pointer (some ⟨g, 0, none⟩), .int .i64 (x292000_1.length : Int)] ?_
       with_reducible refine (spec_l01Below.calls g s0_0 x1001_9 x1002_9 (x292000_1.length : Int) t300 t301 t302 w0 _ ?side1 ?side2 A31.out).mono ?_
       (case side1 => exact is112_)
       (case side2 => exact bw112_)
       rintro e w43 ⟨rfl, hi, hb, hk⟩
       have HS1_ := keep_cell hk (hHeld.2.1) (by first | (rw [add_block]; exact Kd.own_blk (IsS112.own_ne HI0.out HO_292000.out (by decide))) | (show (Addr.add _ _).block ≠ _; rw [add_block]; exact Kd.own_blk (IsS112.own_ne HI0.out HO_292000.out (by decide))) | exact Kd.own_blk (IsS112.own_ne HI0.out HO_292000.out (by decide)))
       have HS2_ := keep_cell hk (hHeld.2.2.1) (by first | (rw [add_block]; exact Kd.own_blk (IsS112.own_ne HI0.out HO_292000.out (by decide))) | (show (Addr.add _ _).block ≠ _; rw [add_block]; exact Kd.own_blk (IsS112.own_ne HI0.out HO_292000.out (by decide))) | exact Kd.own_blk (IsS112.own_ne HI0.out HO_292000.out (by decide)))
       have HS3_ := keep_cell hk (hHeld.2.2.2) (by first | (rw [add_block]; exact Kd.own_blk (IsS112.own_ne HI0.out HO_292000.out (by decide))) | (show (Addr.add _ _).block ≠ _; rw [add_block]; exact Kd.own_blk (IsS112.own_ne HI0.out HO_292000.out (by decide))) | exact Kd.own_blk (IsS112.own_ne HI0.out HO_292000.out (by decide)))
       refine ⟨_, rfl, ?_⟩
       replace HO_292000 := ak112_ HO_292000 (show IsS112 w0 _ g s0_0 x1001_9 x1002_9 from is112_) hk
       replace BK290 := kb_ BK290 NB290_0 hk
       replace BK291 := kb_ BK291 NB291_0 hk
       replace BK296 := kb_ BK296 NB296_0 hk
       replace BK304 := kb_ BK304 NB304_0 hk
       replace HK := kt_ HK hk
       replace HB := Aside0.mk (hb)
       replace HI0 := Aside0.mk (hi)
       clear hb hk hi
       refine hK.out _ _ ⟨bq5_ BK291 0, HS1_, HS2_, HS3_⟩ (fun hHeld => ?_)
       clear hK K
       refine nz_ 37 ?_
       refine pz_ 7 38 ba13_14 HT_ ?_
       refine pz_ 8 39 ba13_15 HT_ ?_
       refine pt_ 9 40 ba13_7 HT_ HW_ hHeld ?_
       exact norm_ (by simp only [putAll, Act.put, List.setIfInBounds_toArray, List.set_cons_zero, List.set_cons_succ]) (hCont (gb304) _ ⟨hHeld, (hd_ HO_292000), (bx_ BK290), (bx_ BK291), (bx_ BK296), (bx_ BK304), GW304.out, GE304.out, NB0_304.out, NB304_0.out, NB290_304.out, NB304_290.out, NB291_304.out, NB304_291.out, NB296_304.out, NB304_296.out, (is112_), (kx_ HK), (bw112_)⟩)
     rintro gb304 w44 ⟨hS_, h0_, h1_, h2_, h3_, h4_, h5_, h6_, h7_, h8_, h9_, h10_, h11_, h12_, h13_, h14_, h15_, h16_, h17_⟩
     have BK304 : Aside0 (w44.heap[gb304]? = some (.cells #[.int .i64 0, .int .i64 0] 28 (0, 0))) := ⟨h4_⟩
     have GW304 : Aside0 (w.heap.size ≤ gb304) := ⟨h5_⟩
     have GE304 : Aside0 (w0.heap.size ≤ gb304) := ⟨h6_⟩
     have NB0_304 : Aside0 (g ≠ gb304) := ⟨h7_⟩
     have NB304_0 : Aside0 (gb304 ≠ g) := ⟨h8_⟩
     have NB290_304 : Aside0 (gb290 ≠ gb304) := ⟨h9_⟩
     have NB304_290 : Aside0 (gb304 ≠ gb290) := ⟨h10_⟩
     have NB291_304 : Aside0 (gb291 ≠ gb304) := ⟨h11_⟩
     have NB304_291 : Aside0 (gb304 ≠ gb291) := ⟨h12_⟩
     have NB296_304 : Aside0 (gb296 ≠ gb304) := ⟨h13_⟩
     have NB304_296 : Aside0 (gb304 ≠ gb296) := ⟨h14_⟩
     replace HO_292000 : Aside0 (Kd.R k30 30 w44 w.heap.size (fun _ => True) (.slice (some ad303) x292000_1.length co41) x292000_1) := ⟨h0_⟩
     replace BK290 : Aside0 (w44.heap[gb290]? = some (.cells #[.slice none 0 0] 26 (0, 0))) := ⟨h1_⟩
     replace BK291 : Aside0 (w44.heap[gb291]? = some (.cells #[.slice (some ad303) x292000_1.length co41] 26 (0, 0))) := ⟨h2_⟩
     replace BK296 : Aside0 (w44.heap[gb296]? = some (.cells #[.int .i64 t292, .int .i64 t293] 28 (0, 0))) := ⟨h3_⟩
     replace HI0 : Aside0 (IsS112 w0 w44 g s0_0 t301 t302) := ⟨h15_⟩
     replace HK : Aside0 (KeepBut w w44 g none) := ⟨h16_⟩
     replace HB : Aside0 (Below w0.heap.size w0 w44) := ⟨h17_⟩
     clear h0_ h1_ h2_ h3_ h4_ h5_ h6_ h7_ h8_ h9_ h10_ h11_ h12_ h13_ h14_ h15_ h16_ h17_
     have hHeld : w44.cell? ⟨gb291, 0, none⟩ = some (.slice (some ad303) x292000_1.length co41) ∧ w44.cell? (ad303.add ((t300).toNat * 3)) = some (.int .i64 ((rd_T30 x292000_1 t300).f0.f0)) ∧ w44.cell? ⟨(ad303.add ((t300).toNat * 3)).block, (ad303.add ((t300).toNat * 3)).off + 1, none⟩ = some (.int .i64 ((rd_T30 x292000_1 t300).f0.f1)) ∧ w44.cell? ⟨(ad303.add ((t300).toNat * 3)).block, (ad303.add ((t300).toNat * 3)).off + 2, none⟩ = some (.int .i64 ((rd_T30 x292000_1 t300).f1)) := hS_
     refine norm_ (a' := ?_) ?_ ?_
     rotate_left; · simp only [putAll, Act.put, List.setIfInBounds_toArray, List.set_cons_zero, List.set_cons_succ]; rfl
     refine on_ 11 none ba13_16 HT_ (fun K hK => ?_)
     have hs45 : w44.cell? ⟨gb304, 0, none⟩ = some (.int .i64 0) := bq5_ BK304 0
     have hfs45 := fz_ BK304 0
     have hns45_0 := NB290_304.out
     have hns45_1 := NB291_304.out
     have hns45_2 := NB296_304.out
     have hms45_0 := NB304_290.out
     have hms45_1 := NB304_291.out
     have hms45_2 := NB304_296.out
     have hs46 : w44.cell? ⟨gb304, 1, none⟩ = some (.int .i64 0) := bq5_ BK304 1
     have hfs46 := fz_ BK304 1
     have hns46_0 := NB290_304.out
     have hns46_1 := NB291_304.out
     have hns46_2 := NB296_304.out
     have hms46_0 := NB304_290.out
     have hms46_1 := NB304_291.out
     have hms46_2 := NB304_296.out
     have H := Hh_.out
     clear Hh_
     by_cases c35 : t309 = true
     rotate_left
     ·replace c35 := Bool.eq_false_iff.mpr c35
      subst c35
      rw [if_neg (show ¬ (false = true) by decide)] at H
      obtain ⟨⟨t331, t332, t333⟩, A147, H⟩ := ob_ H
      obtain ⟨⟨t334, t337⟩, A148, H⟩ := ob_ H
      have H' := Aside0.mk H
      clear H
      refine skip_ (w1 := ?_) (by rfl) rfl ?_ ?_
      rotate_left; · go_simp; rfl
      refine hK.out _ _ ⟨((cell_far (p := ⟨gb304, _, none⟩) NB291_304.out _).trans (((cell_far (p := ⟨gb304, _, none⟩) NB291_304.out _).trans (hHeld.1)))), ((cell_far (p := ⟨gb304, _, none⟩) (by first | exact Kd.own_blk (Kd.R_ne HO_292000.out BK304.out (by decide)) | (rw [add_block]; exact Kd.own_blk (Kd.R_ne HO_292000.out BK304.out (by decide))) | (show (Addr.add _ _).block ≠ _; rw [add_block]; exact Kd.own_blk (Kd.R_ne HO_292000.out BK304.out (by decide))) | (dsimp only; exact Kd.own_blk (Kd.R_ne HO_292000.out BK304.out (by decide)))) _).trans (((cell_far (p := ⟨gb304, _, none⟩) (by first | exact Kd.own_blk (Kd.R_ne HO_292000.out BK304.out (by decide)) | (rw [add_block]; exact Kd.own_blk (Kd.R_ne HO_292000.out BK304.out (by decide))) | (show (Addr.add _ _).block ≠ _; rw [add_block]; exact Kd.own_blk (Kd.R_ne HO_292000.out BK304.out (by decide))) | (dsimp only; exact Kd.own_blk (Kd.R_ne HO_292000.out BK304.out (by decide)))) _).trans (hHeld.2.1)))), ((cell_far (p := ⟨gb304, _, none⟩) (by first | exact Kd.own_blk (Kd.R_ne HO_292000.out BK304.out (by decide)) | (rw [add_block]; exact Kd.own_blk (Kd.R_ne HO_292000.out BK304.out (by decide))) | (show (Addr.add _ _).block ≠ _; rw [add_block]; exact Kd.own_blk (Kd.R_ne HO_292000.out BK304.out (by decide))) | (dsimp only; exact Kd.own_blk (Kd.R_ne HO_292000.out BK304.out (by decide)))) _).trans (((cell_far (p := ⟨gb304, _, none⟩) (by first | exact Kd.own_blk (Kd.R_ne HO_292000.out BK304.out (by decide)) | (rw [add_block]; exact Kd.own_blk (Kd.R_ne HO_292000.out BK304.out (by decide))) | (show (Addr.add _ _).block ≠ _; rw [add_block]; exact Kd.own_blk (Kd.R_ne HO_292000.out BK304.out (by decide))) | (dsimp only; exact Kd.own_blk (Kd.R_ne HO_292000.out BK304.out (by decide)))) _).trans (hHeld.2.2.1)))), ((cell_far (p := ⟨gb304, _, none⟩) (by first | exact Kd.own_blk (Kd.R_ne HO_292000.out BK304.out (by decide)) | (rw [add_block]; exact Kd.own_blk (Kd.R_ne HO_292000.out BK304.out (by decide))) | (show (Addr.add _ _).block ≠ _; rw [add_block]; exact Kd.own_blk (Kd.R_ne HO_292000.out BK304.out (by decide))) | (dsimp only; exact Kd.own_blk (Kd.R_ne HO_292000.out BK304.out (by decide)))) _).trans (((cell_far (p := ⟨gb304, _, none⟩) (by first | exact Kd.own_blk (Kd.R_ne HO_292000.out BK304.out (by decide)) | (rw [add_block]; exact Kd.own_blk (Kd.R_ne HO_292000.out BK304.out (by decide))) | (show (Addr.add _ _).block ≠ _; rw [add_block]; exact Kd.own_blk (Kd.R_ne HO_292000.out BK304.out (by decide))) | (dsimp only; exact Kd.own_blk (Kd.R_ne HO_292000.out BK304.out (by decide)))) _).trans (hHeld.2.2.2))))⟩ (fun hHeld => ?_)
      clear hK K
      refine done_ (done_of HT_.out (by kernel_rfl)) ?_
      have hnb156 := NB304_290.out
      have hnc156 := NB290_304.out
      have hnb157 := NB304_291.out
      have hnc157 := NB291_304.out
      have hnb158 := NB304_296.out
      have hnc158 := NB296_304.out
      have hnb159 := NB304_0.out
      have hnc159 := NB0_304.out
      have hcz160_0 := cz_ BK304 0 (.int .i64 0)
      have hcz160_1 := cz_ BK304 1 (.int .i64 0)
      have hfz160_0 := fz_ BK304 0
      have hfz160_1 := fz_ BK304 1
      try go_wp2_with (first | ((with_reducible refine gate_callee (f := 95) rfl ?_); refine gl_ (some 43) Try.func95 #[.agg #[.int .i64 ((rd_T30 x292000_1 t300).f0.f0), .int .i64 ((rd_T30 x292000_1 t300).f0.f1)]] ?_; (with_reducible refine (spec_Halves.calls ((rd_T30 x292000_1 t300).f0.f0) ((rd_T30 x292000_1 t300).f0.f1) t305 t306 t307 t308 false _ A34.out).mono ?_); rintro e w161 ⟨rfl, hb⟩; refine ⟨_, rfl, ?_⟩; replace HO_292000 := rs_ HO_292000 BK304 hb; replace BK290 := bf_ BK290 NB290_304 hb; replace BK291 := bf_ BK291 NB291_304 hb; replace BK296 := bf_ BK296 NB296_304 hb; replace BK304 := Aside0.mk (blk_below (g := gb304) (o := .cells #[.int .i64 ((rd_T30 x292000_1 t300).f0.f0), .int .i64 ((rd_T30 x292000_1 t300).f0.f1)] 28 (0, 0)) (by refine bd_ ?_; refine blk_put (cs := #[.int .i64 ((rd_T30 x292000_1 t300).f0.f0), .int .i64 0]) ?_ 1 _ rfl; refine bd_ ?_; refine blk_put (cs := #[.int .i64 0, .int .i64 0]) ?_ 0 _ rfl; refine bd_ ?_; exact BK304.out) hb); replace HK := kt_ HK (KeepBut.of_below hb g none); replace HB := bs112_ hb; replace HI0 := Aside0.mk (IsS112.below (show IsS112 w0 ((w44.setCell ⟨gb304, 0, none⟩ (.int .i64 ((rd_T30 x292000_1 t300).f0.f0))).setCell ⟨gb304, 1, none⟩ (.int .i64 ((rd_T30 x292000_1 t300).f0.f1))) g s0_0 t301 t302 from is112_) hb); clear hb) | ((with_reducible refine gate_dst (N := 9) rfl ?_); refine be_ 9 #[.int .i64 0, .int .i64 0] 28 ?_; intro gb310 hg w162 BK310 hb; have GW310 := gw_ HK hg; have GE310 := gv_ HW0 HK hg; have NB290_310 := nl_ BK290 hg; have NB310_290 := ng_ BK290 hg; have NB291_310 := nl_ BK291 hg; have NB310_291 := ng_ BK291 hg; have NB296_310 := nl_ BK296 hg; have NB310_296 := ng_ BK296 hg; have NB304_310 := nl_ BK304 hg; have NB310_304 := ng_ BK304 hg; have NB0_310 := Aside0.mk ((by rw [hg]; exact Nat.ne_of_lt (IsS112.lt (show IsS112 w0 _ g s0_0 t301 t302 from is112_)) : g ≠ gb310)); have NB310_0 := Aside0.mk ((by rw [hg]; exact Nat.ne_of_gt (IsS112.lt (show IsS112 w0 _ g s0_0 t301 t302 from is112_)) : gb310 ≠ g)); replace HO_292000 := rb_ HO_292000 hb; replace HB := bs112_ hb; replace HK := kt_ HK (KeepBut.of_below hb g none); replace BK290 := ab_ BK290 hb; replace BK291 := ab_ BK291 hb; replace BK296 := ab_ BK296 hb; replace BK304 := ab_ BK304 hb; replace HI0 := Aside0.mk (IsS112.below is112_ hb); clear hb hg) | ((with_reducible refine gate_dst (N := 10) rfl ?_); refine be_ 10 #[.int .i64 0, .int .i64 0] 28 ?_; intro gb311 hg w163 BK311 hb; have GW311 := gw_ HK hg; have GE311 := gv_ HW0 HK hg; have NB290_311 := nl_ BK290 hg; have NB311_290 := ng_ BK290 hg; have NB291_311 := nl_ BK291 hg; have NB311_291 := ng_ BK291 hg; have NB296_311 := nl_ BK296 hg; have NB311_296 := ng_ BK296 hg; have NB304_311 := nl_ BK304 hg; have NB311_304 := ng_ BK304 hg; have NB310_311 := nl_ BK310 hg; have NB311_310 := ng_ BK310 hg; have NB0_311 := Aside0.mk ((by rw [hg]; exact Nat.ne_of_lt (IsS112.lt (show IsS112 w0 _ g s0_0 t301 t302 from is112_)) : g ≠ gb311)); have NB311_0 := Aside0.mk ((by rw [hg]; exact Nat.ne_of_gt (IsS112.lt (show IsS112 w0 _ g s0_0 t301 t302 from is112_)) : gb311 ≠ g)); replace HO_292000 := rb_ HO_292000 hb; replace HB := bs112_ hb; replace HK := kt_ HK (KeepBut.of_below hb g none); replace BK290 := ab_ BK290 hb; replace BK291 := ab_ BK291 hb; replace BK296 := ab_ BK296 hb; replace BK304 := ab_ BK304 hb; replace BK310 := ab_ BK310 hb; replace HI0 := Aside0.mk (IsS112.below is112_ hb); clear hb hg; have hnb164 := NB310_290.out; have hnc164 := NB290_310.out; have hnb165 := NB310_291.out; have hnc165 := NB291_310.out; have hnb166 := NB310_296.out; have hnc166 := NB296_310.out; have hnb167 := NB310_304.out; have hnc167 := NB304_310.out; have hnb168 := NB310_311.out; have hnc168 := NB311_310.out; have hnb169 := NB310_0.out; have hnc169 := NB0_310.out; have hcz170_0 := cz_ BK310 0 (.int .i64 0); have hcz170_1 := cz_ BK310 1 (.int .i64 0); have hfz170_0 := fz_ BK310 0; have hfz170_1 := fz_ BK310 1; have hnb171 := NB311_290.out; have hnc171 := NB290_311.out; have hnb172 := NB311_291.out; have hnc172 := NB291_311.out; have hnb173 := NB311_296.out; have hnc173 := NB296_311.out; have hnb174 := NB311_304.out; have hnc174 := NB304_311.out; have hnb175 := NB311_0.out; have hnc175 := NB0_311.out; have hcz176_0 := cz_ BK311 0 (.int .i64 0); have hcz176_1 := cz_ BK311 1 (.int .i64 0); have hfz176_0 := fz_ BK311 0; have hfz176_1 := fz_ BK311 1))
      generalize hW_ : ((((w163.setCell ⟨gb310, 0, none⟩ (.int .i64 t305)).setCell ⟨gb310, 1, none⟩ (.int .i64 t306)).setCell ⟨gb311, 0, none⟩ (.int .i64 t307)).setCell ⟨gb311, 1, none⟩ (.int .i64 t308)) = w177
      have n0_ : Aside0 (Kd.R k30 30 w177 w.heap.size (fun _ => True) (.slice (some ad303) x292000_1.length co41) x292000_1) := by subst hW_; exact ⟨by (with_reducible repeat (first | apply Kd.R_alloc | apply Kd.R_drewN | apply Kd.R_drew)); exact Kd.R_mono (Kd.R_far (Kd.R_far (Kd.R_far (Kd.R_far (Kd.R_types (Kd.R_types HO_292000.out BK310.out (by decide)) BK311.out (by decide)) (fun _ hk => hk.1.2) _) (fun _ hk => hk.1.2) _) (fun _ hk => hk.2) _) (fun _ hk => hk.2) _) (fun _ hk => trivial)⟩
      have n1_ : Aside0 (w177.heap[gb290]? = some (.cells #[.slice none 0 0] 26 (0, 0))) := by subst hW_; exact ⟨bc_ BK290⟩
      have n2_ : Aside0 (w177.heap[gb291]? = some (.cells #[.slice (some ad303) x292000_1.length co41] 26 (0, 0))) := by subst hW_; exact ⟨bc_ BK291⟩
      have n3_ : Aside0 (w177.heap[gb296]? = some (.cells #[.int .i64 t292, .int .i64 t293] 28 (0, 0))) := by subst hW_; exact ⟨bc_ BK296⟩
      have n4_ : Aside0 (w177.heap[gb304]? = some (.cells #[.int .i64 ((rd_T30 x292000_1 t300).f0.f0), .int .i64 ((rd_T30 x292000_1 t300).f0.f1)] 28 (0, 0))) := by subst hW_; exact ⟨bc_ BK304⟩
      have n5_ : Aside0 (w177.heap[gb310]? = some (.cells #[.int .i64 t305, .int .i64 t306] 28 (0, 0))) := by subst hW_; exact ⟨by refine bd_ ?_; refine blk_far ?_ NB310_311.out _; refine bd_ ?_; refine blk_far ?_ NB310_311.out _; refine bd_ ?_; refine blk_put (cs := #[.int .i64 t305, .int .i64 0]) ?_ 1 _ rfl; refine bd_ ?_; refine blk_put (cs := #[.int .i64 0, .int .i64 0]) ?_ 0 _ rfl; refine bd_ ?_; exact BK310.out⟩
      have n6_ : Aside0 (w177.heap[gb311]? = some (.cells #[.int .i64 t307, .int .i64 t308] 28 (0, 0))) := by subst hW_; exact ⟨by refine bd_ ?_; refine blk_put (cs := #[.int .i64 t307, .int .i64 0]) ?_ 1 _ rfl; refine bd_ ?_; refine blk_put (cs := #[.int .i64 0, .int .i64 0]) ?_ 0 _ rfl; refine bd_ ?_; refine blk_far ?_ NB311_310.out _; refine bd_ ?_; refine blk_far ?_ NB311_310.out _; refine bd_ ?_; exact BK311.out⟩
      have n7_ : Aside0 (IsS112 w0 w177 g s0_0 t301 t302) := by subst hW_; exact ⟨is112_⟩
      have n8_ : Aside0 (KeepBut w w177 g none) := by subst hW_; exact ⟨kx_ HK⟩
      have n9_ : Aside0 (Below w0.heap.size w0 w177) := by subst hW_; exact ⟨bw112_⟩
      clear hW_ HO_292000 BK290 BK291 BK296 BK304 BK310 BK311 HI0 HK HB
      have HO_292000 := n0_
      have BK290 := n1_
      have BK291 := n2_
      have BK296 := n3_
      have BK304 := n4_
      have BK310 := n5_
      have BK311 := n6_
      have HI0 := n7_
      have HK := n8_
      have HB := n9_
      clear n0_ n1_ n2_ n3_ n4_ n5_ n6_ n7_ n8_ n9_
      replace HO_292000 := Aside0.mk (Kd.R_drew HO_292000.out)
      replace BK290 := ad_ BK290
      replace BK291 := ad_ BK291
      replace BK296 := ad_ BK296
      replace BK304 := ad_ BK304
      replace BK310 := ad_ BK310
      replace BK311 := ad_ BK311
      replace HI0 := Aside0.mk (IsS112.drew HI0.out)
      replace HK := Aside0.mk (keep_drew HK.out)
      replace HB := Aside0.mk (below_drew1 HB.out)
      refine start_ (n := 12) (S := fun w' => w'.cell? ⟨gb291, 0, none⟩ = some (.slice (some ad303) x292000_1.length co41) ∧ w'.cell? ⟨gb296, 0, none⟩ = some (.int .i64 t292) ∧ w'.cell? ⟨gb296, 1, none⟩ = some (.int .i64 t293)) (ds := []) ba13_0 (by kernel_rfl) rfl rfl ⟨bq5_ BK291 0, bq5_ BK296 0, bq5_ BK296 1⟩ (fun hHeld => ?_); refine with_tabW spec_l02DrawTable.tab13 spec_l02DrawTable.bits13 (fun HT_ HW_ => ?_)
      generalize w177.drew = w178 at HO_292000 BK290 BK291 BK296 BK304 BK310 BK311 HI0 HK HB hHeld ⊢
      refine pz_ 2 55 ba13_17 HT_ ?_
      refine pt_ 0 53 ba13_2 HT_ HW_ hHeld ?_
      refine pt_ 1 54 ba13_18 HT_ HW_ hHeld ?_
      refine join_ (σ := Value × Nat) 2 ba13_12 (fun s_ => [(56, .int .i64 t331), (58, .tuple #[.agg #[s_.1], .bool t337]), (12, .pointer (some ⟨s_.2, 0, none⟩)), (57, .agg #[.int .i64 t292, .int .i64 t293, .int .i64 t331]), (52, .tuple #[.agg #[s_.1], .bool t337]), (59, .agg #[s_.1]), (60, .bool t337)]) (fun s_ w' => (w'.cell? ⟨gb291, 0, none⟩ = some (.slice (some ad303) x292000_1.length co41) ∧ w'.cell? ⟨gb296, 0, none⟩ = some (.int .i64 t292) ∧ w'.cell? ⟨gb296, 1, none⟩ = some (.int .i64 t293)) ∧ (Kd.R k30 30 w' w.heap.size (fun k_ => some k_ ≠ (.slice (some ad303) x292000_1.length co41 : Value).ownBlock) s_.1 t334) ∧ (Kd.R k30 30 w' w.heap.size (fun k_ => some k_ ≠ (s_.1 : Value).ownBlock) (.slice (some ad303) x292000_1.length co41) x292000_1) ∧ (w'.heap[gb290]? = some (.cells #[.slice none 0 0] 26 (0, 0))) ∧ (w'.heap[gb291]? = some (.cells #[.slice (some ad303) x292000_1.length co41] 26 (0, 0))) ∧ (w'.heap[gb296]? = some (.cells #[.int .i64 t292, .int .i64 t293] 28 (0, 0))) ∧ (w'.heap[gb304]? = some (.cells #[.int .i64 ((rd_T30 x292000_1 t300).f0.f0), .int .i64 ((rd_T30 x292000_1 t300).f0.f1)] 28 (0, 0))) ∧ (w'.heap[gb310]? = some (.cells #[.int .i64 t305, .int .i64 t306] 28 (0, 0))) ∧ (w'.heap[gb311]? = some (.cells #[.int .i64 t307, .int .i64 t308] 28 (0, 0))) ∧ (w'.heap[s_.2]? = some (.cells #[.slice none 0 0] 26 (0, 0))) ∧ (w.heap.size ≤ s_.2) ∧ (w0.heap.size ≤ s_.2) ∧ (g ≠ s_.2) ∧ (s_.2 ≠ g) ∧ (gb290 ≠ s_.2) ∧ (s_.2 ≠ gb290) ∧ (gb291 ≠ s_.2) ∧ (s_.2 ≠ gb291) ∧ (gb296 ≠ s_.2) ∧ (s_.2 ≠ gb296) ∧ (gb304 ≠ s_.2) ∧ (s_.2 ≠ gb304) ∧ (gb310 ≠ s_.2) ∧ (s_.2 ≠ gb310) ∧ (gb311 ≠ s_.2) ∧ (s_.2 ≠ gb311) ∧ (IsS112 w0 w' g s0_0 t332 t333) ∧ (KeepBut w w' g none) ∧ (Below w0.heap.size w0 w')) ?_ ?_
      rotate_left
      ·intro hCont
       refine two_ (i := 3) (j := 9) (Ni := some 56) (Nj := some 12) ba13_4 ba13_19 rfl rfl rfl rfl (two_of HT_.out (by kernel_rfl)) (by decide) (by decide) (fun K hK => ?_) (fun K hK => ?_)
       ·skip
        refine gz_ Try.func44 #[.pointer (some ⟨g, 0, none⟩), .int .i64 4] ?_
        with_reducible refine (spec_l01Below.calls g s0_0 t301 t302 4 t331 t332 t333 w0 _ ?side1 ?side2 A147.out).mono ?_
        (case side1 => exact is112_)
        (case side2 => exact bw112_)
        rintro e w179 ⟨rfl, hi, hb, hk⟩
        refine ⟨_, rfl, ?_⟩
        replace HO_292000 := ak112_ HO_292000 (show IsS112 w0 _ g s0_0 t301 t302 from is112_) hk
        replace BK290 := kb_ BK290 NB290_0 hk
        replace BK291 := kb_ BK291 NB291_0 hk
        replace BK296 := kb_ BK296 NB296_0 hk
        replace BK304 := kb_ BK304 NB304_0 hk
        replace BK310 := kb_ BK310 NB310_0 hk
        replace BK311 := kb_ BK311 NB311_0 hk
        replace HK := kt_ HK hk
        replace HB := Aside0.mk (hb)
        replace HI0 := Aside0.mk (hi)
        clear hb hk hi
        refine hK.out _ _ ⟨bq5_ BK291 0, bq5_ BK296 0, bq5_ BK296 1⟩ (fun hHeld => ?_)
        clear hK K
        refine nz_ 56 ?_
        refine pz_ 4 57 ba13_5 HT_ ?_
        refine two_ (i := 5) (j := 9) (Ni := some 58) (Nj := some 12) ba13_6 ba13_20 rfl rfl rfl rfl (two_of HT_.out (by kernel_rfl)) (by decide) (by decide) (fun K hK => ?_) (fun K hK => ?_)
        ·skip
         refine gz_ Try.func10 #[.agg #[.slice (some ad303) x292000_1.length co41], .agg #[.int .i64 t292, .int .i64 t293, .int .i64 t331]] ?_
         with_reducible refine (spec_PutRoute.calls kj9 _ _ x292000_1 t292 t293 t331 t334 t337 _ ?side1 ?side2 A148.out).mono ?_
         (case side1 => exact rc_ HO_292000)
         (case side2 => exact (Kd.R_reads' HO_292000.out).2.1)
         rintro e w180 ⟨v335, rfl, ho0, hb⟩
         refine ⟨_, rfl, ?_⟩
         have HO336 := Aside0.mk (Kd.R_lower (Kd.R_new' ho0 (Kd.R_lt (hd_ HO_292000))) (keep_size (w := w) (g := g) (row := none) (kx_ HK)))
         replace HO_292000 := Aside0.mk (Kd.R_elder' (hd_ HO_292000) (Kd.R_base ho0) hb)
         replace BK290 := ab_ BK290 hb
         replace BK291 := ab_ BK291 hb
         replace BK296 := ab_ BK296 hb
         replace BK304 := ab_ BK304 hb
         replace BK310 := ab_ BK310 hb
         replace BK311 := ab_ BK311 hb
         replace HK := kt_ HK (KeepBut.of_below hb g none)
         replace HB := bs112_ hb
         replace HI0 := Aside0.mk (IsS112.below is112_ hb)
         clear hb ho0
         refine hK.out _ _ ⟨bq5_ BK291 0, bq5_ BK296 0, bq5_ BK296 1⟩ (fun hHeld => ?_)
         clear hK K
         refine nz_ 58 ?_
         refine pz_ 6 52 ba13_8 HT_ ?_
         refine pz_ 7 59 ba13_10 HT_ ?_
         refine pz_ 8 60 ba13_11 HT_ ?_
         refine on_ 9 (some 12) ba13_12 HT_ (fun K hK => ?_)
         refine box_step ?hg (N := 12) ?hd (cs := #[.slice none 0 0]) (t := 26) ?hr ?_; (case hd => rfl); (case hg => rfl); (case hr => first | (go_simp; done) | (go_simp; rfl))
         intro gb338 hg w181 hbox hb
         have BK338 := Aside0.mk hbox
         have GW338 := gw_ HK hg
         have GE338 := gv_ HW0 HK hg
         have NB290_338 := nl_ BK290 hg
         have NB338_290 := ng_ BK290 hg
         have NB291_338 := nl_ BK291 hg
         have NB338_291 := ng_ BK291 hg
         have NB296_338 := nl_ BK296 hg
         have NB338_296 := ng_ BK296 hg
         have NB304_338 := nl_ BK304 hg
         have NB338_304 := ng_ BK304 hg
         have NB310_338 := nl_ BK310 hg
         have NB338_310 := ng_ BK310 hg
         have NB311_338 := nl_ BK311 hg
         have NB338_311 := ng_ BK311 hg
         have NB0_338 := Aside0.mk ((by rw [hg]; exact Nat.ne_of_lt (IsS112.lt (show IsS112 w0 _ g s0_0 t332 t333 from is112_)) : g ≠ gb338))
         have NB338_0 := Aside0.mk ((by rw [hg]; exact Nat.ne_of_gt (IsS112.lt (show IsS112 w0 _ g s0_0 t332 t333 from is112_)) : gb338 ≠ g))
         replace HO_292000 := rb_ HO_292000 hb
         replace HO336 := rb_ HO336 hb
         replace HB := bs112_ hb
         replace HK := kt_ HK (KeepBut.of_below hb g none)
         replace BK290 := ab_ BK290 hb
         replace BK291 := ab_ BK291 hb
         replace BK296 := ab_ BK296 hb
         replace BK304 := ab_ BK304 hb
         replace BK310 := ab_ BK310 hb
         replace BK311 := ab_ BK311 hb
         replace HI0 := Aside0.mk (IsS112.below is112_ hb)
         clear hb hbox hg
         refine hK.out _ _ ⟨bq5_ BK291 0, bq5_ BK296 0, bq5_ BK296 1⟩ (fun hHeld => ?_)
         clear hK K
         refine nz_ 12 ?_
         exact norm_ (by simp only [putAll, Act.put, List.setIfInBounds_toArray, List.set_cons_zero, List.set_cons_succ]) (hCont (v335, gb338) _ ⟨hHeld, (by (with_reducible repeat (first | apply Kd.R_alloc | apply Kd.R_drewN | apply Kd.R_drew)); exact Kd.R_mono HO336.out (fun _ hk => hk.2)), (by (with_reducible repeat (first | apply Kd.R_alloc | apply Kd.R_drewN | apply Kd.R_drew)); exact Kd.R_mono HO_292000.out (fun _ hk => hk.2)), (bx_ BK290), (bx_ BK291), (bx_ BK296), (bx_ BK304), (bx_ BK310), (bx_ BK311), (bx_ BK338), GW338.out, GE338.out, NB0_338.out, NB338_0.out, NB290_338.out, NB338_290.out, NB291_338.out, NB338_291.out, NB296_338.out, NB338_296.out, NB304_338.out, NB338_304.out, NB310_338.out, NB338_310.out, NB311_338.out, NB338_311.out, (is112_), (kx_ HK), (bw112_)⟩)
        ·skip
         refine box_step ?hg (N := 12) ?hd (cs := #[.slice none 0 0]) (t := 26) ?hr ?_; (case hd => rfl); (case hg => rfl); (case hr => first | (go_simp; done) | (go_simp; rfl))
         intro gb338 hg w180 hbox hb
         have BK338 := Aside0.mk hbox
         have GW338 := gw_ HK hg
         have GE338 := gv_ HW0 HK hg
         have NB290_338 := nl_ BK290 hg
         have NB338_290 := ng_ BK290 hg
         have NB291_338 := nl_ BK291 hg
         have NB338_291 := ng_ BK291 hg
         have NB296_338 := nl_ BK296 hg
         have NB338_296 := ng_ BK296 hg
         have NB304_338 := nl_ BK304 hg
         have NB338_304 := ng_ BK304 hg
         have NB310_338 := nl_ BK310 hg
         have NB338_310 := ng_ BK310 hg
         have NB311_338 := nl_ BK311 hg
         have NB338_311 := ng_ BK311 hg
         have NB0_338 := Aside0.mk ((by rw [hg]; exact Nat.ne_of_lt (IsS112.lt (show IsS112 w0 _ g s0_0 t332 t333 from is112_)) : g ≠ gb338))
         have NB338_0 := Aside0.mk ((by rw [hg]; exact Nat.ne_of_gt (IsS112.lt (show IsS112 w0 _ g s0_0 t332 t333 from is112_)) : gb338 ≠ g))
         replace HO_292000 := rb_ HO_292000 hb
         replace HB := bs112_ hb
         replace HK := kt_ HK (KeepBut.of_below hb g none)
         replace BK290 := ab_ BK290 hb
         replace BK291 := ab_ BK291 hb
         replace BK296 := ab_ BK296 hb
         replace BK304 := ab_ BK304 hb
         replace BK310 := ab_ BK310 hb
         replace BK311 := ab_ BK311 hb
         replace HI0 := Aside0.mk (IsS112.below is112_ hb)
         clear hb hbox hg
         refine hK.out _ _ ⟨bq5_ BK291 0, bq5_ BK296 0, bq5_ BK296 1⟩ (fun hHeld => ?_)
         clear hK K
         refine nz_ 12 ?_
         refine on_ 5 (some 58) ba13_21 HT_ (fun K hK => ?_)
         refine gz_ Try.func10 #[.agg #[.slice (some ad303) x292000_1.length co41], .agg #[.int .i64 t292, .int .i64 t293, .int .i64 t331]] ?_
         with_reducible refine (spec_PutRoute.calls kj9 _ _ x292000_1 t292 t293 t331 t334 t337 _ ?side1 ?side2 A148.out).mono ?_
         (case side1 => exact rc_ HO_292000)
         (case side2 => exact (Kd.R_reads' HO_292000.out).2.1)
         rintro e w181 ⟨v335, rfl, ho0, hb⟩
         refine ⟨_, rfl, ?_⟩
         have HO336 := Aside0.mk (Kd.R_lower (Kd.R_new' ho0 (Kd.R_lt (hd_ HO_292000))) (keep_size (w := w) (g := g) (row := none) (kx_ HK)))
         replace HO_292000 := Aside0.mk (Kd.R_elder' (hd_ HO_292000) (Kd.R_base ho0) hb)
         replace BK290 := ab_ BK290 hb
         replace BK291 := ab_ BK291 hb
         replace BK296 := ab_ BK296 hb
         replace BK304 := ab_ BK304 hb
         replace BK310 := ab_ BK310 hb
         replace BK311 := ab_ BK311 hb
         replace BK338 := ab_ BK338 hb
         replace HK := kt_ HK (KeepBut.of_below hb g none)
         replace HB := bs112_ hb
         replace HI0 := Aside0.mk (IsS112.below is112_ hb)
         clear hb ho0
         refine hK.out _ _ ⟨bq5_ BK291 0, bq5_ BK296 0, bq5_ BK296 1⟩ (fun hHeld => ?_)
         clear hK K
         refine nz_ 58 ?_
         refine pz_ 6 52 ba13_22 HT_ ?_
         refine pz_ 7 59 ba13_23 HT_ ?_
         refine pz_ 8 60 ba13_12 HT_ ?_
         exact norm_ (by simp only [putAll, Act.put, List.setIfInBounds_toArray, List.set_cons_zero, List.set_cons_succ]) (hCont (v335, gb338) _ ⟨hHeld, (by (with_reducible repeat (first | apply Kd.R_alloc | apply Kd.R_drewN | apply Kd.R_drew)); exact Kd.R_mono HO336.out (fun _ hk => hk.2)), (by (with_reducible repeat (first | apply Kd.R_alloc | apply Kd.R_drewN | apply Kd.R_drew)); exact Kd.R_mono HO_292000.out (fun _ hk => hk.2)), (bx_ BK290), (bx_ BK291), (bx_ BK296), (bx_ BK304), (bx_ BK310), (bx_ BK311), (bx_ BK338), GW338.out, GE338.out, NB0_338.out, NB338_0.out, NB290_338.out, NB338_290.out, NB291_338.out, NB338_291.out, NB296_338.out, NB338_296.out, NB304_338.out, NB338_304.out, NB310_338.out, NB338_310.out, NB311_338.out, NB338_311.out, (is112_), (kx_ HK), (bw112_)⟩)
       ·skip
        refine box_step ?hg (N := 12) ?hd (cs := #[.slice none 0 0]) (t := 26) ?hr ?_; (case hd => rfl); (case hg => rfl); (case hr => first | (go_simp; done) | (go_simp; rfl))
        intro gb338 hg w179 hbox hb
        have BK338 := Aside0.mk hbox
        have GW338 := gw_ HK hg
        have GE338 := gv_ HW0 HK hg
        have NB290_338 := nl_ BK290 hg
        have NB338_290 := ng_ BK290 hg
        have NB291_338 := nl_ BK291 hg
        have NB338_291 := ng_ BK291 hg
        have NB296_338 := nl_ BK296 hg
        have NB338_296 := ng_ BK296 hg
        have NB304_338 := nl_ BK304 hg
        have NB338_304 := ng_ BK304 hg
        have NB310_338 := nl_ BK310 hg
        have NB338_310 := ng_ BK310 hg
        have NB311_338 := nl_ BK311 hg
        have NB338_311 := ng_ BK311 hg
        have NB0_338 := Aside0.mk ((by rw [hg]; exact Nat.ne_of_lt (IsS112.lt (show IsS112 w0 _ g s0_0 t301 t302 from is112_)) : g ≠ gb338))
        have NB338_0 := Aside0.mk ((by rw [hg]; exact Nat.ne_of_gt (IsS112.lt (show IsS112 w0 _ g s0_0 t301 t302 from is112_)) : gb338 ≠ g))
        replace HO_292000 := rb_ HO_292000 hb
        replace HB := bs112_ hb
        replace HK := kt_ HK (KeepBut.of_below hb g none)
        replace BK290 := ab_ BK290 hb
        replace BK291 := ab_ BK291 hb
        replace BK296 := ab_ BK296 hb
        replace BK304 := ab_ BK304 hb
        replace BK310 := ab_ BK310 hb
        replace BK311 := ab_ BK311 hb
        replace HI0 := Aside0.mk (IsS112.below is112_ hb)
        clear hb hbox hg
        refine hK.out _ _ ⟨bq5_ BK291 0, bq5_ BK296 0, bq5_ BK296 1⟩ (fun hHeld => ?_)
        clear hK K
        refine nz_ 12 ?_
        refine on_ 3 (some 56) ba13_24 HT_ (fun K hK => ?_)
        refine gz_ Try.func44 #[.pointer (some ⟨g, 0, none⟩), .int .i64 4] ?_
        with_reducible refine (spec_l01Below.calls g s0_0 t301 t302 4 t331 t332 t333 w0 _ ?side1 ?side2 A147.out).mono ?_
        (case side1 => exact is112_)
        (case side2 => exact bw112_)
        rintro e w180 ⟨rfl, hi, hb, hk⟩
        refine ⟨_, rfl, ?_⟩
        replace HO_292000 := ak112_ HO_292000 (show IsS112 w0 _ g s0_0 t301 t302 from is112_) hk
        replace BK290 := kb_ BK290 NB290_0 hk
        replace BK291 := kb_ BK291 NB291_0 hk
        replace BK296 := kb_ BK296 NB296_0 hk
        replace BK304 := kb_ BK304 NB304_0 hk
        replace BK310 := kb_ BK310 NB310_0 hk
        replace BK311 := kb_ BK311 NB311_0 hk
        replace BK338 := kb_ BK338 NB338_0 hk
        replace HK := kt_ HK hk
        replace HB := Aside0.mk (hb)
        replace HI0 := Aside0.mk (hi)
        clear hb hk hi
        refine hK.out _ _ ⟨bq5_ BK291 0, bq5_ BK296 0, bq5_ BK296 1⟩ (fun hHeld => ?_)
        clear hK K
        refine nz_ 56 ?_
        refine pz_ 4 57 ba13_20 HT_ ?_
        refine on_ 5 (some 58) ba13_21 HT_ (fun K hK => ?_)
        refine gz_ Try.func10 #[.agg #[.slice (some ad303) x292000_1.length co41], .agg #[.int .i64 t292, .int .i64 t293, .int .i64 t331]] ?_
        with_reducible refine (spec_PutRoute.calls kj9 _ _ x292000_1 t292 t293 t331 t334 t337 _ ?side1 ?side2 A148.out).mono ?_
        (case side1 => exact rc_ HO_292000)
        (case side2 => exact (Kd.R_reads' HO_292000.out).2.1)
        rintro e w181 ⟨v335, rfl, ho0, hb⟩
        refine ⟨_, rfl, ?_⟩
        have HO336 := Aside0.mk (Kd.R_lower (Kd.R_new' ho0 (Kd.R_lt (hd_ HO_292000))) (keep_size (w := w) (g := g) (row := none) (kx_ HK)))
        replace HO_292000 := Aside0.mk (Kd.R_elder' (hd_ HO_292000) (Kd.R_base ho0) hb)
        replace BK290 := ab_ BK290 hb
        replace BK291 := ab_ BK291 hb
        replace BK296 := ab_ BK296 hb
        replace BK304 := ab_ BK304 hb
        replace BK310 := ab_ BK310 hb
        replace BK311 := ab_ BK311 hb
        replace BK338 := ab_ BK338 hb
        replace HK := kt_ HK (KeepBut.of_below hb g none)
        replace HB := bs112_ hb
        replace HI0 := Aside0.mk (IsS112.below is112_ hb)
        clear hb ho0
        refine hK.out _ _ ⟨bq5_ BK291 0, bq5_ BK296 0, bq5_ BK296 1⟩ (fun hHeld => ?_)
        clear hK K
        refine nz_ 58 ?_
        refine pz_ 6 52 ba13_22 HT_ ?_
        refine pz_ 7 59 ba13_23 HT_ ?_
        refine pz_ 8 60 ba13_12 HT_ ?_
        exact norm_ (by simp only [putAll, Act.put, List.setIfInBounds_toArray, List.set_cons_zero, List.set_cons_succ]) (hCont (v335, gb338) _ ⟨hHeld, (by (with_reducible repeat (first | apply Kd.R_alloc | apply Kd.R_drewN | apply Kd.R_drew)); exact Kd.R_mono HO336.out (fun _ hk => hk.2)), (by (with_reducible repeat (first | apply Kd.R_alloc | apply Kd.R_drewN | apply Kd.R_drew)); exact Kd.R_mono HO_292000.out (fun _ hk => hk.2)), (bx_ BK290), (bx_ BK291), (bx_ BK296), (bx_ BK304), (bx_ BK310), (bx_ BK311), (bx_ BK338), GW338.out, GE338.out, NB0_338.out, NB338_0.out, NB290_338.out, NB338_290.out, NB291_338.out, NB338_291.out, NB296_338.out, NB338_296.out, NB304_338.out, NB338_304.out, NB310_338.out, NB338_310.out, NB311_338.out, NB338_311.out, (is112_), (kx_ HK), (bw112_)⟩)
      rintro ⟨v335, gb338⟩ w182 ⟨hS_, h0_, h1_, h2_, h3_, h4_, h5_, h6_, h7_, h8_, h9_, h10_, h11_, h12_, h13_, h14_, h15_, h16_, h17_, h18_, h19_, h20_, h21_, h22_, h23_, h24_, h25_, h26_, h27_⟩
      have HO336 : Aside0 (Kd.R k30 30 w182 w.heap.size (fun k_ => some k_ ≠ (.slice (some ad303) x292000_1.length co41 : Value).ownBlock) v335 t334) := ⟨h0_⟩
      have BK338 : Aside0 (w182.heap[gb338]? = some (.cells #[.slice none 0 0] 26 (0, 0))) := ⟨h8_⟩
      have GW338 : Aside0 (w.heap.size ≤ gb338) := ⟨h9_⟩
      have GE338 : Aside0 (w0.heap.size ≤ gb338) := ⟨h10_⟩
      have NB0_338 : Aside0 (g ≠ gb338) := ⟨h11_⟩
      have NB338_0 : Aside0 (gb338 ≠ g) := ⟨h12_⟩
      have NB290_338 : Aside0 (gb290 ≠ gb338) := ⟨h13_⟩
      have NB338_290 : Aside0 (gb338 ≠ gb290) := ⟨h14_⟩
      have NB291_338 : Aside0 (gb291 ≠ gb338) := ⟨h15_⟩
      have NB338_291 : Aside0 (gb338 ≠ gb291) := ⟨h16_⟩
      have NB296_338 : Aside0 (gb296 ≠ gb338) := ⟨h17_⟩
      have NB338_296 : Aside0 (gb338 ≠ gb296) := ⟨h18_⟩
      have NB304_338 : Aside0 (gb304 ≠ gb338) := ⟨h19_⟩
      have NB338_304 : Aside0 (gb338 ≠ gb304) := ⟨h20_⟩
      have NB310_338 : Aside0 (gb310 ≠ gb338) := ⟨h21_⟩
      have NB338_310 : Aside0 (gb338 ≠ gb310) := ⟨h22_⟩
      have NB311_338 : Aside0 (gb311 ≠ gb338) := ⟨h23_⟩
      have NB338_311 : Aside0 (gb338 ≠ gb311) := ⟨h24_⟩
      replace HO_292000 : Aside0 (Kd.R k30 30 w182 w.heap.size (fun k_ => some k_ ≠ (v335 : Value).ownBlock) (.slice (some ad303) x292000_1.length co41) x292000_1) := ⟨h1_⟩
      replace BK290 : Aside0 (w182.heap[gb290]? = some (.cells #[.slice none 0 0] 26 (0, 0))) := ⟨h2_⟩
      replace BK291 : Aside0 (w182.heap[gb291]? = some (.cells #[.slice (some ad303) x292000_1.length co41] 26 (0, 0))) := ⟨h3_⟩
      replace BK296 : Aside0 (w182.heap[gb296]? = some (.cells #[.int .i64 t292, .int .i64 t293] 28 (0, 0))) := ⟨h4_⟩
      replace BK304 : Aside0 (w182.heap[gb304]? = some (.cells #[.int .i64 ((rd_T30 x292000_1 t300).f0.f0), .int .i64 ((rd_T30 x292000_1 t300).f0.f1)] 28 (0, 0))) := ⟨h5_⟩
      replace BK310 : Aside0 (w182.heap[gb310]? = some (.cells #[.int .i64 t305, .int .i64 t306] 28 (0, 0))) := ⟨h6_⟩
      replace BK311 : Aside0 (w182.heap[gb311]? = some (.cells #[.int .i64 t307, .int .i64 t308] 28 (0, 0))) := ⟨h7_⟩
      replace HI0 : Aside0 (IsS112 w0 w182 g s0_0 t332 t333) := ⟨h25_⟩
      replace HK : Aside0 (KeepBut w w182 g none) := ⟨h26_⟩
      replace HB : Aside0 (Below w0.heap.size w0 w182) := ⟨h27_⟩
      clear h0_ h1_ h2_ h3_ h4_ h5_ h6_ h7_ h8_ h9_ h10_ h11_ h12_ h13_ h14_ h15_ h16_ h17_ h18_ h19_ h20_ h21_ h22_ h23_ h24_ h25_ h26_ h27_
      have hHeld : w182.cell? ⟨gb291, 0, none⟩ = some (.slice (some ad303) x292000_1.length co41) ∧ w182.cell? ⟨gb296, 0, none⟩ = some (.int .i64 t292) ∧ w182.cell? ⟨gb296, 1, none⟩ = some (.int .i64 t293) := hS_
      obtain ⟨Ao183, co183, eo183⟩ := Kd.R_slice HO336.out
      subst eo183
      refine norm_ (a' := ?_) ?_ ?_
      rotate_left; · simp only [putAll, Act.put, List.setIfInBounds_toArray, List.set_cons_zero, List.set_cons_succ]; rfl
      refine on_ 10 none ba13_7 HT_ (fun K hK => ?_)
      have hs184 : w182.cell? ⟨gb338, 0, none⟩ = some (.slice none 0 0) := bq5_ BK338 0
      have hfs184 := fz_ BK338 0
      have hns184_0 := NB290_338.out
      have hns184_1 := NB291_338.out
      have hns184_2 := NB296_338.out
      have hns184_3 := NB304_338.out
      have hns184_4 := NB310_338.out
      have hns184_5 := NB311_338.out
      have hms184_0 := NB338_290.out
      have hms184_1 := NB338_291.out
      have hms184_2 := NB338_296.out
      have hms184_3 := NB338_304.out
      have hms184_4 := NB338_310.out
      have hms184_5 := NB338_311.out
      refine skip_ (w1 := ?_) (by rfl) rfl ?_ ?_
      rotate_left; · go_simp; rfl
      refine hK.out _ _ ⟨((cell_far (p := ⟨gb338, _, none⟩) NB291_338.out _).trans (hHeld.1)), ((cell_far (p := ⟨gb338, _, none⟩) NB296_338.out _).trans (hHeld.2.1)), ((cell_far (p := ⟨gb338, _, none⟩) NB296_338.out _).trans (hHeld.2.2))⟩ (fun hHeld => ?_)
      clear hK K
      refine pz_ 11 13 ba13_16 HT_ ?_
      refine done_ (done_of HT_.out (by kernel_rfl)) ?_
      have hnb185 := NB338_290.out
      have hnc185 := NB290_338.out
      have hnb186 := NB338_291.out
      have hnc186 := NB291_338.out
      have hnb187 := NB338_296.out
      have hnc187 := NB296_338.out
      have hnb188 := NB338_304.out
      have hnc188 := NB304_338.out
      have hnb189 := NB338_310.out
      have hnc189 := NB310_338.out
      have hnb190 := NB338_311.out
      have hnc190 := NB311_338.out
      have hnb191 := NB338_0.out
      have hnc191 := NB0_338.out
      have hcz192_0 := cz_ BK338 0 (.slice none 0 0)
      have hfz192_0 := fz_ BK338 0
      have hnb193 := NB291_290.out
      have hnc193 := NB290_291.out
      have hnb194 := NB291_296.out
      have hnc194 := NB296_291.out
      have hnb195 := NB291_0.out
      have hnc195 := NB0_291.out
      have hcz196_0 := cz_ BK291 0 (.slice (some ad303) x292000_1.length co41)
      have hfz196_0 := fz_ BK291 0
      go_wp2
      go_roundg kj9
      case measure => have := HK1.out; have := HJ9.out; omega
      case rel => exact ⟨(wrap64 (x6_1 + 1)), (t332), (t333), (t334), (.slice Ao183 t334.length co183), er_, H', ⟨by have := HK1.out; have := HJ9.out; omega⟩, ⟨by (with_reducible repeat (first | apply Kd.R_alloc | apply Kd.R_drewN | apply Kd.R_drew)); exact Kd.R_mono (Kd.R_far (Kd.R_far (Kd.R_types (Kd.R_types HO336.out BK338.out (by decide)) BK291.out (by decide)) (fun _ hk => hk.1.2) _) (fun _ hk => hk.2) _) (fun _ hk => trivial)⟩, ⟨bc_ BK290⟩, ⟨by refine bd_ ?_; refine blk_put (cs := #[.slice (some ad303) x292000_1.length co41]) ?_ 0 _ rfl; refine bd_ ?_; refine blk_far ?_ NB291_338.out _; refine bd_ ?_; exact BK291.out⟩, ⟨is112_⟩, ⟨kx_ HK⟩, ⟨bw112_⟩⟩
     subst c35
     rw [if_pos rfl] at H
     obtain ⟨⟨t312, t313, t314⟩, A36, H⟩ := ob_ H
     by_cases c37 : t312 = true
     rotate_left
     ·replace c37 := Bool.eq_false_iff.mpr c37
      subst c37
      rw [if_neg (show ¬ (false = true) by decide)] at H
      obtain ⟨⟨t323, t324, t325⟩, A94, H⟩ := ob_ H
      obtain ⟨⟨t326, t329⟩, A95, H⟩ := ob_ H
      have H' := Aside0.mk H
      clear H
      refine skip_ (w1 := ?_) (by rfl) rfl ?_ ?_
      rotate_left; · go_simp; rfl
      refine hK.out _ _ ⟨((cell_far (p := ⟨gb304, _, none⟩) NB291_304.out _).trans (((cell_far (p := ⟨gb304, _, none⟩) NB291_304.out _).trans (hHeld.1)))), ((cell_far (p := ⟨gb304, _, none⟩) (by first | exact Kd.own_blk (Kd.R_ne HO_292000.out BK304.out (by decide)) | (rw [add_block]; exact Kd.own_blk (Kd.R_ne HO_292000.out BK304.out (by decide))) | (show (Addr.add _ _).block ≠ _; rw [add_block]; exact Kd.own_blk (Kd.R_ne HO_292000.out BK304.out (by decide))) | (dsimp only; exact Kd.own_blk (Kd.R_ne HO_292000.out BK304.out (by decide)))) _).trans (((cell_far (p := ⟨gb304, _, none⟩) (by first | exact Kd.own_blk (Kd.R_ne HO_292000.out BK304.out (by decide)) | (rw [add_block]; exact Kd.own_blk (Kd.R_ne HO_292000.out BK304.out (by decide))) | (show (Addr.add _ _).block ≠ _; rw [add_block]; exact Kd.own_blk (Kd.R_ne HO_292000.out BK304.out (by decide))) | (dsimp only; exact Kd.own_blk (Kd.R_ne HO_292000.out BK304.out (by decide)))) _).trans (hHeld.2.1)))), ((cell_far (p := ⟨gb304, _, none⟩) (by first | exact Kd.own_blk (Kd.R_ne HO_292000.out BK304.out (by decide)) | (rw [add_block]; exact Kd.own_blk (Kd.R_ne HO_292000.out BK304.out (by decide))) | (show (Addr.add _ _).block ≠ _; rw [add_block]; exact Kd.own_blk (Kd.R_ne HO_292000.out BK304.out (by decide))) | (dsimp only; exact Kd.own_blk (Kd.R_ne HO_292000.out BK304.out (by decide)))) _).trans (((cell_far (p := ⟨gb304, _, none⟩) (by first | exact Kd.own_blk (Kd.R_ne HO_292000.out BK304.out (by decide)) | (rw [add_block]; exact Kd.own_blk (Kd.R_ne HO_292000.out BK304.out (by decide))) | (show (Addr.add _ _).block ≠ _; rw [add_block]; exact Kd.own_blk (Kd.R_ne HO_292000.out BK304.out (by decide))) | (dsimp only; exact Kd.own_blk (Kd.R_ne HO_292000.out BK304.out (by decide)))) _).trans (hHeld.2.2.1)))), ((cell_far (p := ⟨gb304, _, none⟩) (by first | exact Kd.own_blk (Kd.R_ne HO_292000.out BK304.out (by decide)) | (rw [add_block]; exact Kd.own_blk (Kd.R_ne HO_292000.out BK304.out (by decide))) | (show (Addr.add _ _).block ≠ _; rw [add_block]; exact Kd.own_blk (Kd.R_ne HO_292000.out BK304.out (by decide))) | (dsimp only; exact Kd.own_blk (Kd.R_ne HO_292000.out BK304.out (by decide)))) _).trans (((cell_far (p := ⟨gb304, _, none⟩) (by first | exact Kd.own_blk (Kd.R_ne HO_292000.out BK304.out (by decide)) | (rw [add_block]; exact Kd.own_blk (Kd.R_ne HO_292000.out BK304.out (by decide))) | (show (Addr.add _ _).block ≠ _; rw [add_block]; exact Kd.own_blk (Kd.R_ne HO_292000.out BK304.out (by decide))) | (dsimp only; exact Kd.own_blk (Kd.R_ne HO_292000.out BK304.out (by decide)))) _).trans (hHeld.2.2.2))))⟩ (fun hHeld => ?_)
      clear hK K
      refine done_ (done_of HT_.out (by kernel_rfl)) ?_
      have hnb103 := NB304_290.out
      have hnc103 := NB290_304.out
      have hnb104 := NB304_291.out
      have hnc104 := NB291_304.out
      have hnb105 := NB304_296.out
      have hnc105 := NB296_304.out
      have hnb106 := NB304_0.out
      have hnc106 := NB0_304.out
      have hcz107_0 := cz_ BK304 0 (.int .i64 0)
      have hcz107_1 := cz_ BK304 1 (.int .i64 0)
      have hfz107_0 := fz_ BK304 0
      have hfz107_1 := fz_ BK304 1
      try go_wp2_with (first | ((with_reducible refine gate_callee (f := 95) rfl ?_); refine gl_ (some 43) Try.func95 #[.agg #[.int .i64 ((rd_T30 x292000_1 t300).f0.f0), .int .i64 ((rd_T30 x292000_1 t300).f0.f1)]] ?_; (with_reducible refine (spec_Halves.calls ((rd_T30 x292000_1 t300).f0.f0) ((rd_T30 x292000_1 t300).f0.f1) t305 t306 t307 t308 true _ A34.out).mono ?_); rintro e w108 ⟨rfl, hb⟩; refine ⟨_, rfl, ?_⟩; replace HO_292000 := rs_ HO_292000 BK304 hb; replace BK290 := bf_ BK290 NB290_304 hb; replace BK291 := bf_ BK291 NB291_304 hb; replace BK296 := bf_ BK296 NB296_304 hb; replace BK304 := Aside0.mk (blk_below (g := gb304) (o := .cells #[.int .i64 ((rd_T30 x292000_1 t300).f0.f0), .int .i64 ((rd_T30 x292000_1 t300).f0.f1)] 28 (0, 0)) (by refine bd_ ?_; refine blk_put (cs := #[.int .i64 ((rd_T30 x292000_1 t300).f0.f0), .int .i64 0]) ?_ 1 _ rfl; refine bd_ ?_; refine blk_put (cs := #[.int .i64 0, .int .i64 0]) ?_ 0 _ rfl; refine bd_ ?_; exact BK304.out) hb); replace HK := kt_ HK (KeepBut.of_below hb g none); replace HB := bs112_ hb; replace HI0 := Aside0.mk (IsS112.below (show IsS112 w0 ((w44.setCell ⟨gb304, 0, none⟩ (.int .i64 ((rd_T30 x292000_1 t300).f0.f0))).setCell ⟨gb304, 1, none⟩ (.int .i64 ((rd_T30 x292000_1 t300).f0.f1))) g s0_0 t301 t302 from is112_) hb); clear hb) | ((with_reducible refine gate_dst (N := 9) rfl ?_); refine be_ 9 #[.int .i64 0, .int .i64 0] 28 ?_; intro gb310 hg w109 BK310 hb; have GW310 := gw_ HK hg; have GE310 := gv_ HW0 HK hg; have NB290_310 := nl_ BK290 hg; have NB310_290 := ng_ BK290 hg; have NB291_310 := nl_ BK291 hg; have NB310_291 := ng_ BK291 hg; have NB296_310 := nl_ BK296 hg; have NB310_296 := ng_ BK296 hg; have NB304_310 := nl_ BK304 hg; have NB310_304 := ng_ BK304 hg; have NB0_310 := Aside0.mk ((by rw [hg]; exact Nat.ne_of_lt (IsS112.lt (show IsS112 w0 _ g s0_0 t301 t302 from is112_)) : g ≠ gb310)); have NB310_0 := Aside0.mk ((by rw [hg]; exact Nat.ne_of_gt (IsS112.lt (show IsS112 w0 _ g s0_0 t301 t302 from is112_)) : gb310 ≠ g)); replace HO_292000 := rb_ HO_292000 hb; replace HB := bs112_ hb; replace HK := kt_ HK (KeepBut.of_below hb g none); replace BK290 := ab_ BK290 hb; replace BK291 := ab_ BK291 hb; replace BK296 := ab_ BK296 hb; replace BK304 := ab_ BK304 hb; replace HI0 := Aside0.mk (IsS112.below is112_ hb); clear hb hg) | ((with_reducible refine gate_dst (N := 10) rfl ?_); refine be_ 10 #[.int .i64 0, .int .i64 0] 28 ?_; intro gb311 hg w110 BK311 hb; have GW311 := gw_ HK hg; have GE311 := gv_ HW0 HK hg; have NB290_311 := nl_ BK290 hg; have NB311_290 := ng_ BK290 hg; have NB291_311 := nl_ BK291 hg; have NB311_291 := ng_ BK291 hg; have NB296_311 := nl_ BK296 hg; have NB311_296 := ng_ BK296 hg; have NB304_311 := nl_ BK304 hg; have NB311_304 := ng_ BK304 hg; have NB310_311 := nl_ BK310 hg; have NB311_310 := ng_ BK310 hg; have NB0_311 := Aside0.mk ((by rw [hg]; exact Nat.ne_of_lt (IsS112.lt (show IsS112 w0 _ g s0_0 t301 t302 from is112_)) : g ≠ gb311)); have NB311_0 := Aside0.mk ((by rw [hg]; exact Nat.ne_of_gt (IsS112.lt (show IsS112 w0 _ g s0_0 t301 t302 from is112_)) : gb311 ≠ g)); replace HO_292000 := rb_ HO_292000 hb; replace HB := bs112_ hb; replace HK := kt_ HK (KeepBut.of_below hb g none); replace BK290 := ab_ BK290 hb; replace BK291 := ab_ BK291 hb; replace BK296 := ab_ BK296 hb; replace BK304 := ab_ BK304 hb; replace BK310 := ab_ BK310 hb; replace HI0 := Aside0.mk (IsS112.below is112_ hb); clear hb hg; have hnb111 := NB310_290.out; have hnc111 := NB290_310.out; have hnb112 := NB310_291.out; have hnc112 := NB291_310.out; have hnb113 := NB310_296.out; have hnc113 := NB296_310.out; have hnb114 := NB310_304.out; have hnc114 := NB304_310.out; have hnb115 := NB310_311.out; have hnc115 := NB311_310.out; have hnb116 := NB310_0.out; have hnc116 := NB0_310.out; have hcz117_0 := cz_ BK310 0 (.int .i64 0); have hcz117_1 := cz_ BK310 1 (.int .i64 0); have hfz117_0 := fz_ BK310 0; have hfz117_1 := fz_ BK310 1; have hnb118 := NB311_290.out; have hnc118 := NB290_311.out; have hnb119 := NB311_291.out; have hnc119 := NB291_311.out; have hnb120 := NB311_296.out; have hnc120 := NB296_311.out; have hnb121 := NB311_304.out; have hnc121 := NB304_311.out; have hnb122 := NB311_0.out; have hnc122 := NB0_311.out; have hcz123_0 := cz_ BK311 0 (.int .i64 0); have hcz123_1 := cz_ BK311 1 (.int .i64 0); have hfz123_0 := fz_ BK311 0; have hfz123_1 := fz_ BK311 1; have hnb124 := NB296_290.out; have hnc124 := NB290_296.out; have hnb125 := NB296_291.out; have hnc125 := NB291_296.out; have hnb126 := NB296_0.out; have hnc126 := NB0_296.out; have hcz127_0 := cz_ BK296 0 (.int .i64 t292); have hcz127_1 := cz_ BK296 1 (.int .i64 t293); have hfz127_0 := fz_ BK296 0; have hfz127_1 := fz_ BK296 1) | ((with_reducible refine gate_callee (f := 81) rfl ?_); refine gl_ (some 50) Try.func81 #[.pointer (some ⟨g, 0, none⟩), .int .i64 2] ?_; (with_reducible refine (spec_l01Once.calls g s0_0 t301 t302 2 false t313 t314 w0 _ ?side1 ?side2 A36.out).mono ?_); (case side1 => exact is112_); (case side2 => exact bw112_); rintro e w128 ⟨rfl, hi, hb, hk⟩; refine ⟨_, rfl, ?_⟩; replace HO_292000 := Aside0.mk (Kd.R_mono (Kd.R_keep (IsS112.apart (show IsS112 w0 _ g s0_0 t301 t302 from is112_) (by (with_reducible repeat (first | apply Kd.R_alloc | apply Kd.R_drewN | apply Kd.R_drew)); exact (Kd.R_mono (Kd.R_mono (Kd.R_mono (Kd.R_far (Kd.R_far (Kd.R_far (Kd.R_far (Kd.R_far (Kd.R_far (Kd.R_types (Kd.R_types (Kd.R_types HO_292000.out BK310.out (by decide)) BK311.out (by decide)) BK296.out (by decide)) (fun _ hk => hk.1.1.2) _) (fun _ hk => hk.1.1.2) _) (fun _ hk => hk.1.2) _) (fun _ hk => hk.1.2) _) (fun _ hk => hk.2) _) (fun _ hk => hk.2) _) (fun _ h_ => h_.1)) (fun _ h_ => h_.1)) (fun _ h_ => h_.1))) (by decide)) hk (fun _ h => h.2)) (fun _ h => h.1)); replace BK290 := kc_ BK290 NB290_0 hk; replace BK291 := kc_ BK291 NB291_0 hk; replace BK296 := Aside0.mk (KeepBut.blk hk (g' := gb296) (o := .cells #[.int .i64 t305, .int .i64 t306] 28 (0, 0)) (by refine bd_ ?_; refine blk_put (cs := #[.int .i64 t305, .int .i64 t293]) ?_ 1 _ rfl; refine bd_ ?_; refine blk_put (cs := #[.int .i64 t292, .int .i64 t293]) ?_ 0 _ rfl; refine bd_ ?_; refine blk_far ?_ NB296_311.out _; refine bd_ ?_; refine blk_far ?_ NB296_311.out _; refine bd_ ?_; refine blk_far ?_ NB296_310.out _; refine bd_ ?_; refine blk_far ?_ NB296_310.out _; refine bd_ ?_; exact BK296.out) NB296_0.out (by simp)); replace BK304 := kc_ BK304 NB304_0 hk; replace BK310 := Aside0.mk (KeepBut.blk hk (g' := gb310) (o := .cells #[.int .i64 t305, .int .i64 t306] 28 (0, 0)) (by refine bd_ ?_; refine blk_far ?_ NB310_296.out _; refine bd_ ?_; refine blk_far ?_ NB310_296.out _; refine bd_ ?_; refine blk_far ?_ NB310_311.out _; refine bd_ ?_; refine blk_far ?_ NB310_311.out _; refine bd_ ?_; refine blk_put (cs := #[.int .i64 t305, .int .i64 0]) ?_ 1 _ rfl; refine bd_ ?_; refine blk_put (cs := #[.int .i64 0, .int .i64 0]) ?_ 0 _ rfl; refine bd_ ?_; exact BK310.out) NB310_0.out (by simp)); replace BK311 := Aside0.mk (KeepBut.blk hk (g' := gb311) (o := .cells #[.int .i64 t307, .int .i64 t308] 28 (0, 0)) (by refine bd_ ?_; refine blk_far ?_ NB311_296.out _; refine bd_ ?_; refine blk_far ?_ NB311_296.out _; refine bd_ ?_; refine blk_put (cs := #[.int .i64 t307, .int .i64 0]) ?_ 1 _ rfl; refine bd_ ?_; refine blk_put (cs := #[.int .i64 0, .int .i64 0]) ?_ 0 _ rfl; refine bd_ ?_; refine blk_far ?_ NB311_310.out _; refine bd_ ?_; refine blk_far ?_ NB311_310.out _; refine bd_ ?_; exact BK311.out) NB311_0.out (by simp)); replace HK := kt_ HK hk; replace HB := Aside0.mk (hb); replace HI0 := Aside0.mk (hi); clear hb hk hi))
      replace HO_292000 := Aside0.mk (Kd.R_drew HO_292000.out)
      replace BK290 := ad_ BK290
      replace BK291 := ad_ BK291
      replace BK296 := ad_ BK296
      replace BK304 := ad_ BK304
      replace BK310 := ad_ BK310
      replace BK311 := ad_ BK311
      replace HI0 := Aside0.mk (IsS112.drew HI0.out)
      replace HK := Aside0.mk (keep_drew HK.out)
      replace HB := Aside0.mk (below_drew1 HB.out)
      refine start_ (n := 12) (S := fun w' => w'.cell? ⟨gb291, 0, none⟩ = some (.slice (some ad303) x292000_1.length co41) ∧ w'.cell? ⟨gb296, 0, none⟩ = some (.int .i64 t305) ∧ w'.cell? ⟨gb296, 1, none⟩ = some (.int .i64 t306)) (ds := []) ba13_0 (by kernel_rfl) rfl rfl ⟨bq5_ BK291 0, bq5_ BK296 0, bq5_ BK296 1⟩ (fun hHeld => ?_); refine with_tabW spec_l02DrawTable.tab13 spec_l02DrawTable.bits13 (fun HT_ HW_ => ?_)
      generalize w128.drew = w129 at HO_292000 BK290 BK291 BK296 BK304 BK310 BK311 HI0 HK HB hHeld ⊢
      refine pz_ 2 55 ba13_17 HT_ ?_
      refine pt_ 0 53 ba13_2 HT_ HW_ hHeld ?_
      refine pt_ 1 54 ba13_18 HT_ HW_ hHeld ?_
      refine join_ (σ := Value × Nat) 2 ba13_12 (fun s_ => [(56, .int .i64 t323), (58, .tuple #[.agg #[s_.1], .bool t329]), (12, .pointer (some ⟨s_.2, 0, none⟩)), (57, .agg #[.int .i64 t305, .int .i64 t306, .int .i64 t323]), (52, .tuple #[.agg #[s_.1], .bool t329]), (59, .agg #[s_.1]), (60, .bool t329)]) (fun s_ w' => (w'.cell? ⟨gb291, 0, none⟩ = some (.slice (some ad303) x292000_1.length co41) ∧ w'.cell? ⟨gb296, 0, none⟩ = some (.int .i64 t305) ∧ w'.cell? ⟨gb296, 1, none⟩ = some (.int .i64 t306)) ∧ (Kd.R k30 30 w' w.heap.size (fun k_ => some k_ ≠ (.slice (some ad303) x292000_1.length co41 : Value).ownBlock) s_.1 t326) ∧ (Kd.R k30 30 w' w.heap.size (fun k_ => some k_ ≠ (s_.1 : Value).ownBlock) (.slice (some ad303) x292000_1.length co41) x292000_1) ∧ (w'.heap[gb290]? = some (.cells #[.slice none 0 0] 26 (0, 0))) ∧ (w'.heap[gb291]? = some (.cells #[.slice (some ad303) x292000_1.length co41] 26 (0, 0))) ∧ (w'.heap[gb296]? = some (.cells #[.int .i64 t305, .int .i64 t306] 28 (0, 0))) ∧ (w'.heap[gb304]? = some (.cells #[.int .i64 ((rd_T30 x292000_1 t300).f0.f0), .int .i64 ((rd_T30 x292000_1 t300).f0.f1)] 28 (0, 0))) ∧ (w'.heap[gb310]? = some (.cells #[.int .i64 t305, .int .i64 t306] 28 (0, 0))) ∧ (w'.heap[gb311]? = some (.cells #[.int .i64 t307, .int .i64 t308] 28 (0, 0))) ∧ (w'.heap[s_.2]? = some (.cells #[.slice none 0 0] 26 (0, 0))) ∧ (w.heap.size ≤ s_.2) ∧ (w0.heap.size ≤ s_.2) ∧ (g ≠ s_.2) ∧ (s_.2 ≠ g) ∧ (gb290 ≠ s_.2) ∧ (s_.2 ≠ gb290) ∧ (gb291 ≠ s_.2) ∧ (s_.2 ≠ gb291) ∧ (gb296 ≠ s_.2) ∧ (s_.2 ≠ gb296) ∧ (gb304 ≠ s_.2) ∧ (s_.2 ≠ gb304) ∧ (gb310 ≠ s_.2) ∧ (s_.2 ≠ gb310) ∧ (gb311 ≠ s_.2) ∧ (s_.2 ≠ gb311) ∧ (IsS112 w0 w' g s0_0 t324 t325) ∧ (KeepBut w w' g none) ∧ (Below w0.heap.size w0 w')) ?_ ?_
      rotate_left
      ·intro hCont
       refine two_ (i := 3) (j := 9) (Ni := some 56) (Nj := some 12) ba13_4 ba13_19 rfl rfl rfl rfl (two_of HT_.out (by kernel_rfl)) (by decide) (by decide) (fun K hK => ?_) (fun K hK => ?_)
       ·skip
        refine gz_ Try.func44 #[.pointer (some ⟨g, 0, none⟩), .int .i64 4] ?_
        with_reducible refine (spec_l01Below.calls g s0_0 t313 t314 4 t323 t324 t325 w0 _ ?side1 ?side2 A94.out).mono ?_
        (case side1 => exact is112_)
        (case side2 => exact bw112_)
        rintro e w130 ⟨rfl, hi, hb, hk⟩
        refine ⟨_, rfl, ?_⟩
        replace HO_292000 := ak112_ HO_292000 (show IsS112 w0 _ g s0_0 t313 t314 from is112_) hk
        replace BK290 := kb_ BK290 NB290_0 hk
        replace BK291 := kb_ BK291 NB291_0 hk
        replace BK296 := kb_ BK296 NB296_0 hk
        replace BK304 := kb_ BK304 NB304_0 hk
        replace BK310 := kb_ BK310 NB310_0 hk
        replace BK311 := kb_ BK311 NB311_0 hk
        replace HK := kt_ HK hk
        replace HB := Aside0.mk (hb)
        replace HI0 := Aside0.mk (hi)
        clear hb hk hi
        refine hK.out _ _ ⟨bq5_ BK291 0, bq5_ BK296 0, bq5_ BK296 1⟩ (fun hHeld => ?_)
        clear hK K
        refine nz_ 56 ?_
        refine pz_ 4 57 ba13_5 HT_ ?_
        refine two_ (i := 5) (j := 9) (Ni := some 58) (Nj := some 12) ba13_6 ba13_20 rfl rfl rfl rfl (two_of HT_.out (by kernel_rfl)) (by decide) (by decide) (fun K hK => ?_) (fun K hK => ?_)
        ·skip
         refine gz_ Try.func10 #[.agg #[.slice (some ad303) x292000_1.length co41], .agg #[.int .i64 t305, .int .i64 t306, .int .i64 t323]] ?_
         with_reducible refine (spec_PutRoute.calls kj9 _ _ x292000_1 t305 t306 t323 t326 t329 _ ?side1 ?side2 A95.out).mono ?_
         (case side1 => exact rc_ HO_292000)
         (case side2 => exact (Kd.R_reads' HO_292000.out).2.1)
         rintro e w131 ⟨v327, rfl, ho0, hb⟩
         refine ⟨_, rfl, ?_⟩
         have HO328 := Aside0.mk (Kd.R_lower (Kd.R_new' ho0 (Kd.R_lt (hd_ HO_292000))) (keep_size (w := w) (g := g) (row := none) (kx_ HK)))
         replace HO_292000 := Aside0.mk (Kd.R_elder' (hd_ HO_292000) (Kd.R_base ho0) hb)
         replace BK290 := ab_ BK290 hb
         replace BK291 := ab_ BK291 hb
         replace BK296 := ab_ BK296 hb
         replace BK304 := ab_ BK304 hb
         replace BK310 := ab_ BK310 hb
         replace BK311 := ab_ BK311 hb
         replace HK := kt_ HK (KeepBut.of_below hb g none)
         replace HB := bs112_ hb
         replace HI0 := Aside0.mk (IsS112.below is112_ hb)
         clear hb ho0
         refine hK.out _ _ ⟨bq5_ BK291 0, bq5_ BK296 0, bq5_ BK296 1⟩ (fun hHeld => ?_)
         clear hK K
         refine nz_ 58 ?_
         refine pz_ 6 52 ba13_8 HT_ ?_
         refine pz_ 7 59 ba13_10 HT_ ?_
         refine pz_ 8 60 ba13_11 HT_ ?_
         refine on_ 9 (some 12) ba13_12 HT_ (fun K hK => ?_)
         refine box_step ?hg (N := 12) ?hd (cs := #[.slice none 0 0]) (t := 26) ?hr ?_; (case hd => rfl); (case hg => rfl); (case hr => first | (go_simp; done) | (go_simp; rfl))
         intro gb330 hg w132 hbox hb
         have BK330 := Aside0.mk hbox
         have GW330 := gw_ HK hg
         have GE330 := gv_ HW0 HK hg
         have NB290_330 := nl_ BK290 hg
         have NB330_290 := ng_ BK290 hg
         have NB291_330 := nl_ BK291 hg
         have NB330_291 := ng_ BK291 hg
         have NB296_330 := nl_ BK296 hg
         have NB330_296 := ng_ BK296 hg
         have NB304_330 := nl_ BK304 hg
         have NB330_304 := ng_ BK304 hg
         have NB310_330 := nl_ BK310 hg
         have NB330_310 := ng_ BK310 hg
         have NB311_330 := nl_ BK311 hg
         have NB330_311 := ng_ BK311 hg
         have NB0_330 := Aside0.mk ((by rw [hg]; exact Nat.ne_of_lt (IsS112.lt (show IsS112 w0 _ g s0_0 t324 t325 from is112_)) : g ≠ gb330))
         have NB330_0 := Aside0.mk ((by rw [hg]; exact Nat.ne_of_gt (IsS112.lt (show IsS112 w0 _ g s0_0 t324 t325 from is112_)) : gb330 ≠ g))
         replace HO_292000 := rb_ HO_292000 hb
         replace HO328 := rb_ HO328 hb
         replace HB := bs112_ hb
         replace HK := kt_ HK (KeepBut.of_below hb g none)
         replace BK290 := ab_ BK290 hb
         replace BK291 := ab_ BK291 hb
         replace BK296 := ab_ BK296 hb
         replace BK304 := ab_ BK304 hb
         replace BK310 := ab_ BK310 hb
         replace BK311 := ab_ BK311 hb
         replace HI0 := Aside0.mk (IsS112.below is112_ hb)
         clear hb hbox hg
         refine hK.out _ _ ⟨bq5_ BK291 0, bq5_ BK296 0, bq5_ BK296 1⟩ (fun hHeld => ?_)
         clear hK K
         refine nz_ 12 ?_
         exact norm_ (by simp only [putAll, Act.put, List.setIfInBounds_toArray, List.set_cons_zero, List.set_cons_succ]) (hCont (v327, gb330) _ ⟨hHeld, (by (with_reducible repeat (first | apply Kd.R_alloc | apply Kd.R_drewN | apply Kd.R_drew)); exact Kd.R_mono HO328.out (fun _ hk => hk.2)), (by (with_reducible repeat (first | apply Kd.R_alloc | apply Kd.R_drewN | apply Kd.R_drew)); exact Kd.R_mono HO_292000.out (fun _ hk => hk.2)), (bx_ BK290), (bx_ BK291), (bx_ BK296), (bx_ BK304), (bx_ BK310), (bx_ BK311), (bx_ BK330), GW330.out, GE330.out, NB0_330.out, NB330_0.out, NB290_330.out, NB330_290.out, NB291_330.out, NB330_291.out, NB296_330.out, NB330_296.out, NB304_330.out, NB330_304.out, NB310_330.out, NB330_310.out, NB311_330.out, NB330_311.out, (is112_), (kx_ HK), (bw112_)⟩)
        ·skip
         refine box_step ?hg (N := 12) ?hd (cs := #[.slice none 0 0]) (t := 26) ?hr ?_; (case hd => rfl); (case hg => rfl); (case hr => first | (go_simp; done) | (go_simp; rfl))
         intro gb330 hg w131 hbox hb
         have BK330 := Aside0.mk hbox
         have GW330 := gw_ HK hg
         have GE330 := gv_ HW0 HK hg
         have NB290_330 := nl_ BK290 hg
         have NB330_290 := ng_ BK290 hg
         have NB291_330 := nl_ BK291 hg
         have NB330_291 := ng_ BK291 hg
         have NB296_330 := nl_ BK296 hg
         have NB330_296 := ng_ BK296 hg
         have NB304_330 := nl_ BK304 hg
         have NB330_304 := ng_ BK304 hg
         have NB310_330 := nl_ BK310 hg
         have NB330_310 := ng_ BK310 hg
         have NB311_330 := nl_ BK311 hg
         have NB330_311 := ng_ BK311 hg
         have NB0_330 := Aside0.mk ((by rw [hg]; exact Nat.ne_of_lt (IsS112.lt (show IsS112 w0 _ g s0_0 t324 t325 from is112_)) : g ≠ gb330))
         have NB330_0 := Aside0.mk ((by rw [hg]; exact Nat.ne_of_gt (IsS112.lt (show IsS112 w0 _ g s0_0 t324 t325 from is112_)) : gb330 ≠ g))
         replace HO_292000 := rb_ HO_292000 hb
         replace HB := bs112_ hb
         replace HK := kt_ HK (KeepBut.of_below hb g none)
         replace BK290 := ab_ BK290 hb
         replace BK291 := ab_ BK291 hb
         replace BK296 := ab_ BK296 hb
         replace BK304 := ab_ BK304 hb
         replace BK310 := ab_ BK310 hb
         replace BK311 := ab_ BK311 hb
         replace HI0 := Aside0.mk (IsS112.below is112_ hb)
         clear hb hbox hg
         refine hK.out _ _ ⟨bq5_ BK291 0, bq5_ BK296 0, bq5_ BK296 1⟩ (fun hHeld => ?_)
         clear hK K
         refine nz_ 12 ?_
         refine on_ 5 (some 58) ba13_21 HT_ (fun K hK => ?_)
         refine gz_ Try.func10 #[.agg #[.slice (some ad303) x292000_1.length co41], .agg #[.int .i64 t305, .int .i64 t306, .int .i64 t323]] ?_
         with_reducible refine (spec_PutRoute.calls kj9 _ _ x292000_1 t305 t306 t323 t326 t329 _ ?side1 ?side2 A95.out).mono ?_
         (case side1 => exact rc_ HO_292000)
         (case side2 => exact (Kd.R_reads' HO_292000.out).2.1)
         rintro e w132 ⟨v327, rfl, ho0, hb⟩
         refine ⟨_, rfl, ?_⟩
         have HO328 := Aside0.mk (Kd.R_lower (Kd.R_new' ho0 (Kd.R_lt (hd_ HO_292000))) (keep_size (w := w) (g := g) (row := none) (kx_ HK)))
         replace HO_292000 := Aside0.mk (Kd.R_elder' (hd_ HO_292000) (Kd.R_base ho0) hb)
         replace BK290 := ab_ BK290 hb
         replace BK291 := ab_ BK291 hb
         replace BK296 := ab_ BK296 hb
         replace BK304 := ab_ BK304 hb
         replace BK310 := ab_ BK310 hb
         replace BK311 := ab_ BK311 hb
         replace BK330 := ab_ BK330 hb
         replace HK := kt_ HK (KeepBut.of_below hb g none)
         replace HB := bs112_ hb
         replace HI0 := Aside0.mk (IsS112.below is112_ hb)
         clear hb ho0
         refine hK.out _ _ ⟨bq5_ BK291 0, bq5_ BK296 0, bq5_ BK296 1⟩ (fun hHeld => ?_)
         clear hK K
         refine nz_ 58 ?_
         refine pz_ 6 52 ba13_22 HT_ ?_
         refine pz_ 7 59 ba13_23 HT_ ?_
         refine pz_ 8 60 ba13_12 HT_ ?_
         exact norm_ (by simp only [putAll, Act.put, List.setIfInBounds_toArray, List.set_cons_zero, List.set_cons_succ]) (hCont (v327, gb330) _ ⟨hHeld, (by (with_reducible repeat (first | apply Kd.R_alloc | apply Kd.R_drewN | apply Kd.R_drew)); exact Kd.R_mono HO328.out (fun _ hk => hk.2)), (by (with_reducible repeat (first | apply Kd.R_alloc | apply Kd.R_drewN | apply Kd.R_drew)); exact Kd.R_mono HO_292000.out (fun _ hk => hk.2)), (bx_ BK290), (bx_ BK291), (bx_ BK296), (bx_ BK304), (bx_ BK310), (bx_ BK311), (bx_ BK330), GW330.out, GE330.out, NB0_330.out, NB330_0.out, NB290_330.out, NB330_290.out, NB291_330.out, NB330_291.out, NB296_330.out, NB330_296.out, NB304_330.out, NB330_304.out, NB310_330.out, NB330_310.out, NB311_330.out, NB330_311.out, (is112_), (kx_ HK), (bw112_)⟩)
       ·skip
        refine box_step ?hg (N := 12) ?hd (cs := #[.slice none 0 0]) (t := 26) ?hr ?_; (case hd => rfl); (case hg => rfl); (case hr => first | (go_simp; done) | (go_simp; rfl))
        intro gb330 hg w130 hbox hb
        have BK330 := Aside0.mk hbox
        have GW330 := gw_ HK hg
        have GE330 := gv_ HW0 HK hg
        have NB290_330 := nl_ BK290 hg
        have NB330_290 := ng_ BK290 hg
        have NB291_330 := nl_ BK291 hg
        have NB330_291 := ng_ BK291 hg
        have NB296_330 := nl_ BK296 hg
        have NB330_296 := ng_ BK296 hg
        have NB304_330 := nl_ BK304 hg
        have NB330_304 := ng_ BK304 hg
        have NB310_330 := nl_ BK310 hg
        have NB330_310 := ng_ BK310 hg
        have NB311_330 := nl_ BK311 hg
        have NB330_311 := ng_ BK311 hg
        have NB0_330 := Aside0.mk ((by rw [hg]; exact Nat.ne_of_lt (IsS112.lt (show IsS112 w0 _ g s0_0 t313 t314 from is112_)) : g ≠ gb330))
        have NB330_0 := Aside0.mk ((by rw [hg]; exact Nat.ne_of_gt (IsS112.lt (show IsS112 w0 _ g s0_0 t313 t314 from is112_)) : gb330 ≠ g))
        replace HO_292000 := rb_ HO_292000 hb
        replace HB := bs112_ hb
        replace HK := kt_ HK (KeepBut.of_below hb g none)
        replace BK290 := ab_ BK290 hb
        replace BK291 := ab_ BK291 hb
        replace BK296 := ab_ BK296 hb
        replace BK304 := ab_ BK304 hb
        replace BK310 := ab_ BK310 hb
        replace BK311 := ab_ BK311 hb
        replace HI0 := Aside0.mk (IsS112.below is112_ hb)
        clear hb hbox hg
        refine hK.out _ _ ⟨bq5_ BK291 0, bq5_ BK296 0, bq5_ BK296 1⟩ (fun hHeld => ?_)
        clear hK K
        refine nz_ 12 ?_
        refine on_ 3 (some 56) ba13_24 HT_ (fun K hK => ?_)
        refine gz_ Try.func44 #[.pointer (some ⟨g, 0, none⟩), .int .i64 4] ?_
        with_reducible refine (spec_l01Below.calls g s0_0 t313 t314 4 t323 t324 t325 w0 _ ?side1 ?side2 A94.out).mono ?_
        (case side1 => exact is112_)
        (case side2 => exact bw112_)
        rintro e w131 ⟨rfl, hi, hb, hk⟩
        refine ⟨_, rfl, ?_⟩
        replace HO_292000 := ak112_ HO_292000 (show IsS112 w0 _ g s0_0 t313 t314 from is112_) hk
        replace BK290 := kb_ BK290 NB290_0 hk
        replace BK291 := kb_ BK291 NB291_0 hk
        replace BK296 := kb_ BK296 NB296_0 hk
        replace BK304 := kb_ BK304 NB304_0 hk
        replace BK310 := kb_ BK310 NB310_0 hk
        replace BK311 := kb_ BK311 NB311_0 hk
        replace BK330 := kb_ BK330 NB330_0 hk
        replace HK := kt_ HK hk
        replace HB := Aside0.mk (hb)
        replace HI0 := Aside0.mk (hi)
        clear hb hk hi
        refine hK.out _ _ ⟨bq5_ BK291 0, bq5_ BK296 0, bq5_ BK296 1⟩ (fun hHeld => ?_)
        clear hK K
        refine nz_ 56 ?_
        refine pz_ 4 57 ba13_20 HT_ ?_
        refine on_ 5 (some 58) ba13_21 HT_ (fun K hK => ?_)
        refine gz_ Try.func10 #[.agg #[.slice (some ad303) x292000_1.length co41], .agg #[.int .i64 t305, .int .i64 t306, .int .i64 t323]] ?_
        with_reducible refine (spec_PutRoute.calls kj9 _ _ x292000_1 t305 t306 t323 t326 t329 _ ?side1 ?side2 A95.out).mono ?_
        (case side1 => exact rc_ HO_292000)
        (case side2 => exact (Kd.R_reads' HO_292000.out).2.1)
        rintro e w132 ⟨v327, rfl, ho0, hb⟩
        refine ⟨_, rfl, ?_⟩
        have HO328 := Aside0.mk (Kd.R_lower (Kd.R_new' ho0 (Kd.R_lt (hd_ HO_292000))) (keep_size (w := w) (g := g) (row := none) (kx_ HK)))
        replace HO_292000 := Aside0.mk (Kd.R_elder' (hd_ HO_292000) (Kd.R_base ho0) hb)
        replace BK290 := ab_ BK290 hb
        replace BK291 := ab_ BK291 hb
        replace BK296 := ab_ BK296 hb
        replace BK304 := ab_ BK304 hb
        replace BK310 := ab_ BK310 hb
        replace BK311 := ab_ BK311 hb
        replace BK330 := ab_ BK330 hb
        replace HK := kt_ HK (KeepBut.of_below hb g none)
        replace HB := bs112_ hb
        replace HI0 := Aside0.mk (IsS112.below is112_ hb)
        clear hb ho0
        refine hK.out _ _ ⟨bq5_ BK291 0, bq5_ BK296 0, bq5_ BK296 1⟩ (fun hHeld => ?_)
        clear hK K
        refine nz_ 58 ?_
        refine pz_ 6 52 ba13_22 HT_ ?_
        refine pz_ 7 59 ba13_23 HT_ ?_
        refine pz_ 8 60 ba13_12 HT_ ?_
        exact norm_ (by simp only [putAll, Act.put, List.setIfInBounds_toArray, List.set_cons_zero, List.set_cons_succ]) (hCont (v327, gb330) _ ⟨hHeld, (by (with_reducible repeat (first | apply Kd.R_alloc | apply Kd.R_drewN | apply Kd.R_drew)); exact Kd.R_mono HO328.out (fun _ hk => hk.2)), (by (with_reducible repeat (first | apply Kd.R_alloc | apply Kd.R_drewN | apply Kd.R_drew)); exact Kd.R_mono HO_292000.out (fun _ hk => hk.2)), (bx_ BK290), (bx_ BK291), (bx_ BK296), (bx_ BK304), (bx_ BK310), (bx_ BK311), (bx_ BK330), GW330.out, GE330.out, NB0_330.out, NB330_0.out, NB290_330.out, NB330_290.out, NB291_330.out, NB330_291.out, NB296_330.out, NB330_296.out, NB304_330.out, NB330_304.out, NB310_330.out, NB330_310.out, NB311_330.out, NB330_311.out, (is112_), (kx_ HK), (bw112_)⟩)
      rintro ⟨v327, gb330⟩ w133 ⟨hS_, h0_, h1_, h2_, h3_, h4_, h5_, h6_, h7_, h8_, h9_, h10_, h11_, h12_, h13_, h14_, h15_, h16_, h17_, h18_, h19_, h20_, h21_, h22_, h23_, h24_, h25_, h26_, h27_⟩
      have HO328 : Aside0 (Kd.R k30 30 w133 w.heap.size (fun k_ => some k_ ≠ (.slice (some ad303) x292000_1.length co41 : Value).ownBlock) v327 t326) := ⟨h0_⟩
      have BK330 : Aside0 (w133.heap[gb330]? = some (.cells #[.slice none 0 0] 26 (0, 0))) := ⟨h8_⟩
      have GW330 : Aside0 (w.heap.size ≤ gb330) := ⟨h9_⟩
      have GE330 : Aside0 (w0.heap.size ≤ gb330) := ⟨h10_⟩
      have NB0_330 : Aside0 (g ≠ gb330) := ⟨h11_⟩
      have NB330_0 : Aside0 (gb330 ≠ g) := ⟨h12_⟩
      have NB290_330 : Aside0 (gb290 ≠ gb330) := ⟨h13_⟩
      have NB330_290 : Aside0 (gb330 ≠ gb290) := ⟨h14_⟩
      have NB291_330 : Aside0 (gb291 ≠ gb330) := ⟨h15_⟩
      have NB330_291 : Aside0 (gb330 ≠ gb291) := ⟨h16_⟩
      have NB296_330 : Aside0 (gb296 ≠ gb330) := ⟨h17_⟩
      have NB330_296 : Aside0 (gb330 ≠ gb296) := ⟨h18_⟩
      have NB304_330 : Aside0 (gb304 ≠ gb330) := ⟨h19_⟩
      have NB330_304 : Aside0 (gb330 ≠ gb304) := ⟨h20_⟩
      have NB310_330 : Aside0 (gb310 ≠ gb330) := ⟨h21_⟩
      have NB330_310 : Aside0 (gb330 ≠ gb310) := ⟨h22_⟩
      have NB311_330 : Aside0 (gb311 ≠ gb330) := ⟨h23_⟩
      have NB330_311 : Aside0 (gb330 ≠ gb311) := ⟨h24_⟩
      replace HO_292000 : Aside0 (Kd.R k30 30 w133 w.heap.size (fun k_ => some k_ ≠ (v327 : Value).ownBlock) (.slice (some ad303) x292000_1.length co41) x292000_1) := ⟨h1_⟩
      replace BK290 : Aside0 (w133.heap[gb290]? = some (.cells #[.slice none 0 0] 26 (0, 0))) := ⟨h2_⟩
      replace BK291 : Aside0 (w133.heap[gb291]? = some (.cells #[.slice (some ad303) x292000_1.length co41] 26 (0, 0))) := ⟨h3_⟩
      replace BK296 : Aside0 (w133.heap[gb296]? = some (.cells #[.int .i64 t305, .int .i64 t306] 28 (0, 0))) := ⟨h4_⟩
      replace BK304 : Aside0 (w133.heap[gb304]? = some (.cells #[.int .i64 ((rd_T30 x292000_1 t300).f0.f0), .int .i64 ((rd_T30 x292000_1 t300).f0.f1)] 28 (0, 0))) := ⟨h5_⟩
      replace BK310 : Aside0 (w133.heap[gb310]? = some (.cells #[.int .i64 t305, .int .i64 t306] 28 (0, 0))) := ⟨h6_⟩
      replace BK311 : Aside0 (w133.heap[gb311]? = some (.cells #[.int .i64 t307, .int .i64 t308] 28 (0, 0))) := ⟨h7_⟩
      replace HI0 : Aside0 (IsS112 w0 w133 g s0_0 t324 t325) := ⟨h25_⟩
      replace HK : Aside0 (KeepBut w w133 g none) := ⟨h26_⟩
      replace HB : Aside0 (Below w0.heap.size w0 w133) := ⟨h27_⟩
      clear h0_ h1_ h2_ h3_ h4_ h5_ h6_ h7_ h8_ h9_ h10_ h11_ h12_ h13_ h14_ h15_ h16_ h17_ h18_ h19_ h20_ h21_ h22_ h23_ h24_ h25_ h26_ h27_
      have hHeld : w133.cell? ⟨gb291, 0, none⟩ = some (.slice (some ad303) x292000_1.length co41) ∧ w133.cell? ⟨gb296, 0, none⟩ = some (.int .i64 t305) ∧ w133.cell? ⟨gb296, 1, none⟩ = some (.int .i64 t306) := hS_
      obtain ⟨Ao134, co134, eo134⟩ := Kd.R_slice HO328.out
      subst eo134
      refine norm_ (a' := ?_) ?_ ?_
      rotate_left; · simp only [putAll, Act.put, List.setIfInBounds_toArray, List.set_cons_zero, List.set_cons_succ]; rfl
      refine on_ 10 none ba13_7 HT_ (fun K hK => ?_)
      have hs135 : w133.cell? ⟨gb330, 0, none⟩ = some (.slice none 0 0) := bq5_ BK330 0
      have hfs135 := fz_ BK330 0
      have hns135_0 := NB290_330.out
      have hns135_1 := NB291_330.out
      have hns135_2 := NB296_330.out
      have hns135_3 := NB304_330.out
      have hns135_4 := NB310_330.out
      have hns135_5 := NB311_330.out
      have hms135_0 := NB330_290.out
      have hms135_1 := NB330_291.out
      have hms135_2 := NB330_296.out
      have hms135_3 := NB330_304.out
      have hms135_4 := NB330_310.out
      have hms135_5 := NB330_311.out
      refine skip_ (w1 := ?_) (by rfl) rfl ?_ ?_
      rotate_left; · go_simp; rfl
      refine hK.out _ _ ⟨((cell_far (p := ⟨gb330, _, none⟩) NB291_330.out _).trans (hHeld.1)), ((cell_far (p := ⟨gb330, _, none⟩) NB296_330.out _).trans (hHeld.2.1)), ((cell_far (p := ⟨gb330, _, none⟩) NB296_330.out _).trans (hHeld.2.2))⟩ (fun hHeld => ?_)
      clear hK K
      refine pz_ 11 13 ba13_16 HT_ ?_
      refine done_ (done_of HT_.out (by kernel_rfl)) ?_
      have hnb136 := NB330_290.out
      have hnc136 := NB290_330.out
      have hnb137 := NB330_291.out
      have hnc137 := NB291_330.out
      have hnb138 := NB330_296.out
      have hnc138 := NB296_330.out
      have hnb139 := NB330_304.out
      have hnc139 := NB304_330.out
      have hnb140 := NB330_310.out
      have hnc140 := NB310_330.out
      have hnb141 := NB330_311.out
      have hnc141 := NB311_330.out
      have hnb142 := NB330_0.out
      have hnc142 := NB0_330.out
      have hcz143_0 := cz_ BK330 0 (.slice none 0 0)
      have hfz143_0 := fz_ BK330 0
      have hnb144 := NB291_290.out
      have hnc144 := NB290_291.out
      have hnb145 := NB291_0.out
      have hnc145 := NB0_291.out
      have hcz146_0 := cz_ BK291 0 (.slice (some ad303) x292000_1.length co41)
      have hfz146_0 := fz_ BK291 0
      go_wp2
      go_roundg kj9
      case measure => have := HK1.out; have := HJ9.out; omega
      case rel => exact ⟨(wrap64 (x6_1 + 1)), (t324), (t325), (t326), (.slice Ao134 t326.length co134), er_, H', ⟨by have := HK1.out; have := HJ9.out; omega⟩, ⟨by (with_reducible repeat (first | apply Kd.R_alloc | apply Kd.R_drewN | apply Kd.R_drew)); exact Kd.R_mono (Kd.R_far (Kd.R_far (Kd.R_types (Kd.R_types HO328.out BK330.out (by decide)) BK291.out (by decide)) (fun _ hk => hk.1.2) _) (fun _ hk => hk.2) _) (fun _ hk => trivial)⟩, ⟨bc_ BK290⟩, ⟨by refine bd_ ?_; refine blk_put (cs := #[.slice (some ad303) x292000_1.length co41]) ?_ 0 _ rfl; refine bd_ ?_; refine blk_far ?_ NB291_330.out _; refine bd_ ?_; exact BK291.out⟩, ⟨is112_⟩, ⟨kx_ HK⟩, ⟨bw112_⟩⟩
     subst c37
     rw [if_pos rfl] at H
     obtain ⟨⟨t315, t316, t317⟩, A38, H⟩ := ob_ H
     obtain ⟨⟨t318, t321⟩, A39, H⟩ := ob_ H
     have H' := Aside0.mk H
     clear H
     refine skip_ (w1 := ?_) (by rfl) rfl ?_ ?_
     rotate_left; · go_simp; rfl
     refine hK.out _ _ ⟨((cell_far (p := ⟨gb304, _, none⟩) NB291_304.out _).trans (((cell_far (p := ⟨gb304, _, none⟩) NB291_304.out _).trans (hHeld.1)))), ((cell_far (p := ⟨gb304, _, none⟩) (by first | exact Kd.own_blk (Kd.R_ne HO_292000.out BK304.out (by decide)) | (rw [add_block]; exact Kd.own_blk (Kd.R_ne HO_292000.out BK304.out (by decide))) | (show (Addr.add _ _).block ≠ _; rw [add_block]; exact Kd.own_blk (Kd.R_ne HO_292000.out BK304.out (by decide))) | (dsimp only; exact Kd.own_blk (Kd.R_ne HO_292000.out BK304.out (by decide)))) _).trans (((cell_far (p := ⟨gb304, _, none⟩) (by first | exact Kd.own_blk (Kd.R_ne HO_292000.out BK304.out (by decide)) | (rw [add_block]; exact Kd.own_blk (Kd.R_ne HO_292000.out BK304.out (by decide))) | (show (Addr.add _ _).block ≠ _; rw [add_block]; exact Kd.own_blk (Kd.R_ne HO_292000.out BK304.out (by decide))) | (dsimp only; exact Kd.own_blk (Kd.R_ne HO_292000.out BK304.out (by decide)))) _).trans (hHeld.2.1)))), ((cell_far (p := ⟨gb304, _, none⟩) (by first | exact Kd.own_blk (Kd.R_ne HO_292000.out BK304.out (by decide)) | (rw [add_block]; exact Kd.own_blk (Kd.R_ne HO_292000.out BK304.out (by decide))) | (show (Addr.add _ _).block ≠ _; rw [add_block]; exact Kd.own_blk (Kd.R_ne HO_292000.out BK304.out (by decide))) | (dsimp only; exact Kd.own_blk (Kd.R_ne HO_292000.out BK304.out (by decide)))) _).trans (((cell_far (p := ⟨gb304, _, none⟩) (by first | exact Kd.own_blk (Kd.R_ne HO_292000.out BK304.out (by decide)) | (rw [add_block]; exact Kd.own_blk (Kd.R_ne HO_292000.out BK304.out (by decide))) | (show (Addr.add _ _).block ≠ _; rw [add_block]; exact Kd.own_blk (Kd.R_ne HO_292000.out BK304.out (by decide))) | (dsimp only; exact Kd.own_blk (Kd.R_ne HO_292000.out BK304.out (by decide)))) _).trans (hHeld.2.2.1)))), ((cell_far (p := ⟨gb304, _, none⟩) (by first | exact Kd.own_blk (Kd.R_ne HO_292000.out BK304.out (by decide)) | (rw [add_block]; exact Kd.own_blk (Kd.R_ne HO_292000.out BK304.out (by decide))) | (show (Addr.add _ _).block ≠ _; rw [add_block]; exact Kd.own_blk (Kd.R_ne HO_292000.out BK304.out (by decide))) | (dsimp only; exact Kd.own_blk (Kd.R_ne HO_292000.out BK304.out (by decide)))) _).trans (((cell_far (p := ⟨gb304, _, none⟩) (by first | exact Kd.own_blk (Kd.R_ne HO_292000.out BK304.out (by decide)) | (rw [add_block]; exact Kd.own_blk (Kd.R_ne HO_292000.out BK304.out (by decide))) | (show (Addr.add _ _).block ≠ _; rw [add_block]; exact Kd.own_blk (Kd.R_ne HO_292000.out BK304.out (by decide))) | (dsimp only; exact Kd.own_blk (Kd.R_ne HO_292000.out BK304.out (by decide)))) _).trans (hHeld.2.2.2))))⟩ (fun hHeld => ?_)
     clear hK K
     refine done_ (done_of HT_.out (by kernel_rfl)) ?_
     have hnb47 := NB304_290.out
     have hnc47 := NB290_304.out
     have hnb48 := NB304_291.out
     have hnc48 := NB291_304.out
     have hnb49 := NB304_296.out
     have hnc49 := NB296_304.out
     have hnb50 := NB304_0.out
     have hnc50 := NB0_304.out
     have hcz51_0 := cz_ BK304 0 (.int .i64 0)
     have hcz51_1 := cz_ BK304 1 (.int .i64 0)
     have hfz51_0 := fz_ BK304 0
     have hfz51_1 := fz_ BK304 1
     try go_wp2_with (first | ((with_reducible refine gate_callee (f := 95) rfl ?_); refine gl_ (some 43) Try.func95 #[.agg #[.int .i64 ((rd_T30 x292000_1 t300).f0.f0), .int .i64 ((rd_T30 x292000_1 t300).f0.f1)]] ?_; (with_reducible refine (spec_Halves.calls ((rd_T30 x292000_1 t300).f0.f0) ((rd_T30 x292000_1 t300).f0.f1) t305 t306 t307 t308 true _ A34.out).mono ?_); rintro e w52 ⟨rfl, hb⟩; refine ⟨_, rfl, ?_⟩; replace HO_292000 := rs_ HO_292000 BK304 hb; replace BK290 := bf_ BK290 NB290_304 hb; replace BK291 := bf_ BK291 NB291_304 hb; replace BK296 := bf_ BK296 NB296_304 hb; replace BK304 := Aside0.mk (blk_below (g := gb304) (o := .cells #[.int .i64 ((rd_T30 x292000_1 t300).f0.f0), .int .i64 ((rd_T30 x292000_1 t300).f0.f1)] 28 (0, 0)) (by refine bd_ ?_; refine blk_put (cs := #[.int .i64 ((rd_T30 x292000_1 t300).f0.f0), .int .i64 0]) ?_ 1 _ rfl; refine bd_ ?_; refine blk_put (cs := #[.int .i64 0, .int .i64 0]) ?_ 0 _ rfl; refine bd_ ?_; exact BK304.out) hb); replace HK := kt_ HK (KeepBut.of_below hb g none); replace HB := bs112_ hb; replace HI0 := Aside0.mk (IsS112.below (show IsS112 w0 ((w44.setCell ⟨gb304, 0, none⟩ (.int .i64 ((rd_T30 x292000_1 t300).f0.f0))).setCell ⟨gb304, 1, none⟩ (.int .i64 ((rd_T30 x292000_1 t300).f0.f1))) g s0_0 t301 t302 from is112_) hb); clear hb) | ((with_reducible refine gate_dst (N := 9) rfl ?_); refine be_ 9 #[.int .i64 0, .int .i64 0] 28 ?_; intro gb310 hg w53 BK310 hb; have GW310 := gw_ HK hg; have GE310 := gv_ HW0 HK hg; have NB290_310 := nl_ BK290 hg; have NB310_290 := ng_ BK290 hg; have NB291_310 := nl_ BK291 hg; have NB310_291 := ng_ BK291 hg; have NB296_310 := nl_ BK296 hg; have NB310_296 := ng_ BK296 hg; have NB304_310 := nl_ BK304 hg; have NB310_304 := ng_ BK304 hg; have NB0_310 := Aside0.mk ((by rw [hg]; exact Nat.ne_of_lt (IsS112.lt (show IsS112 w0 _ g s0_0 t301 t302 from is112_)) : g ≠ gb310)); have NB310_0 := Aside0.mk ((by rw [hg]; exact Nat.ne_of_gt (IsS112.lt (show IsS112 w0 _ g s0_0 t301 t302 from is112_)) : gb310 ≠ g)); replace HO_292000 := rb_ HO_292000 hb; replace HB := bs112_ hb; replace HK := kt_ HK (KeepBut.of_below hb g none); replace BK290 := ab_ BK290 hb; replace BK291 := ab_ BK291 hb; replace BK296 := ab_ BK296 hb; replace BK304 := ab_ BK304 hb; replace HI0 := Aside0.mk (IsS112.below is112_ hb); clear hb hg) | ((with_reducible refine gate_dst (N := 10) rfl ?_); refine be_ 10 #[.int .i64 0, .int .i64 0] 28 ?_; intro gb311 hg w54 BK311 hb; have GW311 := gw_ HK hg; have GE311 := gv_ HW0 HK hg; have NB290_311 := nl_ BK290 hg; have NB311_290 := ng_ BK290 hg; have NB291_311 := nl_ BK291 hg; have NB311_291 := ng_ BK291 hg; have NB296_311 := nl_ BK296 hg; have NB311_296 := ng_ BK296 hg; have NB304_311 := nl_ BK304 hg; have NB311_304 := ng_ BK304 hg; have NB310_311 := nl_ BK310 hg; have NB311_310 := ng_ BK310 hg; have NB0_311 := Aside0.mk ((by rw [hg]; exact Nat.ne_of_lt (IsS112.lt (show IsS112 w0 _ g s0_0 t301 t302 from is112_)) : g ≠ gb311)); have NB311_0 := Aside0.mk ((by rw [hg]; exact Nat.ne_of_gt (IsS112.lt (show IsS112 w0 _ g s0_0 t301 t302 from is112_)) : gb311 ≠ g)); replace HO_292000 := rb_ HO_292000 hb; replace HB := bs112_ hb; replace HK := kt_ HK (KeepBut.of_below hb g none); replace BK290 := ab_ BK290 hb; replace BK291 := ab_ BK291 hb; replace BK296 := ab_ BK296 hb; replace BK304 := ab_ BK304 hb; replace BK310 := ab_ BK310 hb; replace HI0 := Aside0.mk (IsS112.below is112_ hb); clear hb hg; have hnb55 := NB310_290.out; have hnc55 := NB290_310.out; have hnb56 := NB310_291.out; have hnc56 := NB291_310.out; have hnb57 := NB310_296.out; have hnc57 := NB296_310.out; have hnb58 := NB310_304.out; have hnc58 := NB304_310.out; have hnb59 := NB310_311.out; have hnc59 := NB311_310.out; have hnb60 := NB310_0.out; have hnc60 := NB0_310.out; have hcz61_0 := cz_ BK310 0 (.int .i64 0); have hcz61_1 := cz_ BK310 1 (.int .i64 0); have hfz61_0 := fz_ BK310 0; have hfz61_1 := fz_ BK310 1; have hnb62 := NB311_290.out; have hnc62 := NB290_311.out; have hnb63 := NB311_291.out; have hnc63 := NB291_311.out; have hnb64 := NB311_296.out; have hnc64 := NB296_311.out; have hnb65 := NB311_304.out; have hnc65 := NB304_311.out; have hnb66 := NB311_0.out; have hnc66 := NB0_311.out; have hcz67_0 := cz_ BK311 0 (.int .i64 0); have hcz67_1 := cz_ BK311 1 (.int .i64 0); have hfz67_0 := fz_ BK311 0; have hfz67_1 := fz_ BK311 1; have hnb68 := NB296_290.out; have hnc68 := NB290_296.out; have hnb69 := NB296_291.out; have hnc69 := NB291_296.out; have hnb70 := NB296_0.out; have hnc70 := NB0_296.out; have hcz71_0 := cz_ BK296 0 (.int .i64 t292); have hcz71_1 := cz_ BK296 1 (.int .i64 t293); have hfz71_0 := fz_ BK296 0; have hfz71_1 := fz_ BK296 1) | ((with_reducible refine gate_callee (f := 81) rfl ?_); refine gl_ (some 50) Try.func81 #[.pointer (some ⟨g, 0, none⟩), .int .i64 2] ?_; (with_reducible refine (spec_l01Once.calls g s0_0 t301 t302 2 true t313 t314 w0 _ ?side1 ?side2 A36.out).mono ?_); (case side1 => exact is112_); (case side2 => exact bw112_); rintro e w72 ⟨rfl, hi, hb, hk⟩; refine ⟨_, rfl, ?_⟩; replace HO_292000 := Aside0.mk (Kd.R_mono (Kd.R_keep (IsS112.apart (show IsS112 w0 _ g s0_0 t301 t302 from is112_) (by (with_reducible repeat (first | apply Kd.R_alloc | apply Kd.R_drewN | apply Kd.R_drew)); exact (Kd.R_mono (Kd.R_mono (Kd.R_mono (Kd.R_far (Kd.R_far (Kd.R_far (Kd.R_far (Kd.R_far (Kd.R_far (Kd.R_types (Kd.R_types (Kd.R_types HO_292000.out BK310.out (by decide)) BK311.out (by decide)) BK296.out (by decide)) (fun _ hk => hk.1.1.2) _) (fun _ hk => hk.1.1.2) _) (fun _ hk => hk.1.2) _) (fun _ hk => hk.1.2) _) (fun _ hk => hk.2) _) (fun _ hk => hk.2) _) (fun _ h_ => h_.1)) (fun _ h_ => h_.1)) (fun _ h_ => h_.1))) (by decide)) hk (fun _ h => h.2)) (fun _ h => h.1)); replace BK290 := kc_ BK290 NB290_0 hk; replace BK291 := kc_ BK291 NB291_0 hk; replace BK296 := Aside0.mk (KeepBut.blk hk (g' := gb296) (o := .cells #[.int .i64 t305, .int .i64 t306] 28 (0, 0)) (by refine bd_ ?_; refine blk_put (cs := #[.int .i64 t305, .int .i64 t293]) ?_ 1 _ rfl; refine bd_ ?_; refine blk_put (cs := #[.int .i64 t292, .int .i64 t293]) ?_ 0 _ rfl; refine bd_ ?_; refine blk_far ?_ NB296_311.out _; refine bd_ ?_; refine blk_far ?_ NB296_311.out _; refine bd_ ?_; refine blk_far ?_ NB296_310.out _; refine bd_ ?_; refine blk_far ?_ NB296_310.out _; refine bd_ ?_; exact BK296.out) NB296_0.out (by simp)); replace BK304 := kc_ BK304 NB304_0 hk; replace BK310 := Aside0.mk (KeepBut.blk hk (g' := gb310) (o := .cells #[.int .i64 t305, .int .i64 t306] 28 (0, 0)) (by refine bd_ ?_; refine blk_far ?_ NB310_296.out _; refine bd_ ?_; refine blk_far ?_ NB310_296.out _; refine bd_ ?_; refine blk_far ?_ NB310_311.out _; refine bd_ ?_; refine blk_far ?_ NB310_311.out _; refine bd_ ?_; refine blk_put (cs := #[.int .i64 t305, .int .i64 0]) ?_ 1 _ rfl; refine bd_ ?_; refine blk_put (cs := #[.int .i64 0, .int .i64 0]) ?_ 0 _ rfl; refine bd_ ?_; exact BK310.out) NB310_0.out (by simp)); replace BK311 := Aside0.mk (KeepBut.blk hk (g' := gb311) (o := .cells #[.int .i64 t307, .int .i64 t308] 28 (0, 0)) (by refine bd_ ?_; refine blk_far ?_ NB311_296.out _; refine bd_ ?_; refine blk_far ?_ NB311_296.out _; refine bd_ ?_; refine blk_put (cs := #[.int .i64 t307, .int .i64 0]) ?_ 1 _ rfl; refine bd_ ?_; refine blk_put (cs := #[.int .i64 0, .int .i64 0]) ?_ 0 _ rfl; refine bd_ ?_; refine blk_far ?_ NB311_310.out _; refine bd_ ?_; refine blk_far ?_ NB311_310.out _; refine bd_ ?_; exact BK311.out) NB311_0.out (by simp)); replace HK := kt_ HK hk; replace HB := Aside0.mk (hb); replace HI0 := Aside0.mk (hi); clear hb hk hi; have hcz73_0 := cz_ BK311 0 (.int .i64 t307); have hcz73_1 := cz_ BK311 1 (.int .i64 t308); have hfz73_0 := fz_ BK311 0; have hfz73_1 := fz_ BK311 1; have hcz74_0 := cz_ BK296 0 (.int .i64 t305); have hcz74_1 := cz_ BK296 1 (.int .i64 t306); have hfz74_0 := fz_ BK296 0; have hfz74_1 := fz_ BK296 1))
     generalize hW_ : ((w72.setCell ⟨gb296, 0, none⟩ (.int .i64 t307)).setCell ⟨gb296, 1, none⟩ (.int .i64 t308)) = w75
     have n0_ : Aside0 (Kd.R k30 30 w75 w.heap.size (fun _ => True) (.slice (some ad303) x292000_1.length co41) x292000_1) := by subst hW_; exact ⟨by (with_reducible repeat (first | apply Kd.R_alloc | apply Kd.R_drewN | apply Kd.R_drew)); exact Kd.R_mono (Kd.R_far (Kd.R_far (Kd.R_types HO_292000.out BK296.out (by decide)) (fun _ hk => hk.2) _) (fun _ hk => hk.2) _) (fun _ hk => trivial)⟩
     have n1_ : Aside0 (w75.heap[gb290]? = some (.cells #[.slice none 0 0] 26 (0, 0))) := by subst hW_; exact ⟨bc_ BK290⟩
     have n2_ : Aside0 (w75.heap[gb291]? = some (.cells #[.slice (some ad303) x292000_1.length co41] 26 (0, 0))) := by subst hW_; exact ⟨bc_ BK291⟩
     have n3_ : Aside0 (w75.heap[gb296]? = some (.cells #[.int .i64 t307, .int .i64 t308] 28 (0, 0))) := by subst hW_; exact ⟨by refine bd_ ?_; refine blk_put (cs := #[.int .i64 t307, .int .i64 t306]) ?_ 1 _ rfl; refine bd_ ?_; refine blk_put (cs := #[.int .i64 t305, .int .i64 t306]) ?_ 0 _ rfl; refine bd_ ?_; exact BK296.out⟩
     have n4_ : Aside0 (w75.heap[gb304]? = some (.cells #[.int .i64 ((rd_T30 x292000_1 t300).f0.f0), .int .i64 ((rd_T30 x292000_1 t300).f0.f1)] 28 (0, 0))) := by subst hW_; exact ⟨bc_ BK304⟩
     have n5_ : Aside0 (w75.heap[gb310]? = some (.cells #[.int .i64 t305, .int .i64 t306] 28 (0, 0))) := by subst hW_; exact ⟨bc_ BK310⟩
     have n6_ : Aside0 (w75.heap[gb311]? = some (.cells #[.int .i64 t307, .int .i64 t308] 28 (0, 0))) := by subst hW_; exact ⟨bc_ BK311⟩
     have n7_ : Aside0 (IsS112 w0 w75 g s0_0 t313 t314) := by subst hW_; exact ⟨is112_⟩
     have n8_ : Aside0 (KeepBut w w75 g none) := by subst hW_; exact ⟨kx_ HK⟩
     have n9_ : Aside0 (Below w0.heap.size w0 w75) := by subst hW_; exact ⟨bw112_⟩
     clear hW_ HO_292000 BK290 BK291 BK296 BK304 BK310 BK311 HI0 HK HB
     have HO_292000 := n0_
     have BK290 := n1_
     have BK291 := n2_
     have BK296 := n3_
     have BK304 := n4_
     have BK310 := n5_
     have BK311 := n6_
     have HI0 := n7_
     have HK := n8_
     have HB := n9_
     clear n0_ n1_ n2_ n3_ n4_ n5_ n6_ n7_ n8_ n9_
     replace HO_292000 := Aside0.mk (Kd.R_drew HO_292000.out)
     replace BK290 := ad_ BK290
     replace BK291 := ad_ BK291
     replace BK296 := ad_ BK296
     replace BK304 := ad_ BK304
     replace BK310 := ad_ BK310
     replace BK311 := ad_ BK311
     replace HI0 := Aside0.mk (IsS112.drew HI0.out)
     replace HK := Aside0.mk (keep_drew HK.out)
     replace HB := Aside0.mk (below_drew1 HB.out)
     refine start_ (n := 12) (S := fun w' => w'.cell? ⟨gb291, 0, none⟩ = some (.slice (some ad303) x292000_1.length co41) ∧ w'.cell? ⟨gb296, 0, none⟩ = some (.int .i64 t307) ∧ w'.cell? ⟨gb296, 1, none⟩ = some (.int .i64 t308)) (ds := []) ba13_0 (by kernel_rfl) rfl rfl ⟨bq5_ BK291 0, bq5_ BK296 0, bq5_ BK296 1⟩ (fun hHeld => ?_); refine with_tabW spec_l02DrawTable.tab13 spec_l02DrawTable.bits13 (fun HT_ HW_ => ?_)
     generalize w75.drew = w76 at HO_292000 BK290 BK291 BK296 BK304 BK310 BK311 HI0 HK HB hHeld ⊢
     refine pz_ 2 55 ba13_17 HT_ ?_
     refine pt_ 0 53 ba13_2 HT_ HW_ hHeld ?_
     refine pt_ 1 54 ba13_18 HT_ HW_ hHeld ?_
     refine join_ (σ := Value × Nat) 2 ba13_12 (fun s_ => [(56, .int .i64 t315), (58, .tuple #[.agg #[s_.1], .bool t321]), (12, .pointer (some ⟨s_.2, 0, none⟩)), (57, .agg #[.int .i64 t307, .int .i64 t308, .int .i64 t315]), (52, .tuple #[.agg #[s_.1], .bool t321]), (59, .agg #[s_.1]), (60, .bool t321)]) (fun s_ w' => (w'.cell? ⟨gb291, 0, none⟩ = some (.slice (some ad303) x292000_1.length co41) ∧ w'.cell? ⟨gb296, 0, none⟩ = some (.int .i64 t307) ∧ w'.cell? ⟨gb296, 1, none⟩ = some (.int .i64 t308)) ∧ (Kd.R k30 30 w' w.heap.size (fun k_ => some k_ ≠ (.slice (some ad303) x292000_1.length co41 : Value).ownBlock) s_.1 t318) ∧ (Kd.R k30 30 w' w.heap.size (fun k_ => some k_ ≠ (s_.1 : Value).ownBlock) (.slice (some ad303) x292000_1.length co41) x292000_1) ∧ (w'.heap[gb290]? = some (.cells #[.slice none 0 0] 26 (0, 0))) ∧ (w'.heap[gb291]? = some (.cells #[.slice (some ad303) x292000_1.length co41] 26 (0, 0))) ∧ (w'.heap[gb296]? = some (.cells #[.int .i64 t307, .int .i64 t308] 28 (0, 0))) ∧ (w'.heap[gb304]? = some (.cells #[.int .i64 ((rd_T30 x292000_1 t300).f0.f0), .int .i64 ((rd_T30 x292000_1 t300).f0.f1)] 28 (0, 0))) ∧ (w'.heap[gb310]? = some (.cells #[.int .i64 t305, .int .i64 t306] 28 (0, 0))) ∧ (w'.heap[gb311]? = some (.cells #[.int .i64 t307, .int .i64 t308] 28 (0, 0))) ∧ (w'.heap[s_.2]? = some (.cells #[.slice none 0 0] 26 (0, 0))) ∧ (w.heap.size ≤ s_.2) ∧ (w0.heap.size ≤ s_.2) ∧ (g ≠ s_.2) ∧ (s_.2 ≠ g) ∧ (gb290 ≠ s_.2) ∧ (s_.2 ≠ gb290) ∧ (gb291 ≠ s_.2) ∧ (s_.2 ≠ gb291) ∧ (gb296 ≠ s_.2) ∧ (s_.2 ≠ gb296) ∧ (gb304 ≠ s_.2) ∧ (s_.2 ≠ gb304) ∧ (gb310 ≠ s_.2) ∧ (s_.2 ≠ gb310) ∧ (gb311 ≠ s_.2) ∧ (s_.2 ≠ gb311) ∧ (IsS112 w0 w' g s0_0 t316 t317) ∧ (KeepBut w w' g none) ∧ (Below w0.heap.size w0 w')) ?_ ?_
     rotate_left
     ·intro hCont
      refine two_ (i := 3) (j := 9) (Ni := some 56) (Nj := some 12) ba13_4 ba13_19 rfl rfl rfl rfl (two_of HT_.out (by kernel_rfl)) (by decide) (by decide) (fun K hK => ?_) (fun K hK => ?_)
      ·skip
       refine gz_ Try.func44 #[.pointer (some ⟨g, 0, none⟩), .int .i64 4] ?_
       with_reducible refine (spec_l01Below.calls g s0_0 t313 t314 4 t315 t316 t317 w0 _ ?side1 ?side2 A38.out).mono ?_
       (case side1 => exact is112_)
       (case side2 => exact bw112_)
       rintro e w77 ⟨rfl, hi, hb, hk⟩
       refine ⟨_, rfl, ?_⟩
       replace HO_292000 := ak112_ HO_292000 (show IsS112 w0 _ g s0_0 t313 t314 from is112_) hk
       replace BK290 := kb_ BK290 NB290_0 hk
       replace BK291 := kb_ BK291 NB291_0 hk
       replace BK296 := kb_ BK296 NB296_0 hk
       replace BK304 := kb_ BK304 NB304_0 hk
       replace BK310 := kb_ BK310 NB310_0 hk
       replace BK311 := kb_ BK311 NB311_0 hk
       replace HK := kt_ HK hk
       replace HB := Aside0.mk (hb)
       replace HI0 := Aside0.mk (hi)
       clear hb hk hi
       refine hK.out _ _ ⟨bq5_ BK291 0, bq5_ BK296 0, bq5_ BK296 1⟩ (fun hHeld => ?_)
       clear hK K
       refine nz_ 56 ?_
       refine pz_ 4 57 ba13_5 HT_ ?_
       refine two_ (i := 5) (j := 9) (Ni := some 58) (Nj := some 12) ba13_6 ba13_20 rfl rfl rfl rfl (two_of HT_.out (by kernel_rfl)) (by decide) (by decide) (fun K hK => ?_) (fun K hK => ?_)
       ·skip
        refine gz_ Try.func10 #[.agg #[.slice (some ad303) x292000_1.length co41], .agg #[.int .i64 t307, .int .i64 t308, .int .i64 t315]] ?_
        with_reducible refine (spec_PutRoute.calls kj9 _ _ x292000_1 t307 t308 t315 t318 t321 _ ?side1 ?side2 A39.out).mono ?_
        (case side1 => exact rc_ HO_292000)
        (case side2 => exact (Kd.R_reads' HO_292000.out).2.1)
        rintro e w78 ⟨v319, rfl, ho0, hb⟩
        refine ⟨_, rfl, ?_⟩
        have HO320 := Aside0.mk (Kd.R_lower (Kd.R_new' ho0 (Kd.R_lt (hd_ HO_292000))) (keep_size (w := w) (g := g) (row := none) (kx_ HK)))
        replace HO_292000 := Aside0.mk (Kd.R_elder' (hd_ HO_292000) (Kd.R_base ho0) hb)
        replace BK290 := ab_ BK290 hb
        replace BK291 := ab_ BK291 hb
        replace BK296 := ab_ BK296 hb
        replace BK304 := ab_ BK304 hb
        replace BK310 := ab_ BK310 hb
        replace BK311 := ab_ BK311 hb
        replace HK := kt_ HK (KeepBut.of_below hb g none)
        replace HB := bs112_ hb
        replace HI0 := Aside0.mk (IsS112.below is112_ hb)
        clear hb ho0
        refine hK.out _ _ ⟨bq5_ BK291 0, bq5_ BK296 0, bq5_ BK296 1⟩ (fun hHeld => ?_)
        clear hK K
        refine nz_ 58 ?_
        refine pz_ 6 52 ba13_8 HT_ ?_
        refine pz_ 7 59 ba13_10 HT_ ?_
        refine pz_ 8 60 ba13_11 HT_ ?_
        refine on_ 9 (some 12) ba13_12 HT_ (fun K hK => ?_)
        refine box_step ?hg (N := 12) ?hd (cs := #[.slice none 0 0]) (t := 26) ?hr ?_; (case hd => rfl); (case hg => rfl); (case hr => first | (go_simp; done) | (go_simp; rfl))
        intro gb322 hg w79 hbox hb
        have BK322 := Aside0.mk hbox
        have GW322 := gw_ HK hg
        have GE322 := gv_ HW0 HK hg
        have NB290_322 := nl_ BK290 hg
        have NB322_290 := ng_ BK290 hg
        have NB291_322 := nl_ BK291 hg
        have NB322_291 := ng_ BK291 hg
        have NB296_322 := nl_ BK296 hg
        have NB322_296 := ng_ BK296 hg
        have NB304_322 := nl_ BK304 hg
        have NB322_304 := ng_ BK304 hg
        have NB310_322 := nl_ BK310 hg
        have NB322_310 := ng_ BK310 hg
        have NB311_322 := nl_ BK311 hg
        have NB322_311 := ng_ BK311 hg
        have NB0_322 := Aside0.mk ((by rw [hg]; exact Nat.ne_of_lt (IsS112.lt (show IsS112 w0 _ g s0_0 t316 t317 from is112_)) : g ≠ gb322))
        have NB322_0 := Aside0.mk ((by rw [hg]; exact Nat.ne_of_gt (IsS112.lt (show IsS112 w0 _ g s0_0 t316 t317 from is112_)) : gb322 ≠ g))
        replace HO_292000 := rb_ HO_292000 hb
        replace HO320 := rb_ HO320 hb
        replace HB := bs112_ hb
        replace HK := kt_ HK (KeepBut.of_below hb g none)
        replace BK290 := ab_ BK290 hb
        replace BK291 := ab_ BK291 hb
        replace BK296 := ab_ BK296 hb
        replace BK304 := ab_ BK304 hb
        replace BK310 := ab_ BK310 hb
        replace BK311 := ab_ BK311 hb
        replace HI0 := Aside0.mk (IsS112.below is112_ hb)
        clear hb hbox hg
        refine hK.out _ _ ⟨bq5_ BK291 0, bq5_ BK296 0, bq5_ BK296 1⟩ (fun hHeld => ?_)
        clear hK K
        refine nz_ 12 ?_
        exact norm_ (by simp only [putAll, Act.put, List.setIfInBounds_toArray, List.set_cons_zero, List.set_cons_succ]) (hCont (v319, gb322) _ ⟨hHeld, (by (with_reducible repeat (first | apply Kd.R_alloc | apply Kd.R_drewN | apply Kd.R_drew)); exact Kd.R_mono HO320.out (fun _ hk => hk.2)), (by (with_reducible repeat (first | apply Kd.R_alloc | apply Kd.R_drewN | apply Kd.R_drew)); exact Kd.R_mono HO_292000.out (fun _ hk => hk.2)), (bx_ BK290), (bx_ BK291), (bx_ BK296), (bx_ BK304), (bx_ BK310), (bx_ BK311), (bx_ BK322), GW322.out, GE322.out, NB0_322.out, NB322_0.out, NB290_322.out, NB322_290.out, NB291_322.out, NB322_291.out, NB296_322.out, NB322_296.out, NB304_322.out, NB322_304.out, NB310_322.out, NB322_310.out, NB311_322.out, NB322_311.out, (is112_), (kx_ HK), (bw112_)⟩)
       ·skip
        refine box_step ?hg (N := 12) ?hd (cs := #[.slice none 0 0]) (t := 26) ?hr ?_; (case hd => rfl); (case hg => rfl); (case hr => first | (go_simp; done) | (go_simp; rfl))
        intro gb322 hg w78 hbox hb
        have BK322 := Aside0.mk hbox
        have GW322 := gw_ HK hg
        have GE322 := gv_ HW0 HK hg
        have NB290_322 := nl_ BK290 hg
        have NB322_290 := ng_ BK290 hg
        have NB291_322 := nl_ BK291 hg
        have NB322_291 := ng_ BK291 hg
        have NB296_322 := nl_ BK296 hg
        have NB322_296 := ng_ BK296 hg
        have NB304_322 := nl_ BK304 hg
        have NB322_304 := ng_ BK304 hg
        have NB310_322 := nl_ BK310 hg
        have NB322_310 := ng_ BK310 hg
        have NB311_322 := nl_ BK311 hg
        have NB322_311 := ng_ BK311 hg
        have NB0_322 := Aside0.mk ((by rw [hg]; exact Nat.ne_of_lt (IsS112.lt (show IsS112 w0 _ g s0_0 t316 t317 from is112_)) : g ≠ gb322))
        have NB322_0 := Aside0.mk ((by rw [hg]; exact Nat.ne_of_gt (IsS112.lt (show IsS112 w0 _ g s0_0 t316 t317 from is112_)) : gb322 ≠ g))
        replace HO_292000 := rb_ HO_292000 hb
        replace HB := bs112_ hb
        replace HK := kt_ HK (KeepBut.of_below hb g none)
        replace BK290 := ab_ BK290 hb
        replace BK291 := ab_ BK291 hb
        replace BK296 := ab_ BK296 hb
        replace BK304 := ab_ BK304 hb
        replace BK310 := ab_ BK310 hb
        replace BK311 := ab_ BK311 hb
        replace HI0 := Aside0.mk (IsS112.below is112_ hb)
        clear hb hbox hg
        refine hK.out _ _ ⟨bq5_ BK291 0, bq5_ BK296 0, bq5_ BK296 1⟩ (fun hHeld => ?_)
        clear hK K
        refine nz_ 12 ?_
        refine on_ 5 (some 58) ba13_21 HT_ (fun K hK => ?_)
        refine gz_ Try.func10 #[.agg #[.slice (some ad303) x292000_1.length co41], .agg #[.int .i64 t307, .int .i64 t308, .int .i64 t315]] ?_
        with_reducible refine (spec_PutRoute.calls kj9 _ _ x292000_1 t307 t308 t315 t318 t321 _ ?side1 ?side2 A39.out).mono ?_
        (case side1 => exact rc_ HO_292000)
        (case side2 => exact (Kd.R_reads' HO_292000.out).2.1)
        rintro e w79 ⟨v319, rfl, ho0, hb⟩
        refine ⟨_, rfl, ?_⟩
        have HO320 := Aside0.mk (Kd.R_lower (Kd.R_new' ho0 (Kd.R_lt (hd_ HO_292000))) (keep_size (w := w) (g := g) (row := none) (kx_ HK)))
        replace HO_292000 := Aside0.mk (Kd.R_elder' (hd_ HO_292000) (Kd.R_base ho0) hb)
        replace BK290 := ab_ BK290 hb
        replace BK291 := ab_ BK291 hb
        replace BK296 := ab_ BK296 hb
        replace BK304 := ab_ BK304 hb
        replace BK310 := ab_ BK310 hb
        replace BK311 := ab_ BK311 hb
        replace BK322 := ab_ BK322 hb
        replace HK := kt_ HK (KeepBut.of_below hb g none)
        replace HB := bs112_ hb
        replace HI0 := Aside0.mk (IsS112.below is112_ hb)
        clear hb ho0
        refine hK.out _ _ ⟨bq5_ BK291 0, bq5_ BK296 0, bq5_ BK296 1⟩ (fun hHeld => ?_)
        clear hK K
        refine nz_ 58 ?_
        refine pz_ 6 52 ba13_22 HT_ ?_
        refine pz_ 7 59 ba13_23 HT_ ?_
        refine pz_ 8 60 ba13_12 HT_ ?_
        exact norm_ (by simp only [putAll, Act.put, List.setIfInBounds_toArray, List.set_cons_zero, List.set_cons_succ]) (hCont (v319, gb322) _ ⟨hHeld, (by (with_reducible repeat (first | apply Kd.R_alloc | apply Kd.R_drewN | apply Kd.R_drew)); exact Kd.R_mono HO320.out (fun _ hk => hk.2)), (by (with_reducible repeat (first | apply Kd.R_alloc | apply Kd.R_drewN | apply Kd.R_drew)); exact Kd.R_mono HO_292000.out (fun _ hk => hk.2)), (bx_ BK290), (bx_ BK291), (bx_ BK296), (bx_ BK304), (bx_ BK310), (bx_ BK311), (bx_ BK322), GW322.out, GE322.out, NB0_322.out, NB322_0.out, NB290_322.out, NB322_290.out, NB291_322.out, NB322_291.out, NB296_322.out, NB322_296.out, NB304_322.out, NB322_304.out, NB310_322.out, NB322_310.out, NB311_322.out, NB322_311.out, (is112_), (kx_ HK), (bw112_)⟩)
      ·skip
       refine box_step ?hg (N := 12) ?hd (cs := #[.slice none 0 0]) (t := 26) ?hr ?_; (case hd => rfl); (case hg => rfl); (case hr => first | (go_simp; done) | (go_simp; rfl))
       intro gb322 hg w77 hbox hb
       have BK322 := Aside0.mk hbox
       have GW322 := gw_ HK hg
       have GE322 := gv_ HW0 HK hg
       have NB290_322 := nl_ BK290 hg
       have NB322_290 := ng_ BK290 hg
       have NB291_322 := nl_ BK291 hg
       have NB322_291 := ng_ BK291 hg
       have NB296_322 := nl_ BK296 hg
       have NB322_296 := ng_ BK296 hg
       have NB304_322 := nl_ BK304 hg
       have NB322_304 := ng_ BK304 hg
       have NB310_322 := nl_ BK310 hg
       have NB322_310 := ng_ BK310 hg
       have NB311_322 := nl_ BK311 hg
       have NB322_311 := ng_ BK311 hg
       have NB0_322 := Aside0.mk ((by rw [hg]; exact Nat.ne_of_lt (IsS112.lt (show IsS112 w0 _ g s0_0 t313 t314 from is112_)) : g ≠ gb322))
       have NB322_0 := Aside0.mk ((by rw [hg]; exact Nat.ne_of_gt (IsS112.lt (show IsS112 w0 _ g s0_0 t313 t314 from is112_)) : gb322 ≠ g))
       replace HO_292000 := rb_ HO_292000 hb
       replace HB := bs112_ hb
       replace HK := kt_ HK (KeepBut.of_below hb g none)
       replace BK290 := ab_ BK290 hb
       replace BK291 := ab_ BK291 hb
       replace BK296 := ab_ BK296 hb
       replace BK304 := ab_ BK304 hb
       replace BK310 := ab_ BK310 hb
       replace BK311 := ab_ BK311 hb
       replace HI0 := Aside0.mk (IsS112.below is112_ hb)
       clear hb hbox hg
       refine hK.out _ _ ⟨bq5_ BK291 0, bq5_ BK296 0, bq5_ BK296 1⟩ (fun hHeld => ?_)
       clear hK K
       refine nz_ 12 ?_
       refine on_ 3 (some 56) ba13_24 HT_ (fun K hK => ?_)
       refine gz_ Try.func44 #[.pointer (some ⟨g, 0, none⟩), .int .i64 4] ?_
       with_reducible refine (spec_l01Below.calls g s0_0 t313 t314 4 t315 t316 t317 w0 _ ?side1 ?side2 A38.out).mono ?_
       (case side1 => exact is112_)
       (case side2 => exact bw112_)
       rintro e w78 ⟨rfl, hi, hb, hk⟩
       refine ⟨_, rfl, ?_⟩
       replace HO_292000 := ak112_ HO_292000 (show IsS112 w0 _ g s0_0 t313 t314 from is112_) hk
       replace BK290 := kb_ BK290 NB290_0 hk
       replace BK291 := kb_ BK291 NB291_0 hk
       replace BK296 := kb_ BK296 NB296_0 hk
       replace BK304 := kb_ BK304 NB304_0 hk
       replace BK310 := kb_ BK310 NB310_0 hk
       replace BK311 := kb_ BK311 NB311_0 hk
       replace BK322 := kb_ BK322 NB322_0 hk
       replace HK := kt_ HK hk
       replace HB := Aside0.mk (hb)
       replace HI0 := Aside0.mk (hi)
       clear hb hk hi
       refine hK.out _ _ ⟨bq5_ BK291 0, bq5_ BK296 0, bq5_ BK296 1⟩ (fun hHeld => ?_)
       clear hK K
       refine nz_ 56 ?_
       refine pz_ 4 57 ba13_20 HT_ ?_
       refine on_ 5 (some 58) ba13_21 HT_ (fun K hK => ?_)
       refine gz_ Try.func10 #[.agg #[.slice (some ad303) x292000_1.length co41], .agg #[.int .i64 t307, .int .i64 t308, .int .i64 t315]] ?_
       with_reducible refine (spec_PutRoute.calls kj9 _ _ x292000_1 t307 t308 t315 t318 t321 _ ?side1 ?side2 A39.out).mono ?_
       (case side1 => exact rc_ HO_292000)
       (case side2 => exact (Kd.R_reads' HO_292000.out).2.1)
       rintro e w79 ⟨v319, rfl, ho0, hb⟩
       refine ⟨_, rfl, ?_⟩
       have HO320 := Aside0.mk (Kd.R_lower (Kd.R_new' ho0 (Kd.R_lt (hd_ HO_292000))) (keep_size (w := w) (g := g) (row := none) (kx_ HK)))
       replace HO_292000 := Aside0.mk (Kd.R_elder' (hd_ HO_292000) (Kd.R_base ho0) hb)
       replace BK290 := ab_ BK290 hb
       replace BK291 := ab_ BK291 hb
       replace BK296 := ab_ BK296 hb
       replace BK304 := ab_ BK304 hb
       replace BK310 := ab_ BK310 hb
       replace BK311 := ab_ BK311 hb
       replace BK322 := ab_ BK322 hb
       replace HK := kt_ HK (KeepBut.of_below hb g none)
       replace HB := bs112_ hb
       replace HI0 := Aside0.mk (IsS112.below is112_ hb)
       clear hb ho0
       refine hK.out _ _ ⟨bq5_ BK291 0, bq5_ BK296 0, bq5_ BK296 1⟩ (fun hHeld => ?_)
       clear hK K
       refine nz_ 58 ?_
       refine pz_ 6 52 ba13_22 HT_ ?_
       refine pz_ 7 59 ba13_23 HT_ ?_
       refine pz_ 8 60 ba13_12 HT_ ?_
       exact norm_ (by simp only [putAll, Act.put, List.setIfInBounds_toArray, List.set_cons_zero, List.set_cons_succ]) (hCont (v319, gb322) _ ⟨hHeld, (by (with_reducible repeat (first | apply Kd.R_alloc | apply Kd.R_drewN | apply Kd.R_drew)); exact Kd.R_mono HO320.out (fun _ hk => hk.2)), (by (with_reducible repeat (first | apply Kd.R_alloc | apply Kd.R_drewN | apply Kd.R_drew)); exact Kd.R_mono HO_292000.out (fun _ hk => hk.2)), (bx_ BK290), (bx_ BK291), (bx_ BK296), (bx_ BK304), (bx_ BK310), (bx_ BK311), (bx_ BK322), GW322.out, GE322.out, NB0_322.out, NB322_0.out, NB290_322.out, NB322_290.out, NB291_322.out, NB322_291.out, NB296_322.out, NB322_296.out, NB304_322.out, NB322_304.out, NB310_322.out, NB322_310.out, NB311_322.out, NB322_311.out, (is112_), (kx_ HK), (bw112_)⟩)
     rintro ⟨v319, gb322⟩ w80 ⟨hS_, h0_, h1_, h2_, h3_, h4_, h5_, h6_, h7_, h8_, h9_, h10_, h11_, h12_, h13_, h14_, h15_, h16_, h17_, h18_, h19_, h20_, h21_, h22_, h23_, h24_, h25_, h26_, h27_⟩
     have HO320 : Aside0 (Kd.R k30 30 w80 w.heap.size (fun k_ => some k_ ≠ (.slice (some ad303) x292000_1.length co41 : Value).ownBlock) v319 t318) := ⟨h0_⟩
     have BK322 : Aside0 (w80.heap[gb322]? = some (.cells #[.slice none 0 0] 26 (0, 0))) := ⟨h8_⟩
     have GW322 : Aside0 (w.heap.size ≤ gb322) := ⟨h9_⟩
     have GE322 : Aside0 (w0.heap.size ≤ gb322) := ⟨h10_⟩
     have NB0_322 : Aside0 (g ≠ gb322) := ⟨h11_⟩
     have NB322_0 : Aside0 (gb322 ≠ g) := ⟨h12_⟩
     have NB290_322 : Aside0 (gb290 ≠ gb322) := ⟨h13_⟩
     have NB322_290 : Aside0 (gb322 ≠ gb290) := ⟨h14_⟩
     have NB291_322 : Aside0 (gb291 ≠ gb322) := ⟨h15_⟩
     have NB322_291 : Aside0 (gb322 ≠ gb291) := ⟨h16_⟩
     have NB296_322 : Aside0 (gb296 ≠ gb322) := ⟨h17_⟩
     have NB322_296 : Aside0 (gb322 ≠ gb296) := ⟨h18_⟩
     have NB304_322 : Aside0 (gb304 ≠ gb322) := ⟨h19_⟩
     have NB322_304 : Aside0 (gb322 ≠ gb304) := ⟨h20_⟩
     have NB310_322 : Aside0 (gb310 ≠ gb322) := ⟨h21_⟩
     have NB322_310 : Aside0 (gb322 ≠ gb310) := ⟨h22_⟩
     have NB311_322 : Aside0 (gb311 ≠ gb322) := ⟨h23_⟩
     have NB322_311 : Aside0 (gb322 ≠ gb311) := ⟨h24_⟩
     replace HO_292000 : Aside0 (Kd.R k30 30 w80 w.heap.size (fun k_ => some k_ ≠ (v319 : Value).ownBlock) (.slice (some ad303) x292000_1.length co41) x292000_1) := ⟨h1_⟩
     replace BK290 : Aside0 (w80.heap[gb290]? = some (.cells #[.slice none 0 0] 26 (0, 0))) := ⟨h2_⟩
     replace BK291 : Aside0 (w80.heap[gb291]? = some (.cells #[.slice (some ad303) x292000_1.length co41] 26 (0, 0))) := ⟨h3_⟩
     replace BK296 : Aside0 (w80.heap[gb296]? = some (.cells #[.int .i64 t307, .int .i64 t308] 28 (0, 0))) := ⟨h4_⟩
     replace BK304 : Aside0 (w80.heap[gb304]? = some (.cells #[.int .i64 ((rd_T30 x292000_1 t300).f0.f0), .int .i64 ((rd_T30 x292000_1 t300).f0.f1)] 28 (0, 0))) := ⟨h5_⟩
     replace BK310 : Aside0 (w80.heap[gb310]? = some (.cells #[.int .i64 t305, .int .i64 t306] 28 (0, 0))) := ⟨h6_⟩
     replace BK311 : Aside0 (w80.heap[gb311]? = some (.cells #[.int .i64 t307, .int .i64 t308] 28 (0, 0))) := ⟨h7_⟩
     replace HI0 : Aside0 (IsS112 w0 w80 g s0_0 t316 t317) := ⟨h25_⟩
     replace HK : Aside0 (KeepBut w w80 g none) := ⟨h26_⟩
     replace HB : Aside0 (Below w0.heap.size w0 w80) := ⟨h27_⟩
     clear h0_ h1_ h2_ h3_ h4_ h5_ h6_ h7_ h8_ h9_ h10_ h11_ h12_ h13_ h14_ h15_ h16_ h17_ h18_ h19_ h20_ h21_ h22_ h23_ h24_ h25_ h26_ h27_
     have hHeld : w80.cell? ⟨gb291, 0, none⟩ = some (.slice (some ad303) x292000_1.length co41) ∧ w80.cell? ⟨gb296, 0, none⟩ = some (.int .i64 t307) ∧ w80.cell? ⟨gb296, 1, none⟩ = some (.int .i64 t308) := hS_
     obtain ⟨Ao81, co81, eo81⟩ := Kd.R_slice HO320.out
     subst eo81
     refine norm_ (a' := ?_) ?_ ?_
     rotate_left; · simp only [putAll, Act.put, List.setIfInBounds_toArray, List.set_cons_zero, List.set_cons_succ]; rfl
     refine on_ 10 none ba13_7 HT_ (fun K hK => ?_)
     have hs82 : w80.cell? ⟨gb322, 0, none⟩ = some (.slice none 0 0) := bq5_ BK322 0
     have hfs82 := fz_ BK322 0
     have hns82_0 := NB290_322.out
     have hns82_1 := NB291_322.out
     have hns82_2 := NB296_322.out
     have hns82_3 := NB304_322.out
     have hns82_4 := NB310_322.out
     have hns82_5 := NB311_322.out
     have hms82_0 := NB322_290.out
     have hms82_1 := NB322_291.out
     have hms82_2 := NB322_296.out
     have hms82_3 := NB322_304.out
     have hms82_4 := NB322_310.out
     have hms82_5 := NB322_311.out
     refine skip_ (w1 := ?_) (by rfl) rfl ?_ ?_
     rotate_left; · go_simp; rfl
     refine hK.out _ _ ⟨((cell_far (p := ⟨gb322, _, none⟩) NB291_322.out _).trans (hHeld.1)), ((cell_far (p := ⟨gb322, _, none⟩) NB296_322.out _).trans (hHeld.2.1)), ((cell_far (p := ⟨gb322, _, none⟩) NB296_322.out _).trans (hHeld.2.2))⟩ (fun hHeld => ?_)
     clear hK K
     refine pz_ 11 13 ba13_16 HT_ ?_
     refine done_ (done_of HT_.out (by kernel_rfl)) ?_
     have hnb83 := NB322_290.out
     have hnc83 := NB290_322.out
     have hnb84 := NB322_291.out
     have hnc84 := NB291_322.out
     have hnb85 := NB322_296.out
     have hnc85 := NB296_322.out
     have hnb86 := NB322_304.out
     have hnc86 := NB304_322.out
     have hnb87 := NB322_310.out
     have hnc87 := NB310_322.out
     have hnb88 := NB322_311.out
     have hnc88 := NB311_322.out
     have hnb89 := NB322_0.out
     have hnc89 := NB0_322.out
     have hcz90_0 := cz_ BK322 0 (.slice none 0 0)
     have hfz90_0 := fz_ BK322 0
     have hnb91 := NB291_290.out
     have hnc91 := NB290_291.out
     have hnb92 := NB291_0.out
     have hnc92 := NB0_291.out
     have hcz93_0 := cz_ BK291 0 (.slice (some ad303) x292000_1.length co41)
     have hfz93_0 := fz_ BK291 0
     go_wp2
     go_roundg kj9
     case measure => have := HK1.out; have := HJ9.out; omega
     case rel => exact ⟨(wrap64 (x6_1 + 1)), (t316), (t317), (t318), (.slice Ao81 t318.length co81), er_, H', ⟨by have := HK1.out; have := HJ9.out; omega⟩, ⟨by (with_reducible repeat (first | apply Kd.R_alloc | apply Kd.R_drewN | apply Kd.R_drew)); exact Kd.R_mono (Kd.R_far (Kd.R_far (Kd.R_types (Kd.R_types HO320.out BK322.out (by decide)) BK291.out (by decide)) (fun _ hk => hk.1.2) _) (fun _ hk => hk.2) _) (fun _ hk => trivial)⟩, ⟨bc_ BK290⟩, ⟨by refine bd_ ?_; refine blk_put (cs := #[.slice (some ad303) x292000_1.length co41]) ?_ 0 _ rfl; refine bd_ ?_; refine blk_far ?_ NB291_322.out _; refine bd_ ?_; exact BK291.out⟩, ⟨is112_⟩, ⟨kx_ HK⟩, ⟨bw112_⟩⟩

end Go.Proofs.Ytjepmdngbafonaa.QFnSqueezed
