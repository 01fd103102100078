/- Contracts of functions that the law reaches: what each call returns and what it leaves in memory. Made by this session over the print of the kit. -/
import Derived.Test.YtjepmdngbafonaaQFnRoutesx0
import Derived.Test.YtjepmdngbafonaaQFnRoutesx2
import Derived.Test.YtjepmdngbafonaaQFnRoutesx3
import Derived.Test.YtjepmdngbafonaaQFnRoutesx15
namespace Go.Proofs.Ytjepmdngbafonaa.QFnRoutes
open Go.RowKit Go.Proofs.YtjepmdngbafonaaR.PrintWords Go.Proofs.YtjepmdngbafonaaR.PrintLast Go.Proofs.YtjepmdngbafonaaR.PrintMore
attribute [local go_sem] max2_int min2_int max_two min_two max_three min_three max_four min_four   -- for this text's walks alone
set_option linter.unusedVariables false
set_option linter.unusedSimpArgs false
def ba16_0 : Array Bool := bs_ 25 0
def ba16_1 : Array Bool := bs_ 25 1
def ba16_2 : Array Bool := bs_ 25 5
def ba16_3 : Array Bool := bs_ 25 69
def ba16_4 : Array Bool := bs_ 25 71
def ba16_5 : Array Bool := bs_ 25 79
def ba16_6 : Array Bool := bs_ 25 95
def ba16_7 : Array Bool := bs_ 25 127
def ba16_8 : Array Bool := bs_ 25 255
def ba16_9 : Array Bool := bs_ 25 511
def ba16_10 : Array Bool := bs_ 25 1023
def ba16_11 : Array Bool := bs_ 25 2047
def ba16_12 : Array Bool := bs_ 25 4095
def ba16_13 : Array Bool := bs_ 25 8191
def ba16_14 : Array Bool := bs_ 25 24575
def ba16_15 : Array Bool := bs_ 25 548863
def ba16_16 : Array Bool := bs_ 25 1597439
def ba16_17 : Array Bool := bs_ 25 1605631
def ba16_18 : Array Bool := bs_ 25 1638399
def ba16_19 : Array Bool := bs_ 25 1703935
def ba16_20 : Array Bool := bs_ 25 1835007
def ba16_21 : Array Bool := bs_ 25 2097151
def ba16_22 : Array Bool := bs_ 25 4194303
def ba16_23 : Array Bool := bs_ 25 8388607
def ba16_24 : Array Bool := bs_ 25 16777215
def ba16_25 : Array Bool := bs_ 25 33554431
def ba16_26 : Array Bool := bs_ 25 16383
def ba16_27 : Array Bool := bs_ 25 32767
def ba16_28 : Array Bool := bs_ 25 65535
def ba16_29 : Array Bool := bs_ 25 131071
def ba16_30 : Array Bool := bs_ 25 262143
def ba16_31 : Array Bool := bs_ 25 524287
def ba16_32 : Array Bool := bs_ 25 1048575

/-! ### spec_BestRoute: function 15 -/
mutual
def spec_BestRoute.j0 : Nat → Int → Bool → List (S30) → Option (Int × Int × Int × Bool)
 | 0, _, _, _ => none
 | k + 1, x1, x16, x465000 => if x16 = true then (some (0, 0, 0, false)) else (spec_BestRoute.l0 k x1 false 0 x465000 0 0 0)
def spec_BestRoute.l0 : Nat → Int → Bool → Int → List (S30) → Int → Int → Int → Option (Int × Int × Int × Bool)
 | 0, _, _, _, _, _, _, _ => none
 | k + 1, x1, x7, x8, x465000, x469000, x469001, x469002 => if x8 < (x465000.length : Int) then (if 0 ≤ x8 then ((spec_HasAddr.f ((rd_T30 x465000 x8).f0.f0) ((rd_T30 x465000 x8).f0.f1) x1).bind fun t470 => (if t470 = true then (if x7 = true then (if ((rd_T30 x465000 x8).f0.f1) > x469001 then (spec_BestRoute.l0 k x1 true (wrap64 (x8 + 1)) x465000 ((rd_T30 x465000 x8).f0.f0) ((rd_T30 x465000 x8).f0.f1) ((rd_T30 x465000 x8).f1)) else (spec_BestRoute.l0 k x1 x7 (wrap64 (x8 + 1)) x465000 x469000 x469001 x469002)) else (spec_BestRoute.l0 k x1 true (wrap64 (x8 + 1)) x465000 ((rd_T30 x465000 x8).f0.f0) ((rd_T30 x465000 x8).f0.f1) ((rd_T30 x465000 x8).f1))) else (spec_BestRoute.l0 k x1 x7 (wrap64 (x8 + 1)) x465000 x469000 x469001 x469002))) else (none)) else (some (x469000, x469001, x469002, x7))
end
def spec_BestRoute.f (k : Nat) (l0_0 : List (S30)) (a1 : Int) : Option (Int × Int × Int × Bool) := (spec_TableOk.f k l0_0).bind fun t466 => (if t466 = true then ((spec_l01Addr.f a1).bind fun t467 => (spec_BestRoute.j0 k a1 (!t467) l0_0)) else (spec_BestRoute.j0 k a1 true l0_0))
theorem spec_BestRoute.mono_l : ∀ k, (∀ y0 y1 y2, LeO (spec_BestRoute.j0 k y0 y1 y2) (spec_BestRoute.j0 (k + 1) y0 y1 y2)) ∧ (∀ y0 y1 y2 y3 y4 y5 y6, LeO (spec_BestRoute.l0 k y0 y1 y2 y3 y4 y5 y6) (spec_BestRoute.l0 (k + 1) y0 y1 y2 y3 y4 y5 y6))
 | 0 => ⟨fun _ _ _ r h => by simp [spec_BestRoute.j0] at h, fun _ _ _ _ _ _ _ r h => by simp [spec_BestRoute.l0] at h⟩
 | k + 1 => by
  obtain ⟨ih0, ih1⟩ := spec_BestRoute.mono_l k
  refine ⟨?_, ?_⟩
  ·intro y0 y1 y2
   unfold spec_BestRoute.j0
   repeat' first | (with_reducible first | exact ih0 _ _ _ | exact ih1 _ _ _ _ _ _ _ | exact spec_TableOk.mono _ _ | exact LeO.refl _ | exact LeO.none _ | refine LeO.ite ?_ ?_ | refine LeO.bind ?_ (fun _ => ?_)) | exact ih0 _ _ _ | exact ih1 _ _ _ _ _ _ _ | exact spec_TableOk.mono _ _ | exact LeO.none _ | refine LeO.ite ?_ ?_ | refine LeO.bind ?_ (fun _ => ?_)
  ·intro y0 y1 y2 y3 y4 y5 y6
   unfold spec_BestRoute.l0
   repeat' first | (with_reducible first | exact ih0 _ _ _ | exact ih1 _ _ _ _ _ _ _ | exact spec_TableOk.mono _ _ | exact LeO.refl _ | exact LeO.none _ | refine LeO.ite ?_ ?_ | refine LeO.bind ?_ (fun _ => ?_)) | exact ih0 _ _ _ | exact ih1 _ _ _ _ _ _ _ | exact spec_TableOk.mono _ _ | exact LeO.none _ | refine LeO.ite ?_ ?_ | refine LeO.bind ?_ (fun _ => ?_)
theorem spec_BestRoute.mono : ∀ a0 a1 k, LeO (spec_BestRoute.f k a0 a1) (spec_BestRoute.f (k + 1) a0 a1) := by
 intro a0 a1 k
 obtain ⟨ih0, ih1⟩ := spec_BestRoute.mono_l k
 unfold spec_BestRoute.f
 repeat' first | (with_reducible first | exact ih0 _ _ _ | exact ih1 _ _ _ _ _ _ _ | exact spec_TableOk.mono _ _ | exact LeO.refl _ | exact LeO.none _ | refine LeO.ite ?_ ?_ | refine LeO.bind ?_ (fun _ => ?_)) | exact ih0 _ _ _ | exact ih1 _ _ _ _ _ _ _ | exact spec_TableOk.mono _ _ | exact LeO.none _ | refine LeO.ite ?_ ?_ | refine LeO.bind ?_ (fun _ => ?_)
def spec_BestRoute.T8 : Bool × List (List Nat × List Nat) := (true, [([], []), ([0], [0]), ([], []), ([1, 2], [1, 2]), ([3], [3]), ([4], [4]), ([], []), ([5, 6], [5, 6]), ([7, 7], [7]), ([8], [8]), ([9, 8], [8, 9]), ([10, 8, 8], [8, 10]), ([11], [11]), ([12, 11], [11, 12]), ([11], [11]), ([13, 14, 11], [11, 13, 14]), ([15, 11], [11, 15]), ([16, 11], [11, 16]), ([17, 11], [11, 17]), ([11], [11]), ([19, 11], [11, 19]), ([20, 11], [11, 20]), ([18, 21, 11], [11, 18, 21]), ([11, 22, 8], [8, 11, 22]), ([8, 23], [8, 23])])
def spec_BestRoute.B8 : List Nat := [0, 1, 0, 7, 15, 31, 0, 127, 255, 511, 1023, 2047, 4095, 8191, 4095, 32767, 65535, 131071, 262143, 4095, 528383, 1576959, 4194303, 8388607, 16777215]
theorem spec_BestRoute.tab8 : rtab .any (opsOf Try.f15 8) = spec_BestRoute.T8 := by kernel_rfl
theorem spec_BestRoute.bits8 : waitsOk spec_BestRoute.T8.2 spec_BestRoute.B8 = true := by kernel_rfl
set_option maxHeartbeats 8000000 in
set_option maxRecDepth 100000 in
theorem spec_BestRoute.calls (k : Nat) (A0_0 : Option Addr) (c0_0 : Nat) (l0_0 : List (S30)) (a1 : Int) (r1 : Int) (r2 : Int) (r3 : Int) (r4 : Bool) (w : World) (hr0_0 : Kd.C k30 w A0_0 l0_0.length l0_0) (hc0_0 : l0_0.length ≤ c0_0) (h : spec_BestRoute.f k l0_0 a1 = some (r1, r2, r3, r4)) :
  Calls Try.prog 15 #[.agg #[.slice A0_0 l0_0.length c0_0], .int .i64 a1] w fun e w' => e = .returned (.tuple #[.agg #[.int .i64 r1, .int .i64 r2, .int .i64 r3], .bool r4]) ∧ Below w.heap.size w w' := by
 have hu26 := Try.underlying26
 have hu30 := Try.underlying30
 have hu28 := Try.underlying28
 have HR0_0 := Aside0.mk hr0_0
 have HC0_0 := Aside0.mk hc0_0
 clear hr0_0 hc0_0
 have HB := Aside0.mk (Below.refl w.heap.size w)
 have H : ((spec_TableOk.f k l0_0).bind fun t466 => (if t466 = true then ((spec_l01Addr.f a1).bind fun t467 => (spec_BestRoute.j0 k a1 (!t467) l0_0)) else (spec_BestRoute.j0 k a1 true l0_0))) = some (r1, r2, r3, r4) := h
 clear h
 have HC3 := Aside0.mk H
 clear H
 go_enter Try.func15, Try.ntmps15
 go_upto_region 1 with (first | ((with_reducible refine gate_dst (N := 2) rfl ?_); refine box_event ?hg (N := 2) ?hd (cs := #[.slice A0_0 l0_0.length c0_0]) (t := 26) ?hr ?_; (case hd => rfl); (case hg => rfl); (case hr => first | (go_simp; done) | (go_simp; rfl)); intro gb464 hg w4 hbox hb; have BK464 := Aside0.mk hbox; have GW464 := ge_ HB hg; have GE464 := ge_ HB hg; replace HB := at_ HB hb; clear hb hbox hg) | ((with_reducible refine gate_dst (N := 4) rfl ?_); refine box_event ?hg (N := 4) ?hd (cs := #[.int .i64 0, .int .i64 0, .int .i64 0]) (t := 30) ?hr ?_; (case hd => rfl); (case hg => rfl); (case hr => first | (go_simp; done) | (go_simp; rfl)); intro gb465 hg w5 hbox hb; have BK465 := Aside0.mk hbox; have GW465 := ge_ HB hg; have GE465 := ge_ HB hg; have NB464_465 := nl_ BK464 hg; have NB465_464 := ng_ BK464 hg; replace HB := at_ HB hb; replace BK464 := ab_ BK464 hb; clear hb hbox hg))
 (try simp only [Act.put, List.setIfInBounds_toArray, List.set_cons_zero, List.set_cons_succ])
 go_cut [16] (fun v16 wc => ∃ (kq : Nat) (x16_2 : Bool), v16 = .bool x16_2 ∧ Aside0 (spec_BestRoute.j0 kq a1 x16_2 l0_0 = some (r1, r2, r3, r4)) ∧ Aside0 (kq ≤ k) ∧ Aside0 (wc.heap[gb464]? = some (.cells #[(.slice A0_0 l0_0.length c0_0)] 26 (0, 0))) ∧ Aside0 (wc.heap[gb465]? = some (.cells #[.int .i64 0, .int .i64 0, .int .i64 0] 30 (0, 0))) ∧ Aside0 (Below w.heap.size w wc))
 case first =>
  have H := HC3.out
  clear HC3
  replace H := Option.bind_eq_some_iff.mp H
  obtain ⟨t466, A60, H⟩ := H
  have A6 := Aside0.mk A60
  clear A60
  by_cases c7 : t466 = true
  rotate_left
  ·replace c7 := Bool.eq_false_iff.mpr c7
   subst c7
   rw [if_neg (show ¬ (false = true) by decide)] at H
   have H' := Aside0.mk H
   clear H
   have hnb12 := NB464_465.out
   have hnc12 := NB465_464.out
   have hcz13_0 := cz_ BK464 0 (.slice A0_0 l0_0.length c0_0)
   have hfz13_0 := fz_ BK464 0
   go_wp2_with ((with_reducible refine gate_callee (f := 19) rfl ?_); refine gl_ (some 10) Try.func19 #[.agg #[.slice A0_0 l0_0.length c0_0]] ?_; (with_reducible refine (spec_TableOk.calls k _ _ l0_0 false _ ?side1 ?side2 A6.out).mono ?_); (case side1 => exact cb_ HR0_0 HB); (case side2 => exact HC0_0.out); rintro e w14 ⟨rfl, hb⟩; refine ⟨_, rfl, ?_⟩; replace BK464 := ab_ BK464 hb; replace BK465 := ab_ BK465 hb; replace HB := at_ HB hb; (try clear hb); (try clear hb2); (try clear hk); (try clear hi))
   go_meet
   case rel => exact ⟨_, (true), er_, H', ⟨by first | omega | exact Nat.le_refl _⟩, ⟨bx_ BK464⟩, ⟨bx_ BK465⟩, ⟨bw112_⟩⟩
  subst c7
  rw [if_pos rfl] at H
  replace H := Option.bind_eq_some_iff.mp H
  obtain ⟨t467, A80, H⟩ := H
  have A8 := Aside0.mk A80
  clear A80
  have H' := Aside0.mk H
  clear H
  have hnb9 := NB464_465.out
  have hnc9 := NB465_464.out
  have hcz10_0 := cz_ BK464 0 (.slice A0_0 l0_0.length c0_0)
  have hfz10_0 := fz_ BK464 0
  go_wp2_with (first | ((with_reducible refine gate_callee (f := 19) rfl ?_); refine gl_ (some 10) Try.func19 #[.agg #[.slice A0_0 l0_0.length c0_0]] ?_; (with_reducible refine (spec_TableOk.calls k _ _ l0_0 true _ ?side1 ?side2 A6.out).mono ?_); (case side1 => exact cb_ HR0_0 HB); (case side2 => exact HC0_0.out); rintro e w11 ⟨rfl, hb⟩; refine ⟨_, rfl, ?_⟩; replace BK464 := ab_ BK464 hb; replace BK465 := ab_ BK465 hb; replace HB := at_ HB hb; (try clear hb); (try clear hb2); (try clear hk); (try clear hi)) | (go_at_call 54; (with_reducible refine (spec_l01Addr.calls a1 t467 _ A8.out).mono ?_); rintro e w' ⟨rfl, ⟨nd, rfl⟩⟩))
  go_meet
  case rel => exact ⟨_, (!t467), er_, H', ⟨by first | omega | exact Nat.le_refl _⟩, ⟨bx_ BK464⟩, ⟨bx_ BK465⟩, ⟨bw112_⟩⟩
 case rest =>
  clear HC3
  try clear c1
  try clear p2
  try clear c7
  try clear c9
  try clear c12
  try clear hcz10_0
  try clear hcz13_0
  try clear hfz10_0
  try clear hfz13_0
  obtain ⟨kq, x16_2, rfl, HA, HJ2, BK464, BK465, HB⟩ := hcut
  cases kq with
  | zero => exact absurd HA.out (by simp [spec_BestRoute.j0])
  | succ kj2 =>
   have H := HA.out
   clear HA
   simp only [spec_BestRoute.j0] at H
   by_cases c15 : x16_2 = true
   ·subst c15
    rw [if_pos rfl] at H
    simp only [Option.some.injEq, Prod.mk.injEq] at H
    obtain ⟨rfl, rfl, rfl, rfl⟩ := H
    have hnb16 := NB465_464.out
    have hnc16 := NB464_465.out
    have hcz17_0 := cz_ BK465 0 (.int .i64 0)
    have hcz17_1 := cz_ BK465 1 (.int .i64 0)
    have hcz17_2 := cz_ BK465 2 (.int .i64 0)
    have hfz17_0 := fz_ BK465 0
    have hfz17_1 := fz_ BK465 1
    have hfz17_2 := fz_ BK465 2
    go_wp2
    refine bodyPost_ret (results_ct rfl _ _ gb465 30 #[.int .i64 0, .int .i64 0, .int .i64 0] (0, 0) _ rfl (by refine bd_ ?_; refine blk_put (cs := #[.int .i64 0, .int .i64 0, .int .i64 0]) ?_ 2 _ rfl; refine bd_ ?_; refine blk_put (cs := #[.int .i64 0, .int .i64 0, .int .i64 0]) ?_ 1 _ rfl; refine bd_ ?_; refine blk_put (cs := #[.int .i64 0, .int .i64 0, .int .i64 0]) ?_ 0 _ rfl; refine bd_ ?_; exact BK465.out) Try.underlying30 rfl (by kernel_rfl)) rfl ?_
    exact ⟨by first | rfl | (simp [errW_none, errW_some] <;> rfl) | (simp [*, errW_none, errW_some] <;> rfl), bw112_⟩
   replace c15 := Bool.eq_false_iff.mpr c15
   subst c15
   rw [if_neg (show ¬ (false = true) by decide)] at H
   have H' := Aside0.mk H
   clear H
   go_wp2_with ((with_reducible refine gate_dst (N := 6) rfl ?_); refine box_event ?hg (N := 6) ?hd (cs := #[.int .i64 0, .int .i64 0, .int .i64 0]) (t := 30) ?hr ?_; (case hd => rfl); (case hg => rfl); (case hr => first | (go_simp; done) | (go_simp; rfl)); intro gb468 hg w18 hbox hb; have BK468 := Aside0.mk hbox; have GW468 := ge_ HB hg; have GE468 := ge_ HB hg; have NB464_468 := nl_ BK464 hg; have NB468_464 := ng_ BK464 hg; have NB465_468 := nl_ BK465 hg; have NB468_465 := ng_ BK465 hg; replace HB := at_ HB hb; replace BK464 := ab_ BK464 hb; replace BK465 := ab_ BK465 hb; clear hb hbox hg; have hnb19 := NB468_464.out; have hnc19 := NB464_468.out; have hnb20 := NB468_465.out; have hnc20 := NB465_468.out; have hcz21_0 := cz_ BK468 0 (.int .i64 0); have hcz21_1 := cz_ BK468 1 (.int .i64 0); have hcz21_2 := cz_ BK468 2 (.int .i64 0); have hfz21_0 := fz_ BK468 0; have hfz21_1 := fz_ BK468 1; have hfz21_2 := fz_ BK468 2)
   go_loopg [7, 8] kj2 (fun kq v7 v8 w' => ∃ (x7_2 : Bool) (x8_2 : Int) (x469000_2 : Int) (x469001_2 : Int) (x469002_2 : Int), v7 = .bool x7_2 ∧ v8 = .int .i64 x8_2 ∧ Aside0 (spec_BestRoute.l0 kq a1 x7_2 x8_2 l0_0 x469000_2 x469001_2 x469002_2 = some (r1, r2, r3, r4)) ∧ Aside0 (kq ≤ kj2) ∧ Aside0 (w'.heap[gb464]? = some (.cells #[(.slice A0_0 l0_0.length c0_0)] 26 (0, 0))) ∧ Aside0 (w'.heap[gb465]? = some (.cells #[.int .i64 0, .int .i64 0, .int .i64 0] 30 (0, 0))) ∧ Aside0 (w'.heap[gb468]? = some (.cells #[.int .i64 x469000_2, .int .i64 x469001_2, .int .i64 x469002_2] 30 (0, 0))) ∧ Aside0 (Below w.heap.size w w'))
   case atStart => exact ⟨(false), (0), (0), (0), (0), er_, er_, H', ⟨Nat.le_refl _⟩, ⟨bc_ BK464⟩, ⟨bc_ BK465⟩, ⟨by refine bd_ ?_; refine blk_put (cs := #[.int .i64 0, .int .i64 0, .int .i64 0]) ?_ 2 _ rfl; refine bd_ ?_; refine blk_put (cs := #[.int .i64 0, .int .i64 0, .int .i64 0]) ?_ 1 _ rfl; refine bd_ ?_; refine blk_put (cs := #[.int .i64 0, .int .i64 0, .int .i64 0]) ?_ 0 _ rfl; refine bd_ ?_; exact BK468.out⟩, ⟨bw112_⟩⟩
   case round =>
    clear H'
    try clear c1
    try clear c2
    try clear p2
    try clear c7
    try clear c9
    try clear c12
    try clear c15
    try clear c16
    try clear c19
    try clear c20
    try clear hcz10_0
    try clear hcz13_0
    try clear hcz17_0
    try clear hcz17_1
    try clear hcz17_2
    try clear hcz21_0
    try clear hcz21_1
    try clear hcz21_2
    try clear hfz10_0
    try clear hfz13_0
    try clear hfz17_0
    try clear hfz17_1
    try clear hfz17_2
    try clear hfz21_0
    try clear hfz21_1
    try clear hfz21_2
    try clear p2
    obtain ⟨x7_2, x8_2, x469000_2, x469001_2, x469002_2, rfl, rfl, HA, HK2, BK464, BK465, BK468, HB⟩ := hrel
    cases gk with
    | zero => exact absurd HA.out (by simp [spec_BestRoute.l0])
    | succ k2 =>
     have H := HA.out
     clear HA
     simp only [spec_BestRoute.l0] at H
     by_cases c22 : x8_2 < (l0_0.length : Int)
     rotate_left
     ·rw [if_neg c22] at H
      have c22b0 : decide (x8_2 < (l0_0.length : Int)) = false := decide_eq_false c22
      clear c22
      simp only [Option.some.injEq, Prod.mk.injEq] at H
      obtain ⟨rfl, rfl, rfl, rfl⟩ := H
      have hnb54 := NB464_465.out
      have hnc54 := NB465_464.out
      have hnb55 := NB464_468.out
      have hnc55 := NB468_464.out
      have hcz56_0 := cz_ BK464 0 (.slice A0_0 l0_0.length c0_0)
      have hfz56_0 := fz_ BK464 0
      have hnb57 := NB468_465.out
      have hnc57 := NB465_468.out
      have hcz58_0 := cz_ BK468 0 (.int .i64 x469000_2)
      have hcz58_1 := cz_ BK468 1 (.int .i64 x469001_2)
      have hcz58_2 := cz_ BK468 2 (.int .i64 x469002_2)
      have hfz58_0 := fz_ BK468 0
      have hfz58_1 := fz_ BK468 1
      have hfz58_2 := fz_ BK468 2
      have hcz59_0 := cz_ BK465 0 (.int .i64 0)
      have hcz59_1 := cz_ BK465 1 (.int .i64 0)
      have hcz59_2 := cz_ BK465 2 (.int .i64 0)
      have hfz59_0 := fz_ BK465 0
      have hfz59_1 := fz_ BK465 1
      have hfz59_2 := fz_ BK465 2
      go_wp2
      refine bodyPost_ret (results_ct rfl _ _ gb465 30 #[.int .i64 x469000_2, .int .i64 x469001_2, .int .i64 x469002_2] (0, 0) _ rfl (by refine bd_ ?_; refine blk_put (cs := #[.int .i64 x469000_2, .int .i64 x469001_2, .int .i64 0]) ?_ 2 _ rfl; refine bd_ ?_; refine blk_put (cs := #[.int .i64 x469000_2, .int .i64 0, .int .i64 0]) ?_ 1 _ rfl; refine bd_ ?_; refine blk_put (cs := #[.int .i64 0, .int .i64 0, .int .i64 0]) ?_ 0 _ rfl; refine bd_ ?_; exact BK465.out) Try.underlying30 rfl (by kernel_rfl)) rfl ?_
      exact ⟨by first | rfl | (simp [errW_none, errW_some] <;> rfl) | (simp [*, errW_none, errW_some] <;> rfl), bw112_⟩
     rw [if_pos c22] at H
     have c22b0 : decide (x8_2 < (l0_0.length : Int)) = true := decide_eq_true c22
     clear c22
     obtain ⟨c23b0, H⟩ := iq_ H
     replace H := Option.bind_eq_some_iff.mp H
     obtain ⟨t470, A240, H⟩ := H
     have A24 := Aside0.mk A240
     clear A240
     have Hh_ := Aside0.mk H
     clear H
     have hnb28 := NB464_465.out
     have hnc28 := NB465_464.out
     have hnb29 := NB464_468.out
     have hnc29 := NB468_464.out
     have hcz30_0 := cz_ BK464 0 (.slice A0_0 l0_0.length c0_0)
     have hfz30_0 := fz_ BK464 0
     try go_wp2
     replace BK464 := ad_ BK464
     replace BK465 := ad_ BK465
     replace BK468 := ad_ BK468
     replace HB := Aside0.mk (below_drew1 HB.out)
     have p469 : 0 ≤ (x8_2 : Int) := oa_
     have q469 : x8_2 < (l0_0.length : Int) := oa_
     obtain ⟨ad469, e469, hx469_0, hx469_1, hx469_2⟩ := at_T30 HR0_0.out x8_2 p469 q469
     have hw469_2 := hx469_2
     have hw469_1 := hx469_1
     have hw469_0 := hx469_0
     cases e469
     replace hx469_0 := (HB.out.cell (World.block_lt_of_cell? w _ hx469_0)).trans hx469_0
     replace hx469_1 := (HB.out.cell (World.block_lt_of_cell? w _ hx469_1)).trans hx469_1
     replace hx469_2 := (HB.out.cell (World.block_lt_of_cell? w _ hx469_2)).trans hx469_2
     replace p469 := eq_true p469
     replace q469 := eq_true q469
     have H := Hh_.out
     clear Hh_
     by_cases c25 : t470 = true
     rotate_left
     ·replace c25 := Bool.eq_false_iff.mpr c25
      subst c25
      rw [if_neg (show ¬ (false = true) by decide)] at H
      have H' := Aside0.mk H
      clear H
      refine start_ (n := 25) (S := fun w' => w'.cell? ⟨gb464, 0, none⟩ = some (.slice (some ad469) l0_0.length c0_0) ∧ w'.cell? (ad469.add ((x8_2).toNat * 3)) = some (.int .i64 ((rd_T30 l0_0 x8_2).f0.f0)) ∧ w'.cell? ⟨(ad469.add ((x8_2).toNat * 3)).block, (ad469.add ((x8_2).toNat * 3)).off + 1, none⟩ = some (.int .i64 ((rd_T30 l0_0 x8_2).f0.f1)) ∧ w'.cell? ⟨(ad469.add ((x8_2).toNat * 3)).block, (ad469.add ((x8_2).toNat * 3)).off + 2, none⟩ = some (.int .i64 ((rd_T30 l0_0 x8_2).f1))) (ds := []) ba16_0 (by kernel_rfl) rfl rfl ⟨(blk_cell BK464.out 0).trans rfl, (hc_ HB hw469_0), (hc_ HB hw469_1), (hc_ HB hw469_2)⟩ (fun hHeld => ?_); refine with_tabW spec_BestRoute.tab8 spec_BestRoute.bits8 (fun HT_ HW_ => ?_)
      generalize wr.drew = w52 at BK464 BK465 BK468 HB hx469_0 hx469_1 hx469_2 hHeld ⊢
      refine pz_ 0 26 ba16_1 HT_ ?_
      refine pz_ 2 28 ba16_2 HT_ ?_
      refine pz_ 6 32 ba16_3 HT_ ?_
      refine pt_ 1 27 ba16_4 HT_ HW_ hHeld ?_
      refine pz_ 3 29 ba16_5 HT_ ?_
      refine pz_ 4 30 ba16_6 HT_ ?_
      refine pt_ 5 31 ba16_7 HT_ HW_ hHeld ?_
      refine one_ (i := 7) (N := some 33) ba16_8 rfl rfl (one_of HT_.out (by kernel_rfl)) (by decide) (fun K hK => ?_)
      refine gz_ Try.func16 #[.agg #[.int .i64 ((rd_T30 l0_0 x8_2).f0.f0), .int .i64 ((rd_T30 l0_0 x8_2).f0.f1)], .int .i64 a1] ?_
      with_reducible refine (spec_HasAddr.calls ((rd_T30 l0_0 x8_2).f0.f0) ((rd_T30 l0_0 x8_2).f0.f1) a1 false _ A24.out).mono ?_
      rintro e w53 ⟨rfl, hb⟩
      refine ⟨_, rfl, ?_⟩
      replace BK464 := ab_ BK464 hb
      replace BK465 := ab_ BK465 hb
      replace BK468 := ab_ BK468 hb
      replace HB := at_ HB hb
      (try clear hb)
      (try clear hb2)
      (try clear hk)
      (try clear hi)
      refine hK.out _ _ ⟨(blk_cell BK464.out 0).trans rfl, (hc_ HB hw469_0), (hc_ HB hw469_1), (hc_ HB hw469_2)⟩ (fun hHeld => ?_)
      clear hK K
      refine nz_ 33 ?_
      refine pz_ 8 34 ba16_9 HT_ ?_
      refine pu_ 9 35 ba16_10 HT_ ?_
      refine pu_ 10 36 ba16_11 HT_ ?_
      refine pu_ 11 37 ba16_12 HT_ ?_
      refine pu_ 12 38 ba16_13 HT_ ?_
      refine pu_ 13 39 ba16_26 HT_ ?_
      refine pu_ 14 40 ba16_27 HT_ ?_
      refine pu_ 15 41 ba16_28 HT_ ?_
      refine pu_ 16 42 ba16_29 HT_ ?_
      refine pu_ 17 43 ba16_30 HT_ ?_
      refine pu_ 18 44 ba16_31 HT_ ?_
      refine pu_ 19 45 ba16_32 HT_ ?_
      refine pu_ 20 46 ba16_21 HT_ ?_
      refine pu_ 21 47 ba16_22 HT_ ?_
      refine pu_ 22 48 ba16_23 HT_ ?_
      refine pu_ 23 49 ba16_24 HT_ ?_
      refine pz_ 24 50 ba16_25 HT_ ?_
      refine done_ (done_of HT_.out (by kernel_rfl)) ?_
      try go_wp2
      go_roundg k2
      case measure => have := HJ2.out; have := HK2.out; omega
      case rel => exact ⟨(x7_2), (wrap64 (x8_2 + 1)), (x469000_2), (x469001_2), (x469002_2), er_, er_, H', ⟨by have := HJ2.out; have := HK2.out; omega⟩, ⟨bx_ BK464⟩, ⟨bx_ BK465⟩, ⟨bx_ BK468⟩, ⟨bw112_⟩⟩
     subst c25
     rw [if_pos rfl] at H
     by_cases c26 : x7_2 = true
     rotate_left
     ·replace c26 := Bool.eq_false_iff.mpr c26
      subst c26
      rw [if_neg (show ¬ (false = true) by decide)] at H
      have H' := Aside0.mk H
      clear H
      refine start_ (n := 25) (S := fun w' => w'.cell? ⟨gb464, 0, none⟩ = some (.slice (some ad469) l0_0.length c0_0) ∧ w'.cell? (ad469.add ((x8_2).toNat * 3)) = some (.int .i64 ((rd_T30 l0_0 x8_2).f0.f0)) ∧ w'.cell? ⟨(ad469.add ((x8_2).toNat * 3)).block, (ad469.add ((x8_2).toNat * 3)).off + 1, none⟩ = some (.int .i64 ((rd_T30 l0_0 x8_2).f0.f1)) ∧ w'.cell? ⟨(ad469.add ((x8_2).toNat * 3)).block, (ad469.add ((x8_2).toNat * 3)).off + 2, none⟩ = some (.int .i64 ((rd_T30 l0_0 x8_2).f1))) (ds := []) ba16_0 (by kernel_rfl) rfl rfl ⟨(blk_cell BK464.out 0).trans rfl, (hc_ HB hw469_0), (hc_ HB hw469_1), (hc_ HB hw469_2)⟩ (fun hHeld => ?_); refine with_tabW spec_BestRoute.tab8 spec_BestRoute.bits8 (fun HT_ HW_ => ?_)
      generalize wr.drew = w44 at BK464 BK465 BK468 HB hx469_0 hx469_1 hx469_2 hHeld ⊢
      refine pz_ 0 26 ba16_1 HT_ ?_
      refine pz_ 2 28 ba16_2 HT_ ?_
      refine pz_ 6 32 ba16_3 HT_ ?_
      refine pt_ 1 27 ba16_4 HT_ HW_ hHeld ?_
      refine pz_ 3 29 ba16_5 HT_ ?_
      refine pz_ 4 30 ba16_6 HT_ ?_
      refine pt_ 5 31 ba16_7 HT_ HW_ hHeld ?_
      refine one_ (i := 7) (N := some 33) ba16_8 rfl rfl (one_of HT_.out (by kernel_rfl)) (by decide) (fun K hK => ?_)
      refine gz_ Try.func16 #[.agg #[.int .i64 ((rd_T30 l0_0 x8_2).f0.f0), .int .i64 ((rd_T30 l0_0 x8_2).f0.f1)], .int .i64 a1] ?_
      with_reducible refine (spec_HasAddr.calls ((rd_T30 l0_0 x8_2).f0.f0) ((rd_T30 l0_0 x8_2).f0.f1) a1 true _ A24.out).mono ?_
      rintro e w45 ⟨rfl, hb⟩
      refine ⟨_, rfl, ?_⟩
      replace BK464 := ab_ BK464 hb
      replace BK465 := ab_ BK465 hb
      replace BK468 := ab_ BK468 hb
      replace HB := at_ HB hb
      (try clear hb)
      (try clear hb2)
      (try clear hk)
      (try clear hi)
      refine hK.out _ _ ⟨(blk_cell BK464.out 0).trans rfl, (hc_ HB hw469_0), (hc_ HB hw469_1), (hc_ HB hw469_2)⟩ (fun hHeld => ?_)
      clear hK K
      refine nz_ 33 ?_
      refine pz_ 8 34 ba16_9 HT_ ?_
      refine pz_ 9 35 ba16_10 HT_ ?_
      refine pz_ 10 36 ba16_11 HT_ ?_
      refine pz_ 11 37 ba16_12 HT_ ?_
      refine pu_ 12 38 ba16_13 HT_ ?_
      refine pu_ 13 39 ba16_26 HT_ ?_
      refine pu_ 14 40 ba16_27 HT_ ?_
      refine pu_ 15 41 ba16_28 HT_ ?_
      refine pu_ 16 42 ba16_29 HT_ ?_
      refine pu_ 17 43 ba16_30 HT_ ?_
      refine pu_ 18 44 ba16_31 HT_ ?_
      refine pu_ 19 45 ba16_32 HT_ ?_
      refine pu_ 20 46 ba16_21 HT_ ?_
      refine pu_ 21 47 ba16_22 HT_ ?_
      refine pu_ 22 48 ba16_23 HT_ ?_
      refine pz_ 23 49 ba16_24 HT_ ?_
      refine pz_ 24 50 ba16_25 HT_ ?_
      refine done_ (done_of HT_.out (by kernel_rfl)) ?_
      have hcz46_0 := cz_ BK464 0 (.slice (some ad469) l0_0.length c0_0)
      have hfz46_0 := fz_ BK464 0
      have p473 : 0 ≤ (x8_2 : Int) := oa_
      have q473 : x8_2 < (l0_0.length : Int) := oa_
      obtain ⟨ad473, e473, hx473_0, hx473_1, hx473_2⟩ := at_T30 HR0_0.out x8_2 p473 q473
      obtain rfl : ad469 = ad473 := (by injection e473)
      replace hx473_0 := (HB.out.cell (World.block_lt_of_cell? w _ hx473_0)).trans hx473_0
      replace hx473_1 := (HB.out.cell (World.block_lt_of_cell? w _ hx473_1)).trans hx473_1
      replace hx473_2 := (HB.out.cell (World.block_lt_of_cell? w _ hx473_2)).trans hx473_2
      replace p473 := eq_true p473
      replace q473 := eq_true q473
      have hnb47 := NB468_465.out
      have hnc47 := NB465_468.out
      have hcz48_0 := cz_ BK468 0 (.int .i64 x469000_2)
      have hcz48_1 := cz_ BK468 1 (.int .i64 x469001_2)
      have hcz48_2 := cz_ BK468 2 (.int .i64 x469002_2)
      have hfz48_0 := fz_ BK468 0
      have hfz48_1 := fz_ BK468 1
      have hfz48_2 := fz_ BK468 2
      try go_wp2
      go_roundg k2
      case measure => have := HJ2.out; have := HK2.out; omega
      case rel => exact ⟨(true), (wrap64 (x8_2 + 1)), ((rd_T30 l0_0 x8_2).f0.f0), ((rd_T30 l0_0 x8_2).f0.f1), ((rd_T30 l0_0 x8_2).f1), er_, er_, H', ⟨by have := HJ2.out; have := HK2.out; omega⟩, ⟨bc_ BK464⟩, ⟨bc_ BK465⟩, ⟨by refine bd_ ?_; refine blk_put (cs := #[.int .i64 ((rd_T30 l0_0 x8_2).f0.f0), .int .i64 ((rd_T30 l0_0 x8_2).f0.f1), .int .i64 x469002_2]) ?_ 2 _ rfl; refine bd_ ?_; refine blk_put (cs := #[.int .i64 ((rd_T30 l0_0 x8_2).f0.f0), .int .i64 x469001_2, .int .i64 x469002_2]) ?_ 1 _ rfl; refine bd_ ?_; refine blk_put (cs := #[.int .i64 x469000_2, .int .i64 x469001_2, .int .i64 x469002_2]) ?_ 0 _ rfl; refine bd_ ?_; exact BK468.out⟩, ⟨bw112_⟩⟩
     subst c26
     rw [if_pos rfl] at H
     have Hh_ := Aside0.mk H
     clear H
     have p471 : 0 ≤ (x8_2 : Int) := oa_
     have q471 : x8_2 < (l0_0.length : Int) := oa_
     obtain ⟨ad471, e471, hx471_0, hx471_1, hx471_2⟩ := at_T30 HR0_0.out x8_2 p471 q471
     have hw471_2 := hx471_2
     have hw471_1 := hx471_1
     have hw471_0 := hx471_0
     obtain rfl : ad469 = ad471 := (by injection e471)
     replace hx471_0 := (HB.out.cell (World.block_lt_of_cell? w _ hx471_0)).trans hx471_0
     replace hx471_1 := (HB.out.cell (World.block_lt_of_cell? w _ hx471_1)).trans hx471_1
     replace hx471_2 := (HB.out.cell (World.block_lt_of_cell? w _ hx471_2)).trans hx471_2
     replace p471 := eq_true p471
     replace q471 := eq_true q471
     refine start_ (n := 25) (S := fun w' => w'.cell? ⟨gb464, 0, none⟩ = some (.slice (some ad469) l0_0.length c0_0) ∧ w'.cell? ⟨gb468, 0, none⟩ = some (.int .i64 x469000_2) ∧ w'.cell? ⟨gb468, 1, none⟩ = some (.int .i64 x469001_2) ∧ w'.cell? ⟨gb468, 2, none⟩ = some (.int .i64 x469002_2) ∧ w'.cell? (ad469.add ((x8_2).toNat * 3)) = some (.int .i64 ((rd_T30 l0_0 x8_2).f0.f0)) ∧ w'.cell? ⟨(ad469.add ((x8_2).toNat * 3)).block, (ad469.add ((x8_2).toNat * 3)).off + 1, none⟩ = some (.int .i64 ((rd_T30 l0_0 x8_2).f0.f1)) ∧ w'.cell? ⟨(ad469.add ((x8_2).toNat * 3)).block, (ad469.add ((x8_2).toNat * 3)).off + 2, none⟩ = some (.int .i64 ((rd_T30 l0_0 x8_2).f1)) ∧ w'.cell? (ad469.add ((x8_2).toNat * 3)) = some (.int .i64 ((rd_T30 l0_0 x8_2).f0.f0)) ∧ w'.cell? ⟨(ad469.add ((x8_2).toNat * 3)).block, (ad469.add ((x8_2).toNat * 3)).off + 1, none⟩ = some (.int .i64 ((rd_T30 l0_0 x8_2).f0.f1)) ∧ w'.cell? ⟨(ad469.add ((x8_2).toNat * 3)).block, (ad469.add ((x8_2).toNat * 3)).off + 2, none⟩ = some (.int .i64 ((rd_T30 l0_0 x8_2).f1))) (ds := []) ba16_0 (by kernel_rfl) rfl rfl ⟨(blk_cell BK464.out 0).trans rfl, (blk_cell BK468.out 0).trans rfl, (blk_cell BK468.out 1).trans rfl, (blk_cell BK468.out 2).trans rfl, (hc_ HB hw469_0), (hc_ HB hw469_1), (hc_ HB hw469_2), (hc_ HB hw471_0), (hc_ HB hw471_1), (hc_ HB hw471_2)⟩ (fun hHeld => ?_); refine with_tabW spec_BestRoute.tab8 spec_BestRoute.bits8 (fun HT_ HW_ => ?_)
     generalize wr.drew = w31 at BK464 BK465 BK468 HB hx469_0 hx469_1 hx469_2 hx471_0 hx471_1 hx471_2 hHeld ⊢
     refine pz_ 0 26 ba16_1 HT_ ?_
     refine pz_ 2 28 ba16_2 HT_ ?_
     refine pz_ 6 32 ba16_3 HT_ ?_
     refine pt_ 1 27 ba16_4 HT_ HW_ hHeld ?_
     refine pz_ 3 29 ba16_5 HT_ ?_
     refine pz_ 4 30 ba16_6 HT_ ?_
     refine pt_ 5 31 ba16_7 HT_ HW_ hHeld ?_
     refine one_ (i := 7) (N := some 33) ba16_8 rfl rfl (one_of HT_.out (by kernel_rfl)) (by decide) (fun K hK => ?_)
     refine gz_ Try.func16 #[.agg #[.int .i64 ((rd_T30 l0_0 x8_2).f0.f0), .int .i64 ((rd_T30 l0_0 x8_2).f0.f1)], .int .i64 a1] ?_
     with_reducible refine (spec_HasAddr.calls ((rd_T30 l0_0 x8_2).f0.f0) ((rd_T30 l0_0 x8_2).f0.f1) a1 true _ A24.out).mono ?_
     rintro e w32 ⟨rfl, hb⟩
     refine ⟨_, rfl, ?_⟩
     replace BK464 := ab_ BK464 hb
     replace BK465 := ab_ BK465 hb
     replace BK468 := ab_ BK468 hb
     replace HB := at_ HB hb
     (try clear hb)
     (try clear hb2)
     (try clear hk)
     (try clear hi)
     refine hK.out _ _ ⟨(blk_cell BK464.out 0).trans rfl, (blk_cell BK468.out 0).trans rfl, (blk_cell BK468.out 1).trans rfl, (blk_cell BK468.out 2).trans rfl, (hc_ HB hw469_0), (hc_ HB hw469_1), (hc_ HB hw469_2), (hc_ HB hw471_0), (hc_ HB hw471_1), (hc_ HB hw471_2)⟩ (fun hHeld => ?_)
     clear hK K
     refine nz_ 33 ?_
     have H := Hh_.out
     clear Hh_
     by_cases c27 : ((rd_T30 l0_0 x8_2).f0.f1) > x469001_2
     rotate_left
     ·rw [if_neg c27] at H
      have c27b0 : decide (x469001_2 < ((rd_T30 l0_0 x8_2).f0.f1)) = false := decide_eq_false c27
      clear c27
      have H' := Aside0.mk H
      clear H
      refine pz_ 8 34 ba16_9 HT_ ?_
      refine pz_ 9 35 ba16_10 HT_ ?_
      refine pz_ 10 36 ba16_11 HT_ ?_
      refine pz_ 11 37 ba16_12 HT_ ?_
      refine pz_ 12 38 ba16_13 HT_ ?_
      refine pz_ 14 40 ba16_14 HT_ ?_
      refine pz_ 19 45 ba16_15 HT_ ?_
      refine pz_ 20 46 ba16_16 HT_ ?_
      refine pt_ 13 39 ba16_17 HT_ HW_ hHeld ?_
      refine pz_ 15 41 ba16_18 HT_ ?_
      refine pz_ 16 42 ba16_19 HT_ ?_
      refine pz_ 17 43 ba16_20 HT_ ?_
      refine pt_ 18 44 ba16_21 HT_ HW_ hHeld ?_
      refine pt_ 21 47 ba16_22 HT_ HW_ hHeld ?_
      refine pz_ 22 48 ba16_23 HT_ ?_
      refine pz_ 23 49 ba16_24 HT_ ?_
      refine pz_ 24 50 ba16_25 HT_ ?_
      refine done_ (done_of HT_.out (by kernel_rfl)) ?_
      try go_wp2
      go_roundg k2
      case measure => have := HJ2.out; have := HK2.out; omega
      case rel => exact ⟨(true), (wrap64 (x8_2 + 1)), (x469000_2), (x469001_2), (x469002_2), er_, er_, H', ⟨by have := HJ2.out; have := HK2.out; omega⟩, ⟨bx_ BK464⟩, ⟨bx_ BK465⟩, ⟨bx_ BK468⟩, ⟨bw112_⟩⟩
     rw [if_pos c27] at H
     have c27b0 : decide (x469001_2 < ((rd_T30 l0_0 x8_2).f0.f1)) = true := decide_eq_true c27
     clear c27
     have H' := Aside0.mk H
     clear H
     refine pz_ 8 34 ba16_9 HT_ ?_
     refine pz_ 9 35 ba16_10 HT_ ?_
     refine pz_ 10 36 ba16_11 HT_ ?_
     refine pz_ 11 37 ba16_12 HT_ ?_
     refine pz_ 12 38 ba16_13 HT_ ?_
     refine pz_ 14 40 ba16_14 HT_ ?_
     refine pz_ 19 45 ba16_15 HT_ ?_
     refine pz_ 20 46 ba16_16 HT_ ?_
     refine pt_ 13 39 ba16_17 HT_ HW_ hHeld ?_
     refine pz_ 15 41 ba16_18 HT_ ?_
     refine pz_ 16 42 ba16_19 HT_ ?_
     refine pz_ 17 43 ba16_20 HT_ ?_
     refine pt_ 18 44 ba16_21 HT_ HW_ hHeld ?_
     refine pt_ 21 47 ba16_22 HT_ HW_ hHeld ?_
     refine pz_ 22 48 ba16_23 HT_ ?_
     refine pz_ 23 49 ba16_24 HT_ ?_
     refine pz_ 24 50 ba16_25 HT_ ?_
     refine done_ (done_of HT_.out (by kernel_rfl)) ?_
     have hcz33_0 := cz_ BK464 0 (.slice (some ad469) l0_0.length c0_0)
     have hfz33_0 := fz_ BK464 0
     have p472 : 0 ≤ (x8_2 : Int) := oa_
     have q472 : x8_2 < (l0_0.length : Int) := oa_
     obtain ⟨ad472, e472, hx472_0, hx472_1, hx472_2⟩ := at_T30 HR0_0.out x8_2 p472 q472
     obtain rfl : ad469 = ad472 := (by injection e472)
     replace hx472_0 := (HB.out.cell (World.block_lt_of_cell? w _ hx472_0)).trans hx472_0
     replace hx472_1 := (HB.out.cell (World.block_lt_of_cell? w _ hx472_1)).trans hx472_1
     replace hx472_2 := (HB.out.cell (World.block_lt_of_cell? w _ hx472_2)).trans hx472_2
     replace p472 := eq_true p472
     replace q472 := eq_true q472
     have hnb34 := NB468_465.out
     have hnc34 := NB465_468.out
     have hcz35_0 := cz_ BK468 0 (.int .i64 x469000_2)
     have hcz35_1 := cz_ BK468 1 (.int .i64 x469001_2)
     have hcz35_2 := cz_ BK468 2 (.int .i64 x469002_2)
     have hfz35_0 := fz_ BK468 0
     have hfz35_1 := fz_ BK468 1
     have hfz35_2 := fz_ BK468 2
     try go_wp2
     go_roundg k2
     case measure => have := HJ2.out; have := HK2.out; omega
     case rel => exact ⟨(true), (wrap64 (x8_2 + 1)), ((rd_T30 l0_0 x8_2).f0.f0), ((rd_T30 l0_0 x8_2).f0.f1), ((rd_T30 l0_0 x8_2).f1), er_, er_, H', ⟨by have := HJ2.out; have := HK2.out; omega⟩, ⟨bc_ BK464⟩, ⟨bc_ BK465⟩, ⟨by refine bd_ ?_; refine blk_put (cs := #[.int .i64 ((rd_T30 l0_0 x8_2).f0.f0), .int .i64 ((rd_T30 l0_0 x8_2).f0.f1), .int .i64 x469002_2]) ?_ 2 _ rfl; refine bd_ ?_; refine blk_put (cs := #[.int .i64 ((rd_T30 l0_0 x8_2).f0.f0), .int .i64 x469001_2, .int .i64 x469002_2]) ?_ 1 _ rfl; refine bd_ ?_; refine blk_put (cs := #[.int .i64 x469000_2, .int .i64 x469001_2, .int .i64 x469002_2]) ?_ 0 _ rfl; refine bd_ ?_; exact BK468.out⟩, ⟨bw112_⟩⟩

end Go.Proofs.Ytjepmdngbafonaa.QFnRoutes
