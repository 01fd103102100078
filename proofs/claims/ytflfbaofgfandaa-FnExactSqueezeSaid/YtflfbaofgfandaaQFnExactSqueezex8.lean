/- Contracts of functions that the law reaches: what each call returns and what it leaves in memory. Made by this session over the print of the kit. -/
import Derived.Test.YtflfbaofgfandaaQFnExactSqueezex0
import Derived.Test.YtflfbaofgfandaaQFnExactSqueezex5
import Derived.Test.YtflfbaofgfandaaQFnExactSqueezex6
import Derived.Test.YtflfbaofgfandaaQFnExactSqueezex7
namespace Go.Proofs.Ytflfbaofgfandaa.QFnExactSqueeze
open Go.RowKit Go.Proofs.YtflfbaofgfandaaQ.PrintWords Go.Proofs.YtflfbaofgfandaaQ.PrintLast Go.Proofs.YtflfbaofgfandaaQ.PrintMore
attribute [local go_sem] max2_int min2_int max_two min_two max_three min_three max_four min_four   -- for this text's walks alone
set_option linter.unusedVariables false
set_option linter.unusedSimpArgs false
abbrev tb8 : Bool := true
abbrev fb8 : Bool := false
def ba8_0 : Array Bool := #[fb8,fb8,fb8,fb8,fb8,fb8,fb8,fb8,fb8,fb8,fb8,fb8,fb8,fb8,fb8,fb8,fb8,fb8,fb8,fb8,fb8,fb8,fb8,fb8,fb8]
def ba8_1 : Array Bool := #[tb8,fb8,fb8,fb8,fb8,fb8,fb8,fb8,fb8,fb8,fb8,fb8,fb8,fb8,fb8,fb8,fb8,fb8,fb8,fb8,fb8,fb8,fb8,fb8,fb8]
def ba8_2 : Array Bool := #[tb8,fb8,tb8,fb8,fb8,fb8,fb8,fb8,fb8,fb8,fb8,fb8,fb8,fb8,fb8,fb8,fb8,fb8,fb8,fb8,fb8,fb8,fb8,fb8,fb8]
def ba8_3 : Array Bool := #[tb8,fb8,tb8,fb8,fb8,fb8,tb8,fb8,fb8,fb8,fb8,fb8,fb8,fb8,fb8,fb8,fb8,fb8,fb8,fb8,fb8,fb8,fb8,fb8,fb8]
def ba8_4 : Array Bool := #[tb8,tb8,tb8,fb8,fb8,fb8,tb8,fb8,fb8,fb8,fb8,fb8,fb8,fb8,fb8,fb8,fb8,fb8,fb8,fb8,fb8,fb8,fb8,fb8,fb8]
def ba8_5 : Array Bool := #[tb8,tb8,tb8,tb8,fb8,fb8,tb8,fb8,fb8,fb8,fb8,fb8,fb8,fb8,fb8,fb8,fb8,fb8,fb8,fb8,fb8,fb8,fb8,fb8,fb8]
def ba8_6 : Array Bool := #[tb8,tb8,tb8,tb8,tb8,fb8,tb8,fb8,fb8,fb8,fb8,fb8,fb8,fb8,fb8,fb8,fb8,fb8,fb8,fb8,fb8,fb8,fb8,fb8,fb8]
def ba8_7 : Array Bool := #[tb8,tb8,tb8,tb8,tb8,tb8,tb8,fb8,fb8,fb8,fb8,fb8,fb8,fb8,fb8,fb8,fb8,fb8,fb8,fb8,fb8,fb8,fb8,fb8,fb8]
def ba8_8 : Array Bool := #[tb8,tb8,tb8,tb8,tb8,tb8,tb8,tb8,fb8,fb8,fb8,fb8,fb8,fb8,fb8,fb8,fb8,fb8,fb8,fb8,fb8,fb8,fb8,fb8,fb8]
def ba8_9 : Array Bool := #[tb8,tb8,tb8,tb8,tb8,tb8,tb8,tb8,tb8,fb8,fb8,fb8,fb8,fb8,fb8,fb8,fb8,fb8,fb8,fb8,fb8,fb8,fb8,fb8,fb8]
def ba8_10 : Array Bool := #[tb8,tb8,tb8,tb8,tb8,tb8,tb8,tb8,tb8,tb8,fb8,fb8,fb8,fb8,fb8,fb8,fb8,fb8,fb8,fb8,fb8,fb8,fb8,fb8,fb8]
def ba8_11 : Array Bool := #[tb8,tb8,tb8,tb8,tb8,tb8,tb8,tb8,tb8,tb8,tb8,fb8,fb8,fb8,fb8,fb8,fb8,fb8,fb8,fb8,fb8,fb8,fb8,fb8,fb8]
def ba8_12 : Array Bool := #[tb8,tb8,tb8,tb8,tb8,tb8,tb8,tb8,tb8,tb8,tb8,tb8,fb8,fb8,fb8,fb8,fb8,fb8,fb8,fb8,fb8,fb8,fb8,fb8,fb8]
def ba8_13 : Array Bool := #[tb8,tb8,tb8,tb8,tb8,tb8,tb8,tb8,tb8,tb8,tb8,tb8,tb8,fb8,fb8,fb8,fb8,fb8,fb8,fb8,fb8,fb8,fb8,fb8,fb8]
def ba8_14 : Array Bool := #[tb8,tb8,tb8,tb8,tb8,tb8,tb8,tb8,tb8,tb8,tb8,tb8,tb8,fb8,tb8,fb8,fb8,fb8,fb8,fb8,fb8,fb8,fb8,fb8,fb8]
def ba8_15 : Array Bool := #[tb8,tb8,tb8,tb8,tb8,tb8,tb8,tb8,tb8,tb8,tb8,tb8,tb8,fb8,tb8,fb8,fb8,fb8,fb8,tb8,fb8,fb8,fb8,fb8,fb8]
def ba8_16 : Array Bool := #[tb8,tb8,tb8,tb8,tb8,tb8,tb8,tb8,tb8,tb8,tb8,tb8,tb8,fb8,tb8,fb8,fb8,fb8,fb8,tb8,tb8,fb8,fb8,fb8,fb8]
def ba8_17 : Array Bool := #[tb8,tb8,tb8,tb8,tb8,tb8,tb8,tb8,tb8,tb8,tb8,tb8,tb8,tb8,tb8,fb8,fb8,fb8,fb8,tb8,tb8,fb8,fb8,fb8,fb8]
def ba8_18 : Array Bool := #[tb8,tb8,tb8,tb8,tb8,tb8,tb8,tb8,tb8,tb8,tb8,tb8,tb8,tb8,tb8,tb8,fb8,fb8,fb8,tb8,tb8,fb8,fb8,fb8,fb8]
def ba8_19 : Array Bool := #[tb8,tb8,tb8,tb8,tb8,tb8,tb8,tb8,tb8,tb8,tb8,tb8,tb8,tb8,tb8,tb8,tb8,fb8,fb8,tb8,tb8,fb8,fb8,fb8,fb8]
def ba8_20 : Array Bool := #[tb8,tb8,tb8,tb8,tb8,tb8,tb8,tb8,tb8,tb8,tb8,tb8,tb8,tb8,tb8,tb8,tb8,tb8,fb8,tb8,tb8,fb8,fb8,fb8,fb8]
def ba8_21 : Array Bool := #[tb8,tb8,tb8,tb8,tb8,tb8,tb8,tb8,tb8,tb8,tb8,tb8,tb8,tb8,tb8,tb8,tb8,tb8,tb8,tb8,tb8,fb8,fb8,fb8,fb8]
def ba8_22 : Array Bool := #[tb8,tb8,tb8,tb8,tb8,tb8,tb8,tb8,tb8,tb8,tb8,tb8,tb8,tb8,tb8,tb8,tb8,tb8,tb8,tb8,tb8,tb8,fb8,fb8,fb8]
def ba8_23 : Array Bool := #[tb8,tb8,tb8,tb8,tb8,tb8,tb8,tb8,tb8,tb8,tb8,tb8,tb8,tb8,tb8,tb8,tb8,tb8,tb8,tb8,tb8,tb8,tb8,fb8,fb8]
def ba8_24 : Array Bool := #[tb8,tb8,tb8,tb8,tb8,tb8,tb8,tb8,tb8,tb8,tb8,tb8,tb8,tb8,tb8,tb8,tb8,tb8,tb8,tb8,tb8,tb8,tb8,tb8,fb8]
def ba8_25 : Array Bool := #[tb8,tb8,tb8,tb8,tb8,tb8,tb8,tb8,tb8,tb8,tb8,tb8,tb8,tb8,tb8,tb8,tb8,tb8,tb8,tb8,tb8,tb8,tb8,tb8,tb8]
def ba8_26 : Array Bool := #[tb8,tb8,tb8,tb8,tb8,tb8,tb8,tb8,tb8,tb8,tb8,tb8,tb8,tb8,fb8,fb8,fb8,fb8,fb8,fb8,fb8,fb8,fb8,fb8,fb8]
def ba8_27 : Array Bool := #[tb8,tb8,tb8,tb8,tb8,tb8,tb8,tb8,tb8,tb8,tb8,tb8,tb8,tb8,tb8,fb8,fb8,fb8,fb8,fb8,fb8,fb8,fb8,fb8,fb8]
def ba8_28 : Array Bool := #[tb8,tb8,tb8,tb8,tb8,tb8,tb8,tb8,tb8,tb8,tb8,tb8,tb8,tb8,tb8,tb8,fb8,fb8,fb8,fb8,fb8,fb8,fb8,fb8,fb8]
def ba8_29 : Array Bool := #[tb8,tb8,tb8,tb8,tb8,tb8,tb8,tb8,tb8,tb8,tb8,tb8,tb8,tb8,tb8,tb8,tb8,fb8,fb8,fb8,fb8,fb8,fb8,fb8,fb8]
def ba8_30 : Array Bool := #[tb8,tb8,tb8,tb8,tb8,tb8,tb8,tb8,tb8,tb8,tb8,tb8,tb8,tb8,tb8,tb8,tb8,tb8,fb8,fb8,fb8,fb8,fb8,fb8,fb8]
def ba8_31 : Array Bool := #[tb8,tb8,tb8,tb8,tb8,tb8,tb8,tb8,tb8,tb8,tb8,tb8,tb8,tb8,tb8,tb8,tb8,tb8,tb8,fb8,fb8,fb8,fb8,fb8,fb8]
def ba8_32 : Array Bool := #[tb8,tb8,tb8,tb8,tb8,tb8,tb8,tb8,tb8,tb8,tb8,tb8,tb8,tb8,tb8,tb8,tb8,tb8,tb8,tb8,fb8,fb8,fb8,fb8,fb8]

/-! ### spec_BestRoute: function 68 -/
mutual
def spec_BestRoute.j0 : Nat → Int → Bool → List (S43) → Option (Int × Int × Int × Bool)
 | 0, _, _, _ => none
 | k + 1, x1, x16, x183000 => if x16 = true then (some (0, 0, 0, false)) else (spec_BestRoute.l0 k x1 false 0 x183000 0 0 0)
def spec_BestRoute.l0 : Nat → Int → Bool → Int → List (S43) → Int → Int → Int → Option (Int × Int × Int × Bool)
 | 0, _, _, _, _, _, _, _ => none
 | k + 1, x1, x7, x8, x183000, x187000, x187001, x187002 => if x8 < (x183000.length : Int) then (if 0 ≤ x8 then ((spec_HasAddr.f ((rd_T43 x183000 x8).f0.f0) ((rd_T43 x183000 x8).f0.f1) x1).bind fun t188 => (if t188 = true then (if x7 = true then (if ((rd_T43 x183000 x8).f0.f1) > x187001 then (spec_BestRoute.l0 k x1 true (wrap64 (x8 + 1)) x183000 ((rd_T43 x183000 x8).f0.f0) ((rd_T43 x183000 x8).f0.f1) ((rd_T43 x183000 x8).f1)) else (spec_BestRoute.l0 k x1 x7 (wrap64 (x8 + 1)) x183000 x187000 x187001 x187002)) else (spec_BestRoute.l0 k x1 true (wrap64 (x8 + 1)) x183000 ((rd_T43 x183000 x8).f0.f0) ((rd_T43 x183000 x8).f0.f1) ((rd_T43 x183000 x8).f1))) else (spec_BestRoute.l0 k x1 x7 (wrap64 (x8 + 1)) x183000 x187000 x187001 x187002))) else (none)) else (some (x187000, x187001, x187002, x7))
end
def spec_BestRoute.f (k : Nat) (l0_0 : List (S43)) (a1 : Int) : Option (Int × Int × Int × Bool) := (spec_TableOk.f k l0_0).bind fun t184 => (if t184 = true then ((spec_l01Addr.f a1).bind fun t185 => (spec_BestRoute.j0 k a1 (!t185) l0_0)) else (spec_BestRoute.j0 k a1 true l0_0))
theorem spec_BestRoute.mono_l : ∀ k, (∀ y0 y1 y2, LeO (spec_BestRoute.j0 k y0 y1 y2) (spec_BestRoute.j0 (k + 1) y0 y1 y2)) ∧ (∀ y0 y1 y2 y3 y4 y5 y6, LeO (spec_BestRoute.l0 k y0 y1 y2 y3 y4 y5 y6) (spec_BestRoute.l0 (k + 1) y0 y1 y2 y3 y4 y5 y6))
 | 0 => ⟨fun _ _ _ r h => by simp [spec_BestRoute.j0] at h, fun _ _ _ _ _ _ _ r h => by simp [spec_BestRoute.l0] at h⟩
 | k + 1 => by
  obtain ⟨ih0, ih1⟩ := spec_BestRoute.mono_l k
  refine ⟨?_, ?_⟩
  ·intro y0 y1 y2
   unfold spec_BestRoute.j0
   repeat' first
   | (with_reducible exact ih0 _ _ _)
   | (with_reducible exact ih1 _ _ _ _ _ _ _)
   | (with_reducible exact spec_TableOk.mono _ _)
   | (with_reducible exact LeO.refl _)
   | (with_reducible exact LeO.none _)
   | (with_reducible refine LeO.ite ?_ ?_)
   | (with_reducible refine LeO.bind ?_ (fun _ => ?_))
   | exact ih0 _ _ _
   | exact ih1 _ _ _ _ _ _ _
   | exact spec_TableOk.mono _ _
   | exact LeO.none _
   | refine LeO.ite ?_ ?_
   | refine LeO.bind ?_ (fun _ => ?_)
  ·intro y0 y1 y2 y3 y4 y5 y6
   unfold spec_BestRoute.l0
   repeat' first
   | (with_reducible exact ih0 _ _ _)
   | (with_reducible exact ih1 _ _ _ _ _ _ _)
   | (with_reducible exact spec_TableOk.mono _ _)
   | (with_reducible exact LeO.refl _)
   | (with_reducible exact LeO.none _)
   | (with_reducible refine LeO.ite ?_ ?_)
   | (with_reducible refine LeO.bind ?_ (fun _ => ?_))
   | exact ih0 _ _ _
   | exact ih1 _ _ _ _ _ _ _
   | exact spec_TableOk.mono _ _
   | exact LeO.none _
   | refine LeO.ite ?_ ?_
   | refine LeO.bind ?_ (fun _ => ?_)
theorem spec_BestRoute.mono : ∀ a0 a1 k, LeO (spec_BestRoute.f k a0 a1) (spec_BestRoute.f (k + 1) a0 a1) := by
 intro a0 a1 k
 obtain ⟨ih0, ih1⟩ := spec_BestRoute.mono_l k
 unfold spec_BestRoute.f
 repeat' first
   | (with_reducible exact ih0 _ _ _)
   | (with_reducible exact ih1 _ _ _ _ _ _ _)
   | (with_reducible exact spec_TableOk.mono _ _)
   | (with_reducible exact LeO.refl _)
   | (with_reducible exact LeO.none _)
   | (with_reducible refine LeO.ite ?_ ?_)
   | (with_reducible refine LeO.bind ?_ (fun _ => ?_))
   | exact ih0 _ _ _
   | exact ih1 _ _ _ _ _ _ _
   | exact spec_TableOk.mono _ _
   | exact LeO.none _
   | refine LeO.ite ?_ ?_
   | refine LeO.bind ?_ (fun _ => ?_)
def spec_BestRoute.T8 : Bool × List (List Nat × List Nat) := (true, [([], []), ([0], [0]), ([], []), ([1, 2], [1, 2]), ([3], [3]), ([4], [4]), ([], []), ([5, 6], [5, 6]), ([7, 7], [7]), ([8], [8]), ([9, 8], [8, 9]), ([10, 8, 8], [8, 10]), ([11], [11]), ([12, 11], [11, 12]), ([11], [11]), ([13, 14, 11], [11, 13, 14]), ([15, 11], [11, 15]), ([16, 11], [11, 16]), ([17, 11], [11, 17]), ([11], [11]), ([19, 11], [11, 19]), ([20, 11], [11, 20]), ([18, 21, 11], [11, 18, 21]), ([11, 22, 8], [8, 11, 22]), ([8, 23], [8, 23])])
def spec_BestRoute.B8 : List Nat := [0, 1, 0, 7, 15, 31, 0, 127, 255, 511, 1023, 2047, 4095, 8191, 4095, 32767, 65535, 131071, 262143, 4095, 528383, 1576959, 4194303, 8388607, 16777215]
theorem spec_BestRoute.tab8 : rtab .any (opsOf Try.f68 8) = spec_BestRoute.T8 := by kernel_rfl
theorem spec_BestRoute.bits8 : waitsOk spec_BestRoute.T8.2 spec_BestRoute.B8 = true := by kernel_rfl
set_option maxHeartbeats 8000000 in
set_option maxRecDepth 100000 in
theorem spec_BestRoute.calls (k : Nat) (A0_0 : Option Addr) (c0_0 : Nat) (l0_0 : List (S43)) (a1 : Int) (r1 : Int) (r2 : Int) (r3 : Int) (r4 : Bool) (w : World) (hr0_0 : Kd.C k43 w A0_0 l0_0.length l0_0) (hc0_0 : l0_0.length ≤ c0_0) (h : spec_BestRoute.f k l0_0 a1 = some (r1, r2, r3, r4)) :
  Calls Try.prog 68 #[.agg #[.slice A0_0 l0_0.length c0_0], .int .i64 a1] w fun e w' => e = .returned (.tuple #[.agg #[.int .i64 r1, .int .i64 r2, .int .i64 r3], .bool r4]) ∧ Below w.heap.size w w' := by
 have hu30 := Try.underlying30
 have hu43 := Try.underlying43
 have hu34 := Try.underlying34
 have HR0_0 := Aside0.mk hr0_0
 have HC0_0 := Aside0.mk hc0_0
 clear hr0_0 hc0_0
 have HB := Aside0.mk (Below.refl w.heap.size w)
 have H : ((spec_TableOk.f k l0_0).bind fun t184 => (if t184 = true then ((spec_l01Addr.f a1).bind fun t185 => (spec_BestRoute.j0 k a1 (!t185) l0_0)) else (spec_BestRoute.j0 k a1 true l0_0))) = some (r1, r2, r3, r4) := h
 clear h
 have HC3 := Aside0.mk H
 clear H
 go_enter Try.func68, Try.ntmps68
 go_upto_region 1 with (first | ((with_reducible refine gate_dst (N := 2) rfl ?_); refine box_event ?hg (N := 2) ?hd (cs := #[.slice A0_0 l0_0.length c0_0]) (t := 30) ?hr ?_; (case hd => rfl); (case hg => rfl); (case hr => first | (go_simp; done) | (go_simp; rfl)); intro gb182 hg w4 hbox hb; have BK182 := Aside0.mk hbox; have GW182 := ge_ HB hg; have GE182 := ge_ HB hg; replace HB := Aside0.mk (bt_ HB hb); clear hb hbox hg) | ((with_reducible refine gate_dst (N := 4) rfl ?_); refine box_event ?hg (N := 4) ?hd (cs := #[.int .i64 0, .int .i64 0, .int .i64 0]) (t := 43) ?hr ?_; (case hd => rfl); (case hg => rfl); (case hr => first | (go_simp; done) | (go_simp; rfl)); intro gb183 hg w5 hbox hb; have BK183 := Aside0.mk hbox; have GW183 := ge_ HB hg; have GE183 := ge_ HB hg; have NB182_183 := nl_ BK182 hg; have NB183_182 := ng_ BK182 hg; replace HB := Aside0.mk (bt_ HB hb); replace BK182 := Aside0.mk (bb_ BK182 hb); clear hb hbox hg))
 (try simp only [Act.put, List.setIfInBounds_toArray, List.set_cons_zero, List.set_cons_succ])
 go_cut [16] (fun v16 wc => ∃ (kq : Nat) (x16_2 : Bool), v16 = .bool x16_2 ∧ Aside0 (spec_BestRoute.j0 kq a1 x16_2 l0_0 = some (r1, r2, r3, r4)) ∧ Aside0 (kq ≤ k) ∧ Aside0 (wc.heap[gb182]? = some (.cells #[(.slice A0_0 l0_0.length c0_0)] 30 (0, 0))) ∧ Aside0 (wc.heap[gb183]? = some (.cells #[.int .i64 0, .int .i64 0, .int .i64 0] 43 (0, 0))) ∧ Aside0 (Below w.heap.size w wc))
 case first =>
  have H := HC3.out
  clear HC3
  replace H := Option.bind_eq_some_iff.mp H
  obtain ⟨t184, A60, H⟩ := H
  have A6 := Aside0.mk A60
  clear A60
  by_cases c7 : t184 = true
  rotate_left
  ·replace c7 := Bool.eq_false_iff.mpr c7
   subst c7
   rw [if_neg (show ¬ (false = true) by decide)] at H
   have H' := Aside0.mk H
   clear H
   have hnb12 := NB182_183.out
   have hnc12 := NB183_182.out
   have hcz13_0 := cz_ BK182 0 (.slice A0_0 l0_0.length c0_0)
   have hfz13_0 := blk_frozen BK182.out 0
   go_wp2_with (first | ((with_reducible refine gate_callee (f := 27) rfl ?_); refine gl_ (some 10) Try.func27 #[.agg #[.slice A0_0 l0_0.length c0_0]] ?_; (with_reducible refine (spec_TableOk.calls k _ _ l0_0 false _ ?side1 ?side2 A6.out).mono ?_); (case side1 => exact cb_ HR0_0 HB); (case side2 => exact HC0_0.out); rintro e w14 ⟨rfl, hb⟩; refine ⟨_, rfl, ?_⟩; replace BK182 := Aside0.mk (bb_ BK182 hb); replace BK183 := Aside0.mk (bb_ BK183 hb); replace HB := Aside0.mk (bt_ HB hb); (try clear hb); (try clear hb2); (try clear hk); (try clear hi)))
   go_meet
   case rel => exact ⟨_, (true), (by first | rfl | (simp; done) | (simp [*]; done)), H', ⟨by first | omega | exact Nat.le_refl _⟩, ⟨by (with_reducible repeat (first | refine blk_drewN ?_ _ | refine blk_drew ?_ | refine blk_alloc ?_ _)); exact BK182.out⟩, ⟨by (with_reducible repeat (first | refine blk_drewN ?_ _ | refine blk_drew ?_ | refine blk_alloc ?_ _)); exact BK183.out⟩, ⟨by repeat (first | (with_reducible first | exact HB.out | apply below_alloc | apply pw_below_drewN | apply below_drew1 | refine below_set ?_ GE182.out | refine below_set ?_ GE183.out) | exact HB.out)⟩⟩
  subst c7
  rw [if_pos rfl] at H
  replace H := Option.bind_eq_some_iff.mp H
  obtain ⟨t185, A80, H⟩ := H
  have A8 := Aside0.mk A80
  clear A80
  have H' := Aside0.mk H
  clear H
  have hnb9 := NB182_183.out
  have hnc9 := NB183_182.out
  have hcz10_0 := cz_ BK182 0 (.slice A0_0 l0_0.length c0_0)
  have hfz10_0 := blk_frozen BK182.out 0
  go_wp2_with (first | ((with_reducible refine gate_callee (f := 27) rfl ?_); refine gl_ (some 10) Try.func27 #[.agg #[.slice A0_0 l0_0.length c0_0]] ?_; (with_reducible refine (spec_TableOk.calls k _ _ l0_0 true _ ?side1 ?side2 A6.out).mono ?_); (case side1 => exact cb_ HR0_0 HB); (case side2 => exact HC0_0.out); rintro e w11 ⟨rfl, hb⟩; refine ⟨_, rfl, ?_⟩; replace BK182 := Aside0.mk (bb_ BK182 hb); replace BK183 := Aside0.mk (bb_ BK183 hb); replace HB := Aside0.mk (bt_ HB hb); (try clear hb); (try clear hb2); (try clear hk); (try clear hi)) | (go_at_call 42; (with_reducible refine (spec_l01Addr.calls a1 t185 _ A8.out).mono ?_); rintro e w' ⟨rfl, ⟨nd, rfl⟩⟩))
  go_meet
  case rel => exact ⟨_, (!t185), (by first | rfl | (simp; done) | (simp [*]; done)), H', ⟨by first | omega | exact Nat.le_refl _⟩, ⟨by (with_reducible repeat (first | refine blk_drewN ?_ _ | refine blk_drew ?_ | refine blk_alloc ?_ _)); exact BK182.out⟩, ⟨by (with_reducible repeat (first | refine blk_drewN ?_ _ | refine blk_drew ?_ | refine blk_alloc ?_ _)); exact BK183.out⟩, ⟨by repeat (first | (with_reducible first | exact HB.out | apply below_alloc | apply pw_below_drewN | apply below_drew1 | refine below_set ?_ GE182.out | refine below_set ?_ GE183.out) | exact HB.out)⟩⟩
 case rest =>
  clear HC3
  try clear c1
  try clear c2
  try clear p2
  try clear c6
  try clear c7
  try clear c9
  try clear c12
  try clear hcz10_0
  try clear hcz13_0
  try clear hfz10_0
  try clear hfz13_0
  obtain ⟨kq, x16_2, rfl, HA, HJ2, BK182, BK183, HB⟩ := hcut
  cases kq with
  | zero => exact absurd HA.out (by simp [spec_BestRoute.j0])
  | succ kj2 =>
   have H := HA.out
   clear HA
   simp only [spec_BestRoute.j0] at H
   by_cases c15 : x16_2 = true
   ·subst c15
    rw [if_pos rfl] at H
    simp only [Option.some.injEq, Prod.mk.injEq] at H
    obtain ⟨rfl, rfl, rfl, rfl⟩ := H
    have hnb16 := NB183_182.out
    have hnc16 := NB182_183.out
    have hcz17_0 := cz_ BK183 0 (.int .i64 0)
    have hcz17_1 := cz_ BK183 1 (.int .i64 0)
    have hcz17_2 := cz_ BK183 2 (.int .i64 0)
    have hfz17_0 := blk_frozen BK183.out 0
    have hfz17_1 := blk_frozen BK183.out 1
    have hfz17_2 := blk_frozen BK183.out 2
    go_wp2
    refine bodyPost_ret (results_ct rfl _ _ gb183 43 #[.int .i64 0, .int .i64 0, .int .i64 0] (0, 0) _ rfl (by (with_reducible repeat (first | refine blk_drewN ?_ _ | refine blk_drew ?_ | refine blk_alloc ?_ _)); refine blk_put (cs := #[.int .i64 0, .int .i64 0, .int .i64 0]) ?_ 2 _ rfl; (with_reducible repeat (first | refine blk_drewN ?_ _ | refine blk_drew ?_ | refine blk_alloc ?_ _)); refine blk_put (cs := #[.int .i64 0, .int .i64 0, .int .i64 0]) ?_ 1 _ rfl; (with_reducible repeat (first | refine blk_drewN ?_ _ | refine blk_drew ?_ | refine blk_alloc ?_ _)); refine blk_put (cs := #[.int .i64 0, .int .i64 0, .int .i64 0]) ?_ 0 _ rfl; (with_reducible repeat (first | refine blk_drewN ?_ _ | refine blk_drew ?_ | refine blk_alloc ?_ _)); exact BK183.out) Try.underlying43 rfl (by kernel_rfl)) rfl ?_
    exact ⟨by first | rfl | (simp [errW_none, errW_some] <;> rfl) | (simp [*, errW_none, errW_some] <;> rfl), by repeat (first | (with_reducible first | exact HB.out | apply below_alloc | apply pw_below_drewN | apply below_drew1 | refine below_set ?_ GE182.out | refine below_set ?_ GE183.out) | exact HB.out)⟩
   replace c15 := Bool.eq_false_iff.mpr c15
   subst c15
   rw [if_neg (show ¬ (false = true) by decide)] at H
   have H' := Aside0.mk H
   clear H
   go_wp2_with (first | ((with_reducible refine gate_dst (N := 6) rfl ?_); refine box_event ?hg (N := 6) ?hd (cs := #[.int .i64 0, .int .i64 0, .int .i64 0]) (t := 43) ?hr ?_; (case hd => rfl); (case hg => rfl); (case hr => first | (go_simp; done) | (go_simp; rfl)); intro gb186 hg w18 hbox hb; have BK186 := Aside0.mk hbox; have GW186 := ge_ HB hg; have GE186 := ge_ HB hg; have NB182_186 := nl_ BK182 hg; have NB186_182 := ng_ BK182 hg; have NB183_186 := nl_ BK183 hg; have NB186_183 := ng_ BK183 hg; replace HB := Aside0.mk (bt_ HB hb); replace BK182 := Aside0.mk (bb_ BK182 hb); replace BK183 := Aside0.mk (bb_ BK183 hb); clear hb hbox hg; have hnb19 := NB186_182.out; have hnc19 := NB182_186.out; have hnb20 := NB186_183.out; have hnc20 := NB183_186.out; have hcz21_0 := cz_ BK186 0 (.int .i64 0); have hcz21_1 := cz_ BK186 1 (.int .i64 0); have hcz21_2 := cz_ BK186 2 (.int .i64 0); have hfz21_0 := blk_frozen BK186.out 0; have hfz21_1 := blk_frozen BK186.out 1; have hfz21_2 := blk_frozen BK186.out 2))
   go_loopg [7, 8] kj2 (fun kq v7 v8 w' => ∃ (x7_2 : Bool) (x8_2 : Int) (x187000_2 : Int) (x187001_2 : Int) (x187002_2 : Int), v7 = .bool x7_2 ∧ v8 = .int .i64 x8_2 ∧ Aside0 (spec_BestRoute.l0 kq a1 x7_2 x8_2 l0_0 x187000_2 x187001_2 x187002_2 = some (r1, r2, r3, r4)) ∧ Aside0 (kq ≤ kj2) ∧ Aside0 (w'.heap[gb182]? = some (.cells #[(.slice A0_0 l0_0.length c0_0)] 30 (0, 0))) ∧ Aside0 (w'.heap[gb183]? = some (.cells #[.int .i64 0, .int .i64 0, .int .i64 0] 43 (0, 0))) ∧ Aside0 (w'.heap[gb186]? = some (.cells #[.int .i64 x187000_2, .int .i64 x187001_2, .int .i64 x187002_2] 43 (0, 0))) ∧ Aside0 (Below w.heap.size w w'))
   case atStart => exact ⟨(false), (0), (0), (0), (0), (by first | rfl | (simp; done) | (simp [*]; done)), (by first | rfl | (simp; done) | (simp [*]; done)), H', ⟨Nat.le_refl _⟩, ⟨by (with_reducible repeat (first | refine blk_drewN ?_ _ | refine blk_drew ?_ | refine blk_alloc ?_ _)); refine blk_far ?_ NB182_186.out _; (with_reducible repeat (first | refine blk_drewN ?_ _ | refine blk_drew ?_ | refine blk_alloc ?_ _)); refine blk_far ?_ NB182_186.out _; (with_reducible repeat (first | refine blk_drewN ?_ _ | refine blk_drew ?_ | refine blk_alloc ?_ _)); refine blk_far ?_ NB182_186.out _; (with_reducible repeat (first | refine blk_drewN ?_ _ | refine blk_drew ?_ | refine blk_alloc ?_ _)); exact BK182.out⟩, ⟨by (with_reducible repeat (first | refine blk_drewN ?_ _ | refine blk_drew ?_ | refine blk_alloc ?_ _)); refine blk_far ?_ NB183_186.out _; (with_reducible repeat (first | refine blk_drewN ?_ _ | refine blk_drew ?_ | refine blk_alloc ?_ _)); refine blk_far ?_ NB183_186.out _; (with_reducible repeat (first | refine blk_drewN ?_ _ | refine blk_drew ?_ | refine blk_alloc ?_ _)); refine blk_far ?_ NB183_186.out _; (with_reducible repeat (first | refine blk_drewN ?_ _ | refine blk_drew ?_ | refine blk_alloc ?_ _)); exact BK183.out⟩, ⟨by (with_reducible repeat (first | refine blk_drewN ?_ _ | refine blk_drew ?_ | refine blk_alloc ?_ _)); refine blk_put (cs := #[.int .i64 0, .int .i64 0, .int .i64 0]) ?_ 2 _ rfl; (with_reducible repeat (first | refine blk_drewN ?_ _ | refine blk_drew ?_ | refine blk_alloc ?_ _)); refine blk_put (cs := #[.int .i64 0, .int .i64 0, .int .i64 0]) ?_ 1 _ rfl; (with_reducible repeat (first | refine blk_drewN ?_ _ | refine blk_drew ?_ | refine blk_alloc ?_ _)); refine blk_put (cs := #[.int .i64 0, .int .i64 0, .int .i64 0]) ?_ 0 _ rfl; (with_reducible repeat (first | refine blk_drewN ?_ _ | refine blk_drew ?_ | refine blk_alloc ?_ _)); exact BK186.out⟩, ⟨by repeat (first | (with_reducible first | exact HB.out | apply below_alloc | apply pw_below_drewN | apply below_drew1 | refine below_set ?_ GE182.out | refine below_set ?_ GE183.out | refine below_set ?_ GE186.out) | exact HB.out)⟩⟩
   case round =>
    clear H'
    try clear c1
    try clear c2
    try clear p2
    try clear c6
    try clear c7
    try clear c9
    try clear c12
    try clear c15
    try clear c16
    try clear c19
    try clear c20
    try clear hcz10_0
    try clear hcz13_0
    try clear hcz17_0
    try clear hcz17_1
    try clear hcz17_2
    try clear hcz21_0
    try clear hcz21_1
    try clear hcz21_2
    try clear hfz10_0
    try clear hfz13_0
    try clear hfz17_0
    try clear hfz17_1
    try clear hfz17_2
    try clear hfz21_0
    try clear hfz21_1
    try clear hfz21_2
    try clear p2
    obtain ⟨x7_2, x8_2, x187000_2, x187001_2, x187002_2, rfl, rfl, HA, HK2, BK182, BK183, BK186, HB⟩ := hrel
    cases gk with
    | zero => exact absurd HA.out (by simp [spec_BestRoute.l0])
    | succ k2 =>
     have H := HA.out
     clear HA
     simp only [spec_BestRoute.l0] at H
     by_cases c22 : x8_2 < (l0_0.length : Int)
     rotate_left
     ·rw [if_neg c22] at H
      have c22b0 : decide (x8_2 < (l0_0.length : Int)) = false := decide_eq_false c22
      clear c22
      simp only [Option.some.injEq, Prod.mk.injEq] at H
      obtain ⟨rfl, rfl, rfl, rfl⟩ := H
      have hnb54 := NB182_183.out
      have hnc54 := NB183_182.out
      have hnb55 := NB182_186.out
      have hnc55 := NB186_182.out
      have hcz56_0 := cz_ BK182 0 (.slice A0_0 l0_0.length c0_0)
      have hfz56_0 := blk_frozen BK182.out 0
      have hnb57 := NB186_183.out
      have hnc57 := NB183_186.out
      have hcz58_0 := cz_ BK186 0 (.int .i64 x187000_2)
      have hcz58_1 := cz_ BK186 1 (.int .i64 x187001_2)
      have hcz58_2 := cz_ BK186 2 (.int .i64 x187002_2)
      have hfz58_0 := blk_frozen BK186.out 0
      have hfz58_1 := blk_frozen BK186.out 1
      have hfz58_2 := blk_frozen BK186.out 2
      have hcz59_0 := cz_ BK183 0 (.int .i64 0)
      have hcz59_1 := cz_ BK183 1 (.int .i64 0)
      have hcz59_2 := cz_ BK183 2 (.int .i64 0)
      have hfz59_0 := blk_frozen BK183.out 0
      have hfz59_1 := blk_frozen BK183.out 1
      have hfz59_2 := blk_frozen BK183.out 2
      go_wp2
      refine bodyPost_ret (results_ct rfl _ _ gb183 43 #[.int .i64 x187000_2, .int .i64 x187001_2, .int .i64 x187002_2] (0, 0) _ rfl (by (with_reducible repeat (first | refine blk_drewN ?_ _ | refine blk_drew ?_ | refine blk_alloc ?_ _)); refine blk_put (cs := #[.int .i64 x187000_2, .int .i64 x187001_2, .int .i64 0]) ?_ 2 _ rfl; (with_reducible repeat (first | refine blk_drewN ?_ _ | refine blk_drew ?_ | refine blk_alloc ?_ _)); refine blk_put (cs := #[.int .i64 x187000_2, .int .i64 0, .int .i64 0]) ?_ 1 _ rfl; (with_reducible repeat (first | refine blk_drewN ?_ _ | refine blk_drew ?_ | refine blk_alloc ?_ _)); refine blk_put (cs := #[.int .i64 0, .int .i64 0, .int .i64 0]) ?_ 0 _ rfl; (with_reducible repeat (first | refine blk_drewN ?_ _ | refine blk_drew ?_ | refine blk_alloc ?_ _)); exact BK183.out) Try.underlying43 rfl (by kernel_rfl)) rfl ?_
      exact ⟨by first | rfl | (simp [errW_none, errW_some] <;> rfl) | (simp [*, errW_none, errW_some] <;> rfl), by repeat (first | (with_reducible first | exact HB.out | apply below_alloc | apply pw_below_drewN | apply below_drew1 | refine below_set ?_ GE182.out | refine below_set ?_ GE183.out | refine below_set ?_ GE186.out) | exact HB.out)⟩
     rw [if_pos c22] at H
     have c22b0 : decide (x8_2 < (l0_0.length : Int)) = true := decide_eq_true c22
     clear c22
     by_cases c23 : 0 ≤ x8_2
     rotate_left
     ·rw [if_neg c23] at H
      exact absurd H (by simp)
     rw [if_pos c23] at H
     have c23b0 : decide (0 ≤ x8_2) = true := decide_eq_true c23
     clear c23
     replace H := Option.bind_eq_some_iff.mp H
     obtain ⟨t188, A240, H⟩ := H
     have A24 := Aside0.mk A240
     clear A240
     by_cases c25 : t188 = true
     rotate_left
     ·replace c25 := Bool.eq_false_iff.mpr c25
      subst c25
      rw [if_neg (show ¬ (false = true) by decide)] at H
      have H' := Aside0.mk H
      clear H
      have hnb49 := NB182_183.out
      have hnc49 := NB183_182.out
      have hnb50 := NB182_186.out
      have hnc50 := NB186_182.out
      have hcz51_0 := cz_ BK182 0 (.slice A0_0 l0_0.length c0_0)
      have hfz51_0 := blk_frozen BK182.out 0
      try go_wp2
      replace BK182 := Aside0.mk (blk_drew BK182.out)
      replace BK183 := Aside0.mk (blk_drew BK183.out)
      replace BK186 := Aside0.mk (blk_drew BK186.out)
      replace HB := Aside0.mk (below_drew1 HB.out)
      have p187 : 0 ≤ (x8_2 : Int) := of_decide_eq_true (by first | (with_reducible assumption) | assumption)
      have q187 : x8_2 < (l0_0.length : Int) := of_decide_eq_true (by first | (with_reducible assumption) | assumption)
      obtain ⟨ad187, e187, hx187_0, hx187_1, hx187_2⟩ := at_T43 HR0_0.out x8_2 p187 q187
      have hw187_2 := hx187_2
      have hw187_1 := hx187_1
      have hw187_0 := hx187_0
      cases e187
      replace hx187_0 := (HB.out.cell (World.block_lt_of_cell? w _ hx187_0)).trans hx187_0
      replace hx187_1 := (HB.out.cell (World.block_lt_of_cell? w _ hx187_1)).trans hx187_1
      replace hx187_2 := (HB.out.cell (World.block_lt_of_cell? w _ hx187_2)).trans hx187_2
      replace p187 := eq_true p187
      replace q187 := eq_true q187
      refine start_ (n := 25) (S := fun w' => w'.cell? ⟨gb182, 0, none⟩ = some (.slice (some ad187) l0_0.length c0_0) ∧ w'.cell? (ad187.add ((x8_2).toNat * 3)) = some (.int .i64 ((rd_T43 l0_0 x8_2).f0.f0)) ∧ w'.cell? ⟨(ad187.add ((x8_2).toNat * 3)).block, (ad187.add ((x8_2).toNat * 3)).off + 1, none⟩ = some (.int .i64 ((rd_T43 l0_0 x8_2).f0.f1)) ∧ w'.cell? ⟨(ad187.add ((x8_2).toNat * 3)).block, (ad187.add ((x8_2).toNat * 3)).off + 2, none⟩ = some (.int .i64 ((rd_T43 l0_0 x8_2).f1))) (ds := []) ba8_0 (by kernel_rfl) rfl rfl ⟨(blk_cell BK182.out 0).trans rfl, (hc_ HB hw187_0), (hc_ HB hw187_1), (hc_ HB hw187_2)⟩ (fun hHeld => ?_); refine with_tabW spec_BestRoute.tab8 spec_BestRoute.bits8 (fun HT_ HW_ => ?_)
      generalize wr.drew = w52 at BK182 BK183 BK186 HB hx187_0 hx187_1 hx187_2 hHeld ⊢
      refine pz_ 0 26 ba8_1 HT_ ?_
      refine pz_ 2 28 ba8_2 HT_ ?_
      refine pz_ 6 32 ba8_3 HT_ ?_
      refine pt_ 1 27 ba8_4 HT_ HW_ hHeld ?_
      refine pz_ 3 29 ba8_5 HT_ ?_
      refine pz_ 4 30 ba8_6 HT_ ?_
      refine pt_ 5 31 ba8_7 HT_ HW_ hHeld ?_
      refine one_ (i := 7) (N := some 33) ba8_8 rfl rfl (one_of HT_.out (by kernel_rfl)) (by decide) (fun K hK => ?_)
      refine gz_ Try.func72 #[.agg #[.int .i64 ((rd_T43 l0_0 x8_2).f0.f0), .int .i64 ((rd_T43 l0_0 x8_2).f0.f1)], .int .i64 a1] ?_
      with_reducible refine (spec_HasAddr.calls ((rd_T43 l0_0 x8_2).f0.f0) ((rd_T43 l0_0 x8_2).f0.f1) a1 false _ A24.out).mono ?_
      rintro e w53 ⟨rfl, hb⟩
      refine ⟨_, rfl, ?_⟩
      replace BK182 := Aside0.mk (bb_ BK182 hb)
      replace BK183 := Aside0.mk (bb_ BK183 hb)
      replace BK186 := Aside0.mk (bb_ BK186 hb)
      replace HB := Aside0.mk (bt_ HB hb)
      (try clear hb)
      (try clear hb2)
      (try clear hk)
      (try clear hi)
      refine hK.out _ _ ⟨(blk_cell BK182.out 0).trans rfl, (hc_ HB hw187_0), (hc_ HB hw187_1), (hc_ HB hw187_2)⟩ (fun hHeld => ?_)
      clear hK K
      refine nz_ 33 ?_
      refine pz_ 8 34 ba8_9 HT_ ?_
      refine pu_ 9 35 ba8_10 HT_ ?_
      refine pu_ 10 36 ba8_11 HT_ ?_
      refine pu_ 11 37 ba8_12 HT_ ?_
      refine pu_ 12 38 ba8_13 HT_ ?_
      refine pu_ 13 39 ba8_26 HT_ ?_
      refine pu_ 14 40 ba8_27 HT_ ?_
      refine pu_ 15 41 ba8_28 HT_ ?_
      refine pu_ 16 42 ba8_29 HT_ ?_
      refine pu_ 17 43 ba8_30 HT_ ?_
      refine pu_ 18 44 ba8_31 HT_ ?_
      refine pu_ 19 45 ba8_32 HT_ ?_
      refine pu_ 20 46 ba8_21 HT_ ?_
      refine pu_ 21 47 ba8_22 HT_ ?_
      refine pu_ 22 48 ba8_23 HT_ ?_
      refine pu_ 23 49 ba8_24 HT_ ?_
      refine pz_ 24 50 ba8_25 HT_ ?_
      refine done_ (done_of HT_.out (by kernel_rfl)) ?_
      try go_wp2
      go_roundg k2
      case measure => have := HJ2.out; have := HK2.out; omega
      case rel => exact ⟨(x7_2), (wrap64 (x8_2 + 1)), (x187000_2), (x187001_2), (x187002_2), (by first | rfl | (simp; done) | (simp [*]; done)), (by first | rfl | (simp; done) | (simp [*]; done)), H', ⟨by have := HJ2.out; have := HK2.out; omega⟩, ⟨by (with_reducible repeat (first | refine blk_drewN ?_ _ | refine blk_drew ?_ | refine blk_alloc ?_ _)); exact BK182.out⟩, ⟨by (with_reducible repeat (first | refine blk_drewN ?_ _ | refine blk_drew ?_ | refine blk_alloc ?_ _)); exact BK183.out⟩, ⟨by (with_reducible repeat (first | refine blk_drewN ?_ _ | refine blk_drew ?_ | refine blk_alloc ?_ _)); exact BK186.out⟩, ⟨by repeat (first | (with_reducible first | exact HB.out | apply below_alloc | apply pw_below_drewN | apply below_drew1 | refine below_set ?_ GE182.out | refine below_set ?_ GE183.out | refine below_set ?_ GE186.out) | exact HB.out)⟩⟩
     subst c25
     rw [if_pos rfl] at H
     by_cases c26 : x7_2 = true
     rotate_left
     ·replace c26 := Bool.eq_false_iff.mpr c26
      subst c26
      rw [if_neg (show ¬ (false = true) by decide)] at H
      have H' := Aside0.mk H
      clear H
      have hnb41 := NB182_183.out
      have hnc41 := NB183_182.out
      have hnb42 := NB182_186.out
      have hnc42 := NB186_182.out
      have hcz43_0 := cz_ BK182 0 (.slice A0_0 l0_0.length c0_0)
      have hfz43_0 := blk_frozen BK182.out 0
      try go_wp2
      replace BK182 := Aside0.mk (blk_drew BK182.out)
      replace BK183 := Aside0.mk (blk_drew BK183.out)
      replace BK186 := Aside0.mk (blk_drew BK186.out)
      replace HB := Aside0.mk (below_drew1 HB.out)
      have p187 : 0 ≤ (x8_2 : Int) := of_decide_eq_true (by first | (with_reducible assumption) | assumption)
      have q187 : x8_2 < (l0_0.length : Int) := of_decide_eq_true (by first | (with_reducible assumption) | assumption)
      obtain ⟨ad187, e187, hx187_0, hx187_1, hx187_2⟩ := at_T43 HR0_0.out x8_2 p187 q187
      have hw187_2 := hx187_2
      have hw187_1 := hx187_1
      have hw187_0 := hx187_0
      cases e187
      replace hx187_0 := (HB.out.cell (World.block_lt_of_cell? w _ hx187_0)).trans hx187_0
      replace hx187_1 := (HB.out.cell (World.block_lt_of_cell? w _ hx187_1)).trans hx187_1
      replace hx187_2 := (HB.out.cell (World.block_lt_of_cell? w _ hx187_2)).trans hx187_2
      replace p187 := eq_true p187
      replace q187 := eq_true q187
      refine start_ (n := 25) (S := fun w' => w'.cell? ⟨gb182, 0, none⟩ = some (.slice (some ad187) l0_0.length c0_0) ∧ w'.cell? (ad187.add ((x8_2).toNat * 3)) = some (.int .i64 ((rd_T43 l0_0 x8_2).f0.f0)) ∧ w'.cell? ⟨(ad187.add ((x8_2).toNat * 3)).block, (ad187.add ((x8_2).toNat * 3)).off + 1, none⟩ = some (.int .i64 ((rd_T43 l0_0 x8_2).f0.f1)) ∧ w'.cell? ⟨(ad187.add ((x8_2).toNat * 3)).block, (ad187.add ((x8_2).toNat * 3)).off + 2, none⟩ = some (.int .i64 ((rd_T43 l0_0 x8_2).f1))) (ds := []) ba8_0 (by kernel_rfl) rfl rfl ⟨(blk_cell BK182.out 0).trans rfl, (hc_ HB hw187_0), (hc_ HB hw187_1), (hc_ HB hw187_2)⟩ (fun hHeld => ?_); refine with_tabW spec_BestRoute.tab8 spec_BestRoute.bits8 (fun HT_ HW_ => ?_)
      generalize wr.drew = w44 at BK182 BK183 BK186 HB hx187_0 hx187_1 hx187_2 hHeld ⊢
      refine pz_ 0 26 ba8_1 HT_ ?_
      refine pz_ 2 28 ba8_2 HT_ ?_
      refine pz_ 6 32 ba8_3 HT_ ?_
      refine pt_ 1 27 ba8_4 HT_ HW_ hHeld ?_
      refine pz_ 3 29 ba8_5 HT_ ?_
      refine pz_ 4 30 ba8_6 HT_ ?_
      refine pt_ 5 31 ba8_7 HT_ HW_ hHeld ?_
      refine one_ (i := 7) (N := some 33) ba8_8 rfl rfl (one_of HT_.out (by kernel_rfl)) (by decide) (fun K hK => ?_)
      refine gz_ Try.func72 #[.agg #[.int .i64 ((rd_T43 l0_0 x8_2).f0.f0), .int .i64 ((rd_T43 l0_0 x8_2).f0.f1)], .int .i64 a1] ?_
      with_reducible refine (spec_HasAddr.calls ((rd_T43 l0_0 x8_2).f0.f0) ((rd_T43 l0_0 x8_2).f0.f1) a1 true _ A24.out).mono ?_
      rintro e w45 ⟨rfl, hb⟩
      refine ⟨_, rfl, ?_⟩
      replace BK182 := Aside0.mk (bb_ BK182 hb)
      replace BK183 := Aside0.mk (bb_ BK183 hb)
      replace BK186 := Aside0.mk (bb_ BK186 hb)
      replace HB := Aside0.mk (bt_ HB hb)
      (try clear hb)
      (try clear hb2)
      (try clear hk)
      (try clear hi)
      refine hK.out _ _ ⟨(blk_cell BK182.out 0).trans rfl, (hc_ HB hw187_0), (hc_ HB hw187_1), (hc_ HB hw187_2)⟩ (fun hHeld => ?_)
      clear hK K
      refine nz_ 33 ?_
      refine pz_ 8 34 ba8_9 HT_ ?_
      refine pz_ 9 35 ba8_10 HT_ ?_
      refine pz_ 10 36 ba8_11 HT_ ?_
      refine pz_ 11 37 ba8_12 HT_ ?_
      refine pu_ 12 38 ba8_13 HT_ ?_
      refine pu_ 13 39 ba8_26 HT_ ?_
      refine pu_ 14 40 ba8_27 HT_ ?_
      refine pu_ 15 41 ba8_28 HT_ ?_
      refine pu_ 16 42 ba8_29 HT_ ?_
      refine pu_ 17 43 ba8_30 HT_ ?_
      refine pu_ 18 44 ba8_31 HT_ ?_
      refine pu_ 19 45 ba8_32 HT_ ?_
      refine pu_ 20 46 ba8_21 HT_ ?_
      refine pu_ 21 47 ba8_22 HT_ ?_
      refine pu_ 22 48 ba8_23 HT_ ?_
      refine pz_ 23 49 ba8_24 HT_ ?_
      refine pz_ 24 50 ba8_25 HT_ ?_
      refine done_ (done_of HT_.out (by kernel_rfl)) ?_
      have hcz46_0 := cz_ BK182 0 (.slice (some ad187) l0_0.length c0_0)
      have hfz46_0 := blk_frozen BK182.out 0
      have p191 : 0 ≤ (x8_2 : Int) := of_decide_eq_true (by first | (with_reducible assumption) | assumption)
      have q191 : x8_2 < (l0_0.length : Int) := of_decide_eq_true (by first | (with_reducible assumption) | assumption)
      obtain ⟨ad191, e191, hx191_0, hx191_1, hx191_2⟩ := at_T43 HR0_0.out x8_2 p191 q191
      obtain rfl : ad187 = ad191 := (by injection e191)
      replace hx191_0 := (HB.out.cell (World.block_lt_of_cell? w _ hx191_0)).trans hx191_0
      replace hx191_1 := (HB.out.cell (World.block_lt_of_cell? w _ hx191_1)).trans hx191_1
      replace hx191_2 := (HB.out.cell (World.block_lt_of_cell? w _ hx191_2)).trans hx191_2
      replace p191 := eq_true p191
      replace q191 := eq_true q191
      have hnb47 := NB186_183.out
      have hnc47 := NB183_186.out
      have hcz48_0 := cz_ BK186 0 (.int .i64 x187000_2)
      have hcz48_1 := cz_ BK186 1 (.int .i64 x187001_2)
      have hcz48_2 := cz_ BK186 2 (.int .i64 x187002_2)
      have hfz48_0 := blk_frozen BK186.out 0
      have hfz48_1 := blk_frozen BK186.out 1
      have hfz48_2 := blk_frozen BK186.out 2
      try go_wp2
      go_roundg k2
      case measure => have := HJ2.out; have := HK2.out; omega
      case rel => exact ⟨(true), (wrap64 (x8_2 + 1)), ((rd_T43 l0_0 x8_2).f0.f0), ((rd_T43 l0_0 x8_2).f0.f1), ((rd_T43 l0_0 x8_2).f1), (by first | rfl | (simp; done) | (simp [*]; done)), (by first | rfl | (simp; done) | (simp [*]; done)), H', ⟨by have := HJ2.out; have := HK2.out; omega⟩, ⟨by (with_reducible repeat (first | refine blk_drewN ?_ _ | refine blk_drew ?_ | refine blk_alloc ?_ _)); refine blk_far ?_ NB182_186.out _; (with_reducible repeat (first | refine blk_drewN ?_ _ | refine blk_drew ?_ | refine blk_alloc ?_ _)); refine blk_far ?_ NB182_186.out _; (with_reducible repeat (first | refine blk_drewN ?_ _ | refine blk_drew ?_ | refine blk_alloc ?_ _)); refine blk_far ?_ NB182_186.out _; (with_reducible repeat (first | refine blk_drewN ?_ _ | refine blk_drew ?_ | refine blk_alloc ?_ _)); exact BK182.out⟩, ⟨by (with_reducible repeat (first | refine blk_drewN ?_ _ | refine blk_drew ?_ | refine blk_alloc ?_ _)); refine blk_far ?_ NB183_186.out _; (with_reducible repeat (first | refine blk_drewN ?_ _ | refine blk_drew ?_ | refine blk_alloc ?_ _)); refine blk_far ?_ NB183_186.out _; (with_reducible repeat (first | refine blk_drewN ?_ _ | refine blk_drew ?_ | refine blk_alloc ?_ _)); refine blk_far ?_ NB183_186.out _; (with_reducible repeat (first | refine blk_drewN ?_ _ | refine blk_drew ?_ | refine blk_alloc ?_ _)); exact BK183.out⟩, ⟨by (with_reducible repeat (first | refine blk_drewN ?_ _ | refine blk_drew ?_ | refine blk_alloc ?_ _)); refine blk_put (cs := #[.int .i64 ((rd_T43 l0_0 x8_2).f0.f0), .int .i64 ((rd_T43 l0_0 x8_2).f0.f1), .int .i64 x187002_2]) ?_ 2 _ rfl; (with_reducible repeat (first | refine blk_drewN ?_ _ | refine blk_drew ?_ | refine blk_alloc ?_ _)); refine blk_put (cs := #[.int .i64 ((rd_T43 l0_0 x8_2).f0.f0), .int .i64 x187001_2, .int .i64 x187002_2]) ?_ 1 _ rfl; (with_reducible repeat (first | refine blk_drewN ?_ _ | refine blk_drew ?_ | refine blk_alloc ?_ _)); refine blk_put (cs := #[.int .i64 x187000_2, .int .i64 x187001_2, .int .i64 x187002_2]) ?_ 0 _ rfl; (with_reducible repeat (first | refine blk_drewN ?_ _ | refine blk_drew ?_ | refine blk_alloc ?_ _)); exact BK186.out⟩, ⟨by repeat (first | (with_reducible first | exact HB.out | apply below_alloc | apply pw_below_drewN | apply below_drew1 | refine below_set ?_ GE182.out | refine below_set ?_ GE183.out | refine below_set ?_ GE186.out) | exact HB.out)⟩⟩
     subst c26
     rw [if_pos rfl] at H
     by_cases c27 : ((rd_T43 l0_0 x8_2).f0.f1) > x187001_2
     rotate_left
     ·rw [if_neg c27] at H
      have c27b0 : decide (x187001_2 < ((rd_T43 l0_0 x8_2).f0.f1)) = false := decide_eq_false c27
      clear c27
      have H' := Aside0.mk H
      clear H
      have hnb36 := NB182_183.out
      have hnc36 := NB183_182.out
      have hnb37 := NB182_186.out
      have hnc37 := NB186_182.out
      have hcz38_0 := cz_ BK182 0 (.slice A0_0 l0_0.length c0_0)
      have hfz38_0 := blk_frozen BK182.out 0
      try go_wp2
      replace BK182 := Aside0.mk (blk_drew BK182.out)
      replace BK183 := Aside0.mk (blk_drew BK183.out)
      replace BK186 := Aside0.mk (blk_drew BK186.out)
      replace HB := Aside0.mk (below_drew1 HB.out)
      have p187 : 0 ≤ (x8_2 : Int) := of_decide_eq_true (by first | (with_reducible assumption) | assumption)
      have q187 : x8_2 < (l0_0.length : Int) := of_decide_eq_true (by first | (with_reducible assumption) | assumption)
      obtain ⟨ad187, e187, hx187_0, hx187_1, hx187_2⟩ := at_T43 HR0_0.out x8_2 p187 q187
      have hw187_2 := hx187_2
      have hw187_1 := hx187_1
      have hw187_0 := hx187_0
      cases e187
      replace hx187_0 := (HB.out.cell (World.block_lt_of_cell? w _ hx187_0)).trans hx187_0
      replace hx187_1 := (HB.out.cell (World.block_lt_of_cell? w _ hx187_1)).trans hx187_1
      replace hx187_2 := (HB.out.cell (World.block_lt_of_cell? w _ hx187_2)).trans hx187_2
      replace p187 := eq_true p187
      replace q187 := eq_true q187
      have p189 : 0 ≤ (x8_2 : Int) := of_decide_eq_true (by first | (with_reducible assumption) | assumption)
      have q189 : x8_2 < (l0_0.length : Int) := of_decide_eq_true (by first | (with_reducible assumption) | assumption)
      obtain ⟨ad189, e189, hx189_0, hx189_1, hx189_2⟩ := at_T43 HR0_0.out x8_2 p189 q189
      have hw189_2 := hx189_2
      have hw189_1 := hx189_1
      have hw189_0 := hx189_0
      obtain rfl : ad187 = ad189 := (by injection e189)
      replace hx189_0 := (HB.out.cell (World.block_lt_of_cell? w _ hx189_0)).trans hx189_0
      replace hx189_1 := (HB.out.cell (World.block_lt_of_cell? w _ hx189_1)).trans hx189_1
      replace hx189_2 := (HB.out.cell (World.block_lt_of_cell? w _ hx189_2)).trans hx189_2
      replace p189 := eq_true p189
      replace q189 := eq_true q189
      refine start_ (n := 25) (S := fun w' => w'.cell? ⟨gb182, 0, none⟩ = some (.slice (some ad187) l0_0.length c0_0) ∧ w'.cell? ⟨gb186, 0, none⟩ = some (.int .i64 x187000_2) ∧ w'.cell? ⟨gb186, 1, none⟩ = some (.int .i64 x187001_2) ∧ w'.cell? ⟨gb186, 2, none⟩ = some (.int .i64 x187002_2) ∧ w'.cell? (ad187.add ((x8_2).toNat * 3)) = some (.int .i64 ((rd_T43 l0_0 x8_2).f0.f0)) ∧ w'.cell? ⟨(ad187.add ((x8_2).toNat * 3)).block, (ad187.add ((x8_2).toNat * 3)).off + 1, none⟩ = some (.int .i64 ((rd_T43 l0_0 x8_2).f0.f1)) ∧ w'.cell? ⟨(ad187.add ((x8_2).toNat * 3)).block, (ad187.add ((x8_2).toNat * 3)).off + 2, none⟩ = some (.int .i64 ((rd_T43 l0_0 x8_2).f1)) ∧ w'.cell? (ad187.add ((x8_2).toNat * 3)) = some (.int .i64 ((rd_T43 l0_0 x8_2).f0.f0)) ∧ w'.cell? ⟨(ad187.add ((x8_2).toNat * 3)).block, (ad187.add ((x8_2).toNat * 3)).off + 1, none⟩ = some (.int .i64 ((rd_T43 l0_0 x8_2).f0.f1)) ∧ w'.cell? ⟨(ad187.add ((x8_2).toNat * 3)).block, (ad187.add ((x8_2).toNat * 3)).off + 2, none⟩ = some (.int .i64 ((rd_T43 l0_0 x8_2).f1))) (ds := []) ba8_0 (by kernel_rfl) rfl rfl ⟨(blk_cell BK182.out 0).trans rfl, (blk_cell BK186.out 0).trans rfl, (blk_cell BK186.out 1).trans rfl, (blk_cell BK186.out 2).trans rfl, (hc_ HB hw187_0), (hc_ HB hw187_1), (hc_ HB hw187_2), (hc_ HB hw189_0), (hc_ HB hw189_1), (hc_ HB hw189_2)⟩ (fun hHeld => ?_); refine with_tabW spec_BestRoute.tab8 spec_BestRoute.bits8 (fun HT_ HW_ => ?_)
      generalize wr.drew = w39 at BK182 BK183 BK186 HB hx187_0 hx187_1 hx187_2 hx189_0 hx189_1 hx189_2 hHeld ⊢
      refine pz_ 0 26 ba8_1 HT_ ?_
      refine pz_ 2 28 ba8_2 HT_ ?_
      refine pz_ 6 32 ba8_3 HT_ ?_
      refine pt_ 1 27 ba8_4 HT_ HW_ hHeld ?_
      refine pz_ 3 29 ba8_5 HT_ ?_
      refine pz_ 4 30 ba8_6 HT_ ?_
      refine pt_ 5 31 ba8_7 HT_ HW_ hHeld ?_
      refine one_ (i := 7) (N := some 33) ba8_8 rfl rfl (one_of HT_.out (by kernel_rfl)) (by decide) (fun K hK => ?_)
      refine gz_ Try.func72 #[.agg #[.int .i64 ((rd_T43 l0_0 x8_2).f0.f0), .int .i64 ((rd_T43 l0_0 x8_2).f0.f1)], .int .i64 a1] ?_
      with_reducible refine (spec_HasAddr.calls ((rd_T43 l0_0 x8_2).f0.f0) ((rd_T43 l0_0 x8_2).f0.f1) a1 true _ A24.out).mono ?_
      rintro e w40 ⟨rfl, hb⟩
      refine ⟨_, rfl, ?_⟩
      replace BK182 := Aside0.mk (bb_ BK182 hb)
      replace BK183 := Aside0.mk (bb_ BK183 hb)
      replace BK186 := Aside0.mk (bb_ BK186 hb)
      replace HB := Aside0.mk (bt_ HB hb)
      (try clear hb)
      (try clear hb2)
      (try clear hk)
      (try clear hi)
      refine hK.out _ _ ⟨(blk_cell BK182.out 0).trans rfl, (blk_cell BK186.out 0).trans rfl, (blk_cell BK186.out 1).trans rfl, (blk_cell BK186.out 2).trans rfl, (hc_ HB hw187_0), (hc_ HB hw187_1), (hc_ HB hw187_2), (hc_ HB hw189_0), (hc_ HB hw189_1), (hc_ HB hw189_2)⟩ (fun hHeld => ?_)
      clear hK K
      refine nz_ 33 ?_
      refine pz_ 8 34 ba8_9 HT_ ?_
      refine pz_ 9 35 ba8_10 HT_ ?_
      refine pz_ 10 36 ba8_11 HT_ ?_
      refine pz_ 11 37 ba8_12 HT_ ?_
      refine pz_ 12 38 ba8_13 HT_ ?_
      refine pz_ 14 40 ba8_14 HT_ ?_
      refine pz_ 19 45 ba8_15 HT_ ?_
      refine pz_ 20 46 ba8_16 HT_ ?_
      refine pt_ 13 39 ba8_17 HT_ HW_ hHeld ?_
      refine pz_ 15 41 ba8_18 HT_ ?_
      refine pz_ 16 42 ba8_19 HT_ ?_
      refine pz_ 17 43 ba8_20 HT_ ?_
      refine pt_ 18 44 ba8_21 HT_ HW_ hHeld ?_
      refine pt_ 21 47 ba8_22 HT_ HW_ hHeld ?_
      refine pz_ 22 48 ba8_23 HT_ ?_
      refine pz_ 23 49 ba8_24 HT_ ?_
      refine pz_ 24 50 ba8_25 HT_ ?_
      refine done_ (done_of HT_.out (by kernel_rfl)) ?_
      try go_wp2
      go_roundg k2
      case measure => have := HJ2.out; have := HK2.out; omega
      case rel => exact ⟨(true), (wrap64 (x8_2 + 1)), (x187000_2), (x187001_2), (x187002_2), (by first | rfl | (simp; done) | (simp [*]; done)), (by first | rfl | (simp; done) | (simp [*]; done)), H', ⟨by have := HJ2.out; have := HK2.out; omega⟩, ⟨by (with_reducible repeat (first | refine blk_drewN ?_ _ | refine blk_drew ?_ | refine blk_alloc ?_ _)); exact BK182.out⟩, ⟨by (with_reducible repeat (first | refine blk_drewN ?_ _ | refine blk_drew ?_ | refine blk_alloc ?_ _)); exact BK183.out⟩, ⟨by (with_reducible repeat (first | refine blk_drewN ?_ _ | refine blk_drew ?_ | refine blk_alloc ?_ _)); exact BK186.out⟩, ⟨by repeat (first | (with_reducible first | exact HB.out | apply below_alloc | apply pw_below_drewN | apply below_drew1 | refine below_set ?_ GE182.out | refine below_set ?_ GE183.out | refine below_set ?_ GE186.out) | exact HB.out)⟩⟩
     rw [if_pos c27] at H
     have c27b0 : decide (x187001_2 < ((rd_T43 l0_0 x8_2).f0.f1)) = true := decide_eq_true c27
     clear c27
     have H' := Aside0.mk H
     clear H
     have hnb28 := NB182_183.out
     have hnc28 := NB183_182.out
     have hnb29 := NB182_186.out
     have hnc29 := NB186_182.out
     have hcz30_0 := cz_ BK182 0 (.slice A0_0 l0_0.length c0_0)
     have hfz30_0 := blk_frozen BK182.out 0
     try go_wp2
     replace BK182 := Aside0.mk (blk_drew BK182.out)
     replace BK183 := Aside0.mk (blk_drew BK183.out)
     replace BK186 := Aside0.mk (blk_drew BK186.out)
     replace HB := Aside0.mk (below_drew1 HB.out)
     have p187 : 0 ≤ (x8_2 : Int) := of_decide_eq_true (by first | (with_reducible assumption) | assumption)
     have q187 : x8_2 < (l0_0.length : Int) := of_decide_eq_true (by first | (with_reducible assumption) | assumption)
     obtain ⟨ad187, e187, hx187_0, hx187_1, hx187_2⟩ := at_T43 HR0_0.out x8_2 p187 q187
     have hw187_2 := hx187_2
     have hw187_1 := hx187_1
     have hw187_0 := hx187_0
     cases e187
     replace hx187_0 := (HB.out.cell (World.block_lt_of_cell? w _ hx187_0)).trans hx187_0
     replace hx187_1 := (HB.out.cell (World.block_lt_of_cell? w _ hx187_1)).trans hx187_1
     replace hx187_2 := (HB.out.cell (World.block_lt_of_cell? w _ hx187_2)).trans hx187_2
     replace p187 := eq_true p187
     replace q187 := eq_true q187
     have p189 : 0 ≤ (x8_2 : Int) := of_decide_eq_true (by first | (with_reducible assumption) | assumption)
     have q189 : x8_2 < (l0_0.length : Int) := of_decide_eq_true (by first | (with_reducible assumption) | assumption)
     obtain ⟨ad189, e189, hx189_0, hx189_1, hx189_2⟩ := at_T43 HR0_0.out x8_2 p189 q189
     have hw189_2 := hx189_2
     have hw189_1 := hx189_1
     have hw189_0 := hx189_0
     obtain rfl : ad187 = ad189 := (by injection e189)
     replace hx189_0 := (HB.out.cell (World.block_lt_of_cell? w _ hx189_0)).trans hx189_0
     replace hx189_1 := (HB.out.cell (World.block_lt_of_cell? w _ hx189_1)).trans hx189_1
     replace hx189_2 := (HB.out.cell (World.block_lt_of_cell? w _ hx189_2)).trans hx189_2
     replace p189 := eq_true p189
     replace q189 := eq_true q189
     refine start_ (n := 25) (S := fun w' => w'.cell? ⟨gb182, 0, none⟩ = some (.slice (some ad187) l0_0.length c0_0) ∧ w'.cell? ⟨gb186, 0, none⟩ = some (.int .i64 x187000_2) ∧ w'.cell? ⟨gb186, 1, none⟩ = some (.int .i64 x187001_2) ∧ w'.cell? ⟨gb186, 2, none⟩ = some (.int .i64 x187002_2) ∧ w'.cell? (ad187.add ((x8_2).toNat * 3)) = some (.int .i64 ((rd_T43 l0_0 x8_2).f0.f0)) ∧ w'.cell? ⟨(ad187.add ((x8_2).toNat * 3)).block, (ad187.add ((x8_2).toNat * 3)).off + 1, none⟩ = some (.int .i64 ((rd_T43 l0_0 x8_2).f0.f1)) ∧ w'.cell? ⟨(ad187.add ((x8_2).toNat * 3)).block, (ad187.add ((x8_2).toNat * 3)).off + 2, none⟩ = some (.int .i64 ((rd_T43 l0_0 x8_2).f1)) ∧ w'.cell? (ad187.add ((x8_2).toNat * 3)) = some (.int .i64 ((rd_T43 l0_0 x8_2).f0.f0)) ∧ w'.cell? ⟨(ad187.add ((x8_2).toNat * 3)).block, (ad187.add ((x8_2).toNat * 3)).off + 1, none⟩ = some (.int .i64 ((rd_T43 l0_0 x8_2).f0.f1)) ∧ w'.cell? ⟨(ad187.add ((x8_2).toNat * 3)).block, (ad187.add ((x8_2).toNat * 3)).off + 2, none⟩ = some (.int .i64 ((rd_T43 l0_0 x8_2).f1))) (ds := []) ba8_0 (by kernel_rfl) rfl rfl ⟨(blk_cell BK182.out 0).trans rfl, (blk_cell BK186.out 0).trans rfl, (blk_cell BK186.out 1).trans rfl, (blk_cell BK186.out 2).trans rfl, (hc_ HB hw187_0), (hc_ HB hw187_1), (hc_ HB hw187_2), (hc_ HB hw189_0), (hc_ HB hw189_1), (hc_ HB hw189_2)⟩ (fun hHeld => ?_); refine with_tabW spec_BestRoute.tab8 spec_BestRoute.bits8 (fun HT_ HW_ => ?_)
     generalize wr.drew = w31 at BK182 BK183 BK186 HB hx187_0 hx187_1 hx187_2 hx189_0 hx189_1 hx189_2 hHeld ⊢
     refine pz_ 0 26 ba8_1 HT_ ?_
     refine pz_ 2 28 ba8_2 HT_ ?_
     refine pz_ 6 32 ba8_3 HT_ ?_
     refine pt_ 1 27 ba8_4 HT_ HW_ hHeld ?_
     refine pz_ 3 29 ba8_5 HT_ ?_
     refine pz_ 4 30 ba8_6 HT_ ?_
     refine pt_ 5 31 ba8_7 HT_ HW_ hHeld ?_
     refine one_ (i := 7) (N := some 33) ba8_8 rfl rfl (one_of HT_.out (by kernel_rfl)) (by decide) (fun K hK => ?_)
     refine gz_ Try.func72 #[.agg #[.int .i64 ((rd_T43 l0_0 x8_2).f0.f0), .int .i64 ((rd_T43 l0_0 x8_2).f0.f1)], .int .i64 a1] ?_
     with_reducible refine (spec_HasAddr.calls ((rd_T43 l0_0 x8_2).f0.f0) ((rd_T43 l0_0 x8_2).f0.f1) a1 true _ A24.out).mono ?_
     rintro e w32 ⟨rfl, hb⟩
     refine ⟨_, rfl, ?_⟩
     replace BK182 := Aside0.mk (bb_ BK182 hb)
     replace BK183 := Aside0.mk (bb_ BK183 hb)
     replace BK186 := Aside0.mk (bb_ BK186 hb)
     replace HB := Aside0.mk (bt_ HB hb)
     (try clear hb)
     (try clear hb2)
     (try clear hk)
     (try clear hi)
     refine hK.out _ _ ⟨(blk_cell BK182.out 0).trans rfl, (blk_cell BK186.out 0).trans rfl, (blk_cell BK186.out 1).trans rfl, (blk_cell BK186.out 2).trans rfl, (hc_ HB hw187_0), (hc_ HB hw187_1), (hc_ HB hw187_2), (hc_ HB hw189_0), (hc_ HB hw189_1), (hc_ HB hw189_2)⟩ (fun hHeld => ?_)
     clear hK K
     refine nz_ 33 ?_
     refine pz_ 8 34 ba8_9 HT_ ?_
     refine pz_ 9 35 ba8_10 HT_ ?_
     refine pz_ 10 36 ba8_11 HT_ ?_
     refine pz_ 11 37 ba8_12 HT_ ?_
     refine pz_ 12 38 ba8_13 HT_ ?_
     refine pz_ 14 40 ba8_14 HT_ ?_
     refine pz_ 19 45 ba8_15 HT_ ?_
     refine pz_ 20 46 ba8_16 HT_ ?_
     refine pt_ 13 39 ba8_17 HT_ HW_ hHeld ?_
     refine pz_ 15 41 ba8_18 HT_ ?_
     refine pz_ 16 42 ba8_19 HT_ ?_
     refine pz_ 17 43 ba8_20 HT_ ?_
     refine pt_ 18 44 ba8_21 HT_ HW_ hHeld ?_
     refine pt_ 21 47 ba8_22 HT_ HW_ hHeld ?_
     refine pz_ 22 48 ba8_23 HT_ ?_
     refine pz_ 23 49 ba8_24 HT_ ?_
     refine pz_ 24 50 ba8_25 HT_ ?_
     refine done_ (done_of HT_.out (by kernel_rfl)) ?_
     have hcz33_0 := cz_ BK182 0 (.slice (some ad187) l0_0.length c0_0)
     have hfz33_0 := blk_frozen BK182.out 0
     have p190 : 0 ≤ (x8_2 : Int) := of_decide_eq_true (by first | (with_reducible assumption) | assumption)
     have q190 : x8_2 < (l0_0.length : Int) := of_decide_eq_true (by first | (with_reducible assumption) | assumption)
     obtain ⟨ad190, e190, hx190_0, hx190_1, hx190_2⟩ := at_T43 HR0_0.out x8_2 p190 q190
     obtain rfl : ad187 = ad190 := (by injection e190)
     replace hx190_0 := (HB.out.cell (World.block_lt_of_cell? w _ hx190_0)).trans hx190_0
     replace hx190_1 := (HB.out.cell (World.block_lt_of_cell? w _ hx190_1)).trans hx190_1
     replace hx190_2 := (HB.out.cell (World.block_lt_of_cell? w _ hx190_2)).trans hx190_2
     replace p190 := eq_true p190
     replace q190 := eq_true q190
     have hnb34 := NB186_183.out
     have hnc34 := NB183_186.out
     have hcz35_0 := cz_ BK186 0 (.int .i64 x187000_2)
     have hcz35_1 := cz_ BK186 1 (.int .i64 x187001_2)
     have hcz35_2 := cz_ BK186 2 (.int .i64 x187002_2)
     have hfz35_0 := blk_frozen BK186.out 0
     have hfz35_1 := blk_frozen BK186.out 1
     have hfz35_2 := blk_frozen BK186.out 2
     try go_wp2
     go_roundg k2
     case measure => have := HJ2.out; have := HK2.out; omega
     case rel => exact ⟨(true), (wrap64 (x8_2 + 1)), ((rd_T43 l0_0 x8_2).f0.f0), ((rd_T43 l0_0 x8_2).f0.f1), ((rd_T43 l0_0 x8_2).f1), (by first | rfl | (simp; done) | (simp [*]; done)), (by first | rfl | (simp; done) | (simp [*]; done)), H', ⟨by have := HJ2.out; have := HK2.out; omega⟩, ⟨by (with_reducible repeat (first | refine blk_drewN ?_ _ | refine blk_drew ?_ | refine blk_alloc ?_ _)); refine blk_far ?_ NB182_186.out _; (with_reducible repeat (first | refine blk_drewN ?_ _ | refine blk_drew ?_ | refine blk_alloc ?_ _)); refine blk_far ?_ NB182_186.out _; (with_reducible repeat (first | refine blk_drewN ?_ _ | refine blk_drew ?_ | refine blk_alloc ?_ _)); refine blk_far ?_ NB182_186.out _; (with_reducible repeat (first | refine blk_drewN ?_ _ | refine blk_drew ?_ | refine blk_alloc ?_ _)); exact BK182.out⟩, ⟨by (with_reducible repeat (first | refine blk_drewN ?_ _ | refine blk_drew ?_ | refine blk_alloc ?_ _)); refine blk_far ?_ NB183_186.out _; (with_reducible repeat (first | refine blk_drewN ?_ _ | refine blk_drew ?_ | refine blk_alloc ?_ _)); refine blk_far ?_ NB183_186.out _; (with_reducible repeat (first | refine blk_drewN ?_ _ | refine blk_drew ?_ | refine blk_alloc ?_ _)); refine blk_far ?_ NB183_186.out _; (with_reducible repeat (first | refine blk_drewN ?_ _ | refine blk_drew ?_ | refine blk_alloc ?_ _)); exact BK183.out⟩, ⟨by (with_reducible repeat (first | refine blk_drewN ?_ _ | refine blk_drew ?_ | refine blk_alloc ?_ _)); refine blk_put (cs := #[.int .i64 ((rd_T43 l0_0 x8_2).f0.f0), .int .i64 ((rd_T43 l0_0 x8_2).f0.f1), .int .i64 x187002_2]) ?_ 2 _ rfl; (with_reducible repeat (first | refine blk_drewN ?_ _ | refine blk_drew ?_ | refine blk_alloc ?_ _)); refine blk_put (cs := #[.int .i64 ((rd_T43 l0_0 x8_2).f0.f0), .int .i64 x187001_2, .int .i64 x187002_2]) ?_ 1 _ rfl; (with_reducible repeat (first | refine blk_drewN ?_ _ | refine blk_drew ?_ | refine blk_alloc ?_ _)); refine blk_put (cs := #[.int .i64 x187000_2, .int .i64 x187001_2, .int .i64 x187002_2]) ?_ 0 _ rfl; (with_reducible repeat (first | refine blk_drewN ?_ _ | refine blk_drew ?_ | refine blk_alloc ?_ _)); exact BK186.out⟩, ⟨by repeat (first | (with_reducible first | exact HB.out | apply below_alloc | apply pw_below_drewN | apply below_drew1 | refine below_set ?_ GE182.out | refine below_set ?_ GE183.out | refine below_set ?_ GE186.out) | exact HB.out)⟩⟩

end Go.Proofs.Ytflfbaofgfandaa.QFnExactSqueeze
