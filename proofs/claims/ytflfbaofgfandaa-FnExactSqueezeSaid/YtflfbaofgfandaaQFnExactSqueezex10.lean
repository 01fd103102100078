/- Contracts of functions that the law reaches: what each call returns and what it leaves in memory. Made by this session over the print of the kit. -/
import Derived.Test.YtflfbaofgfandaaQFnExactSqueezex0
import Derived.Test.YtflfbaofgfandaaQFnExactSqueezex5
import Derived.Test.YtflfbaofgfandaaQFnExactSqueezex9
namespace Go.Proofs.Ytflfbaofgfandaa.QFnExactSqueeze
open Go.RowKit Go.Proofs.YtflfbaofgfandaaQ.PrintWords Go.Proofs.YtflfbaofgfandaaQ.PrintLast Go.Proofs.YtflfbaofgfandaaQ.PrintMore
attribute [local go_sem] max2_int min2_int max_two min_two max_three min_three max_four min_four   -- for this text's walks alone
set_option linter.unusedVariables false
set_option linter.unusedSimpArgs false
abbrev tb10 : Bool := true
abbrev fb10 : Bool := false
def ba10_0 : Array Bool := #[fb10,fb10,fb10,fb10,fb10,fb10,fb10,fb10]
def ba10_1 : Array Bool := #[tb10,fb10,fb10,fb10,fb10,fb10,fb10,fb10]
def ba10_2 : Array Bool := #[tb10,tb10,fb10,fb10,fb10,fb10,fb10,fb10]
def ba10_3 : Array Bool := #[tb10,tb10,fb10,tb10,fb10,fb10,fb10,fb10]
def ba10_4 : Array Bool := #[tb10,tb10,tb10,tb10,fb10,fb10,fb10,fb10]
def ba10_5 : Array Bool := #[tb10,tb10,tb10,tb10,tb10,fb10,fb10,fb10]
def ba10_6 : Array Bool := #[tb10,tb10,tb10,tb10,tb10,tb10,fb10,fb10]
def ba10_7 : Array Bool := #[tb10,tb10,tb10,tb10,tb10,tb10,tb10,fb10]
def ba10_8 : Array Bool := #[tb10,tb10,tb10,tb10,tb10,tb10,tb10,tb10]
def ba10_9 : Array Bool := #[fb10,fb10,fb10,fb10,fb10,fb10,fb10]
def ba10_10 : Array Bool := #[fb10,tb10,fb10,fb10,fb10,fb10,fb10]
def ba10_11 : Array Bool := #[fb10,tb10,fb10,fb10,tb10,fb10,fb10]
def ba10_12 : Array Bool := #[tb10,tb10,fb10,fb10,tb10,fb10,fb10]
def ba10_13 : Array Bool := #[tb10,tb10,fb10,tb10,tb10,fb10,fb10]
def ba10_14 : Array Bool := #[tb10,tb10,tb10,tb10,tb10,fb10,fb10]
def ba10_15 : Array Bool := #[tb10,tb10,tb10,tb10,tb10,tb10,fb10]
def ba10_16 : Array Bool := #[tb10,tb10,tb10,tb10,tb10,tb10,tb10]
def ba10_17 : Array Bool := #[tb10,fb10,fb10,fb10,fb10,fb10,fb10]
def ba10_18 : Array Bool := #[tb10,fb10,tb10,fb10,fb10,fb10,fb10]
def ba10_19 : Array Bool := #[tb10,tb10,tb10,fb10,fb10,fb10,fb10]
def ba10_20 : Array Bool := #[tb10,tb10,tb10,tb10,fb10,fb10,fb10]

/-! ### spec_l02Idle: function 40 -/
mutual
def spec_l02Idle.l0 : Nat → Int → List (S43) → Int → Int → List (S43) → Option (Bool)
 | 0, _, _, _, _, _ => none
 | k + 1, x7, x199000, x201000, x201001, x205000 => (spec_l01Size2.f x201001).bind fun t205 => (if x7 < (wrap64 (x201000 + t205)) then ((spec_FindHop.f k x199000 x7).bind fun t206 => ((spec_FindHop.f k x205000 x7).bind fun t207 => (if t206 = t207 then ((spec_l01Size2.f x201001).bind fun t208 => (spec_l02Idle.l1 k x7 (wrap64 (x201000 + t208)) 0 x199000 x201000 x201001 x205000)) else (some false)))) else (some true))
def spec_l02Idle.l1 : Nat → Int → Int → Int → List (S43) → Int → Int → List (S43) → Option (Bool)
 | 0, _, _, _, _, _, _, _ => none
 | k + 1, x7, x8, x9, x199000, x201000, x201001, x205000 => if x9 < (x199000.length : Int) then (if 0 ≤ x9 then ((spec_l01Size2.f ((rd_T43 x199000 x9).f0.f1)).bind fun t211 => (if ((rd_T43 x199000 x9).f0.f0) > x7 then (spec_l02Idle.j2 k x7 x8 x9 (wrap64 (((rd_T43 x199000 x9).f0.f0) + t211)) (decide (((rd_T43 x199000 x9).f0.f0) < x8)) x199000 x201000 x201001 x205000 ((rd_T43 x199000 x9).f0.f0) ((rd_T43 x199000 x9).f0.f1)) else (spec_l02Idle.j2 k x7 x8 x9 (wrap64 (((rd_T43 x199000 x9).f0.f0) + t211)) false x199000 x201000 x201001 x205000 ((rd_T43 x199000 x9).f0.f0) ((rd_T43 x199000 x9).f0.f1)))) else (none)) else (spec_l02Idle.l0 k (wrap64 ((wrap64 (x8 - 1)) + 1)) x199000 x201000 x201001 x205000)
def spec_l02Idle.j2 : Nat → Int → Int → Int → Int → Bool → List (S43) → Int → Int → List (S43) → Int → Int → Option (Bool)
 | 0, _, _, _, _, _, _, _, _, _, _, _ => none
 | k + 1, x7, x8, x9, x11, x74, x199000, x201000, x201001, x205000, x211000, x211001 => if x74 = true then (if x11 > x7 then (if x11 < x211000 then (spec_l02Idle.l1 k x7 x11 (wrap64 (x9 + 1)) x199000 x201000 x201001 x205000) else (spec_l02Idle.l1 k x7 x211000 (wrap64 (x9 + 1)) x199000 x201000 x201001 x205000)) else (spec_l02Idle.l1 k x7 x211000 (wrap64 (x9 + 1)) x199000 x201000 x201001 x205000)) else (if x11 > x7 then (if x11 < x8 then (spec_l02Idle.l1 k x7 x11 (wrap64 (x9 + 1)) x199000 x201000 x201001 x205000) else (spec_l02Idle.l1 k x7 x8 (wrap64 (x9 + 1)) x199000 x201000 x201001 x205000)) else (spec_l02Idle.l1 k x7 x8 (wrap64 (x9 + 1)) x199000 x201000 x201001 x205000))
end
def spec_l02Idle.f (k : Nat) (l0_0 : List (S43)) (a1 : Int) : Option (Bool) := if 0 ≤ a1 then (if a1 < (l0_0.length : Int) then ((spec_l02Less.f k l0_0 ((rd_T43 l0_0 a1).f0.f0) ((rd_T43 l0_0 a1).f0.f1)).bind fun t201 => (spec_l02Idle.l0 k ((rd_T43 l0_0 a1).f0.f0) l0_0 ((rd_T43 l0_0 a1).f0.f0) ((rd_T43 l0_0 a1).f0.f1) t201)) else (none)) else (none)
theorem spec_l02Idle.mono_l : ∀ k, (∀ y0 y1 y2 y3 y4, LeO (spec_l02Idle.l0 k y0 y1 y2 y3 y4) (spec_l02Idle.l0 (k + 1) y0 y1 y2 y3 y4)) ∧ (∀ y0 y1 y2 y3 y4 y5 y6, LeO (spec_l02Idle.l1 k y0 y1 y2 y3 y4 y5 y6) (spec_l02Idle.l1 (k + 1) y0 y1 y2 y3 y4 y5 y6)) ∧ (∀ y0 y1 y2 y3 y4 y5 y6 y7 y8 y9 y10, LeO (spec_l02Idle.j2 k y0 y1 y2 y3 y4 y5 y6 y7 y8 y9 y10) (spec_l02Idle.j2 (k + 1) y0 y1 y2 y3 y4 y5 y6 y7 y8 y9 y10))
 | 0 => ⟨fun _ _ _ _ _ r h => by simp [spec_l02Idle.l0] at h, fun _ _ _ _ _ _ _ r h => by simp [spec_l02Idle.l1] at h, fun _ _ _ _ _ _ _ _ _ _ _ r h => by simp [spec_l02Idle.j2] at h⟩
 | k + 1 => by
  obtain ⟨ih0, ih1, ih2⟩ := spec_l02Idle.mono_l k
  refine ⟨?_, ?_, ?_⟩
  ·intro y0 y1 y2 y3 y4
   unfold spec_l02Idle.l0
   repeat' first
   | (with_reducible exact ih0 _ _ _ _ _)
   | (with_reducible exact ih1 _ _ _ _ _ _ _)
   | (with_reducible exact ih2 _ _ _ _ _ _ _ _ _ _ _)
   | (with_reducible exact spec_FindHop.mono _ _ _)
   | (with_reducible exact spec_l02Less.mono _ _ _ _)
   | (with_reducible exact LeO.refl _)
   | (with_reducible exact LeO.none _)
   | (with_reducible refine LeO.ite ?_ ?_)
   | (with_reducible refine LeO.bind ?_ (fun _ => ?_))
   | exact ih0 _ _ _ _ _
   | exact ih1 _ _ _ _ _ _ _
   | exact ih2 _ _ _ _ _ _ _ _ _ _ _
   | exact spec_FindHop.mono _ _ _
   | exact spec_l02Less.mono _ _ _ _
   | exact LeO.none _
   | refine LeO.ite ?_ ?_
   | refine LeO.bind ?_ (fun _ => ?_)
  ·intro y0 y1 y2 y3 y4 y5 y6
   unfold spec_l02Idle.l1
   repeat' first
   | (with_reducible exact ih0 _ _ _ _ _)
   | (with_reducible exact ih1 _ _ _ _ _ _ _)
   | (with_reducible exact ih2 _ _ _ _ _ _ _ _ _ _ _)
   | (with_reducible exact spec_FindHop.mono _ _ _)
   | (with_reducible exact spec_l02Less.mono _ _ _ _)
   | (with_reducible exact LeO.refl _)
   | (with_reducible exact LeO.none _)
   | (with_reducible refine LeO.ite ?_ ?_)
   | (with_reducible refine LeO.bind ?_ (fun _ => ?_))
   | exact ih0 _ _ _ _ _
   | exact ih1 _ _ _ _ _ _ _
   | exact ih2 _ _ _ _ _ _ _ _ _ _ _
   | exact spec_FindHop.mono _ _ _
   | exact spec_l02Less.mono _ _ _ _
   | exact LeO.none _
   | refine LeO.ite ?_ ?_
   | refine LeO.bind ?_ (fun _ => ?_)
  ·intro y0 y1 y2 y3 y4 y5 y6 y7 y8 y9 y10
   unfold spec_l02Idle.j2
   repeat' first
   | (with_reducible exact ih0 _ _ _ _ _)
   | (with_reducible exact ih1 _ _ _ _ _ _ _)
   | (with_reducible exact ih2 _ _ _ _ _ _ _ _ _ _ _)
   | (with_reducible exact spec_FindHop.mono _ _ _)
   | (with_reducible exact spec_l02Less.mono _ _ _ _)
   | (with_reducible exact LeO.refl _)
   | (with_reducible exact LeO.none _)
   | (with_reducible refine LeO.ite ?_ ?_)
   | (with_reducible refine LeO.bind ?_ (fun _ => ?_))
   | exact ih0 _ _ _ _ _
   | exact ih1 _ _ _ _ _ _ _
   | exact ih2 _ _ _ _ _ _ _ _ _ _ _
   | exact spec_FindHop.mono _ _ _
   | exact spec_l02Less.mono _ _ _ _
   | exact LeO.none _
   | refine LeO.ite ?_ ?_
   | refine LeO.bind ?_ (fun _ => ?_)
theorem spec_l02Idle.mono : ∀ a0 a1 k, LeO (spec_l02Idle.f k a0 a1) (spec_l02Idle.f (k + 1) a0 a1) := by
 intro a0 a1 k
 obtain ⟨ih0, ih1, ih2⟩ := spec_l02Idle.mono_l k
 unfold spec_l02Idle.f
 repeat' first
   | (with_reducible exact ih0 _ _ _ _ _)
   | (with_reducible exact ih1 _ _ _ _ _ _ _)
   | (with_reducible exact ih2 _ _ _ _ _ _ _ _ _ _ _)
   | (with_reducible exact spec_FindHop.mono _ _ _)
   | (with_reducible exact spec_l02Less.mono _ _ _ _)
   | (with_reducible exact LeO.refl _)
   | (with_reducible exact LeO.none _)
   | (with_reducible refine LeO.ite ?_ ?_)
   | (with_reducible refine LeO.bind ?_ (fun _ => ?_))
   | exact ih0 _ _ _ _ _
   | exact ih1 _ _ _ _ _ _ _
   | exact ih2 _ _ _ _ _ _ _ _ _ _ _
   | exact spec_FindHop.mono _ _ _
   | exact spec_l02Less.mono _ _ _ _
   | exact LeO.none _
   | refine LeO.ite ?_ ?_
   | refine LeO.bind ?_ (fun _ => ?_)
def spec_l02Idle.T4 : Bool × List (List Nat × List Nat) := (true, [([], []), ([], []), ([1], [1]), ([], []), ([3], [3]), ([4], [4]), ([2, 5], [2, 5]), ([0, 6], [0, 6])])
def spec_l02Idle.B4 : List Nat := [0, 0, 2, 0, 8, 24, 62, 127]
theorem spec_l02Idle.tab4 : rtab .any (opsOf Try.f40 4) = spec_l02Idle.T4 := by kernel_rfl
theorem spec_l02Idle.bits4 : waitsOk spec_l02Idle.T4.2 spec_l02Idle.B4 = true := by kernel_rfl
set_option maxHeartbeats 8000000 in
set_option maxRecDepth 100000 in
theorem spec_l02Idle.calls (k : Nat) (A0_0 : Option Addr) (c0_0 : Nat) (l0_0 : List (S43)) (a1 : Int) (r : Bool) (w : World) (hr0_0 : Kd.C k43 w A0_0 l0_0.length l0_0) (hc0_0 : l0_0.length ≤ c0_0) (h : spec_l02Idle.f k l0_0 a1 = some r) :
  Calls Try.prog 40 #[.agg #[.slice A0_0 l0_0.length c0_0], .int .i64 a1] w fun e w' => e = .returned (.bool r) ∧ Below w.heap.size w w' := by
 have hu30 := Try.underlying30
 have hu34 := Try.underlying34
 have HR0_0 := Aside0.mk hr0_0
 have HC0_0 := Aside0.mk hc0_0
 clear hr0_0 hc0_0
 have HB := Aside0.mk (Below.refl w.heap.size w)
 have H : (if 0 ≤ a1 then (if a1 < (l0_0.length : Int) then ((spec_l02Less.f k l0_0 ((rd_T43 l0_0 a1).f0.f0) ((rd_T43 l0_0 a1).f0.f1)).bind fun t201 => (spec_l02Idle.l0 k ((rd_T43 l0_0 a1).f0.f0) l0_0 ((rd_T43 l0_0 a1).f0.f0) ((rd_T43 l0_0 a1).f0.f1) t201)) else (none)) else (none)) = some r := h
 clear h
 by_cases c3 : 0 ≤ a1
 rotate_left
 ·rw [if_neg c3] at H
  exact absurd H (by simp)
 rw [if_pos c3] at H
 have c3b0 : decide (0 ≤ a1) = true := decide_eq_true c3
 clear c3
 by_cases c4 : a1 < (l0_0.length : Int)
 rotate_left
 ·rw [if_neg c4] at H
  exact absurd H (by simp)
 rw [if_pos c4] at H
 have c4b0 : decide (a1 < (l0_0.length : Int)) = true := decide_eq_true c4
 clear c4
 replace H := Option.bind_eq_some_iff.mp H
 obtain ⟨t201, A50, H⟩ := H
 have A5 := Aside0.mk A50
 clear A50
 have H' := Aside0.mk H
 clear H
 go_enter Try.func40, Try.ntmps40
 go_wp2_with (first | ((with_reducible refine gate_dst (N := 2) rfl ?_); refine box_event ?hg (N := 2) ?hd (cs := #[.slice A0_0 l0_0.length c0_0]) (t := 30) ?hr ?_; (case hd => rfl); (case hg => rfl); (case hr => first | (go_simp; done) | (go_simp; rfl)); intro gb198 hg w6 hbox hb; have BK198 := Aside0.mk hbox; have GW198 := ge_ HB hg; have GE198 := ge_ HB hg; replace HB := Aside0.mk (bt_ HB hb); clear hb hbox hg; have hcz7_0 := cz_ BK198 0 (.slice A0_0 l0_0.length c0_0); have hfz7_0 := blk_frozen BK198.out 0; have p199 : 0 ≤ (a1 : Int) := of_decide_eq_true (by first | (with_reducible assumption) | assumption); have q199 : a1 < (l0_0.length : Int) := of_decide_eq_true (by first | (with_reducible assumption) | assumption); obtain ⟨ad199, e199, hx199_0, hx199_1, hx199_2⟩ := at_T43 HR0_0.out a1 p199 q199; cases e199; replace hx199_0 := (HB.out.cell (World.block_lt_of_cell? w _ hx199_0)).trans hx199_0; replace hx199_1 := (HB.out.cell (World.block_lt_of_cell? w _ hx199_1)).trans hx199_1; replace hx199_2 := (HB.out.cell (World.block_lt_of_cell? w _ hx199_2)).trans hx199_2; replace p199 := eq_true p199; replace q199 := eq_true q199) | ((with_reducible refine gate_dst (N := 5) rfl ?_); refine box_event ?hg (N := 5) ?hd (cs := #[.int .i64 0, .int .i64 0]) (t := 34) ?hr ?_; (case hd => rfl); (case hg => rfl); (case hr => first | (go_simp; done) | (go_simp; rfl)); intro gb200 hg w8 hbox hb; have BK200 := Aside0.mk hbox; have GW200 := ge_ HB hg; have GE200 := ge_ HB hg; have NB198_200 := nl_ BK198 hg; have NB200_198 := ng_ BK198 hg; replace HB := Aside0.mk (bt_ HB hb); replace BK198 := Aside0.mk (bb_ BK198 hb); clear hb hbox hg; have hnb9 := NB200_198.out; have hnc9 := NB198_200.out; have hcz10_0 := cz_ BK200 0 (.int .i64 0); have hcz10_1 := cz_ BK200 1 (.int .i64 0); have hfz10_0 := blk_frozen BK200.out 0; have hfz10_1 := blk_frozen BK200.out 1; have hcz11_0 := cz_ BK198 0 (.slice (some ad199) l0_0.length c0_0); have hfz11_0 := blk_frozen BK198.out 0) | ((with_reducible refine gate_callee (f := 26) rfl ?_); refine gl_ (some 20) Try.func26 #[.agg #[.slice (some ad199) l0_0.length c0_0], .agg #[.int .i64 ((rd_T43 l0_0 a1).f0.f0), .int .i64 ((rd_T43 l0_0 a1).f0.f1)]] ?_; (with_reducible refine (spec_l02Less.calls k _ _ l0_0 ((rd_T43 l0_0 a1).f0.f0) ((rd_T43 l0_0 a1).f0.f1) t201 _ ?side1 ?side2 A5.out).mono ?_); (case side1 => exact Kd.C_below HR0_0.out (by repeat (first | (with_reducible first | exact HB.out | apply below_alloc | apply pw_below_drewN | apply below_drew1 | refine below_set ?_ GE198.out | refine below_set ?_ GE200.out) | exact HB.out))); (case side2 => exact HC0_0.out); rintro e w12 ⟨v202, rfl, ho0, hb⟩; refine ⟨_, rfl, ?_⟩; have HO203 := Aside0.mk (Kd.R_lower ho0 (bz_ HB)); replace BK198 := bf_ BK198 NB198_200 hb; replace BK200 := Aside0.mk (blk_below (g := gb200) (o := .cells #[.int .i64 ((rd_T43 l0_0 a1).f0.f0), .int .i64 ((rd_T43 l0_0 a1).f0.f1)] 34 (0, 0)) (by (with_reducible repeat (first | refine blk_drewN ?_ _ | refine blk_drew ?_ | refine blk_alloc ?_ _)); refine blk_put (cs := #[.int .i64 ((rd_T43 l0_0 a1).f0.f0), .int .i64 0]) ?_ 1 _ rfl; (with_reducible repeat (first | refine blk_drewN ?_ _ | refine blk_drew ?_ | refine blk_alloc ?_ _)); refine blk_put (cs := #[.int .i64 0, .int .i64 0]) ?_ 0 _ rfl; (with_reducible repeat (first | refine blk_drewN ?_ _ | refine blk_drew ?_ | refine blk_alloc ?_ _)); exact BK200.out) hb); replace HB := Aside0.mk (bt_ HB hb); (try clear hb); (try clear hb2); (try clear hk); (try clear hi); (try clear ho0)) | ((with_reducible refine gate_dst (N := 6) rfl ?_); refine box_event ?hg (N := 6) ?hd (cs := #[.slice none 0 0]) (t := 30) ?hr ?_; (case hd => rfl); (case hg => rfl); (case hr => first | (go_simp; done) | (go_simp; rfl)); intro gb204 hg w13 hbox hb; have BK204 := Aside0.mk hbox; have GW204 := ge_ HB hg; have GE204 := ge_ HB hg; have NB198_204 := nl_ BK198 hg; have NB204_198 := ng_ BK198 hg; have NB200_204 := nl_ BK200 hg; have NB204_200 := ng_ BK200 hg; replace HO203 := rb_ HO203 hb; replace HB := Aside0.mk (bt_ HB hb); replace BK198 := Aside0.mk (bb_ BK198 hb); replace BK200 := Aside0.mk (bb_ BK200 hb); clear hb hbox hg; obtain ⟨Ao14, co14, eo14⟩ := Kd.R_slice HO203.out; subst eo14; have hnb15 := NB204_198.out; have hnc15 := NB198_204.out; have hnb16 := NB204_200.out; have hnc16 := NB200_204.out; have hcz17_0 := cz_ BK204 0 (.slice none 0 0); have hfz17_0 := blk_frozen BK204.out 0; have hcz18_0 := cz_ BK200 0 (.int .i64 ((rd_T43 l0_0 a1).f0.f0)); have hcz18_1 := cz_ BK200 1 (.int .i64 ((rd_T43 l0_0 a1).f0.f1)); have hfz18_0 := blk_frozen BK200.out 0; have hfz18_1 := blk_frozen BK200.out 1))
 (try simp only [Act.put, List.setIfInBounds_toArray, List.set_cons_zero, List.set_cons_succ])
 go_loopg [7] k (fun kq v7 w' => ∃ (x7_1 : Int), v7 = .int .i64 x7_1 ∧ Aside0 (spec_l02Idle.l0 kq x7_1 l0_0 ((rd_T43 l0_0 a1).f0.f0) ((rd_T43 l0_0 a1).f0.f1) t201 = some r) ∧ Aside0 (kq ≤ k) ∧ Aside0 (Kd.R k43 43 w' w.heap.size (fun _ => True) (.slice Ao14 t201.length co14) t201) ∧ Aside0 (w'.heap[gb198]? = some (.cells #[(.slice (some ad199) l0_0.length c0_0)] 30 (0, 0))) ∧ Aside0 (w'.heap[gb200]? = some (.cells #[.int .i64 ((rd_T43 l0_0 a1).f0.f0), .int .i64 ((rd_T43 l0_0 a1).f0.f1)] 34 (0, 0))) ∧ Aside0 (w'.heap[gb204]? = some (.cells #[(.slice Ao14 t201.length co14)] 30 (0, 0))) ∧ Aside0 (Below w.heap.size w w'))
 case atStart => exact ⟨((rd_T43 l0_0 a1).f0.f0), (by first | rfl | (simp; done) | (simp [*]; done)), H', ⟨Nat.le_refl _⟩, ⟨by (with_reducible repeat (first | apply Kd.R_alloc | apply Kd.R_drewN | apply Kd.R_drew)); exact Kd.R_mono (Kd.R_far (p := ⟨gb204, 0, none⟩) (Kd.R_types HO203.out BK204.out (by decide)) (fun _ hk => hk.2) (.slice Ao14 t201.length co14)) (fun _ hk => trivial)⟩, ⟨by (with_reducible repeat (first | refine blk_drewN ?_ _ | refine blk_drew ?_ | refine blk_alloc ?_ _)); refine blk_far ?_ NB198_204.out _; (with_reducible repeat (first | refine blk_drewN ?_ _ | refine blk_drew ?_ | refine blk_alloc ?_ _)); exact BK198.out⟩, ⟨by (with_reducible repeat (first | refine blk_drewN ?_ _ | refine blk_drew ?_ | refine blk_alloc ?_ _)); refine blk_far ?_ NB200_204.out _; (with_reducible repeat (first | refine blk_drewN ?_ _ | refine blk_drew ?_ | refine blk_alloc ?_ _)); exact BK200.out⟩, ⟨by (with_reducible repeat (first | refine blk_drewN ?_ _ | refine blk_drew ?_ | refine blk_alloc ?_ _)); refine blk_put (cs := #[.slice none 0 0]) ?_ 0 _ rfl; (with_reducible repeat (first | refine blk_drewN ?_ _ | refine blk_drew ?_ | refine blk_alloc ?_ _)); exact BK204.out⟩, ⟨by repeat (first | (with_reducible first | exact HB.out | apply below_alloc | apply pw_below_drewN | apply below_drew1 | refine below_set ?_ GE198.out | refine below_set ?_ GE200.out | refine below_set ?_ GE204.out) | exact HB.out)⟩⟩
 case round =>
  clear H'
  try clear c1
  try clear p1
  try clear q1
  try clear hx1
  try clear c2
  try clear p2
  try clear c3
  try clear c3b0
  try clear c4
  try clear c4b0
  try clear c9
  try clear c15
  try clear c16
  try clear hcz10_0
  try clear hcz10_1
  try clear hcz11_0
  try clear hcz17_0
  try clear hcz18_0
  try clear hcz18_1
  try clear hcz7_0
  try clear hfz10_0
  try clear hfz10_1
  try clear hfz11_0
  try clear hfz17_0
  try clear hfz18_0
  try clear hfz18_1
  try clear hfz7_0
  try clear hx199_0
  try clear hx199_1
  try clear hx199_2
  try clear p199
  try clear q199
  obtain ⟨x7_1, rfl, HA, HK1, HO_205000, BK198, BK200, BK204, HB⟩ := hrel
  cases gk with
  | zero => exact absurd HA.out (by simp [spec_l02Idle.l0])
  | succ k1 =>
   have H := HA.out
   clear HA
   simp only [spec_l02Idle.l0] at H
   replace H := Option.bind_eq_some_iff.mp H
   obtain ⟨t205, A190, H⟩ := H
   have A19 := Aside0.mk A190
   clear A190
   by_cases c20 : x7_1 < (wrap64 (((rd_T43 l0_0 a1).f0.f0) + t205))
   rotate_left
   ·rw [if_neg c20] at H
    have c20b0 : decide (x7_1 < (wrap64 (((rd_T43 l0_0 a1).f0.f0) + t205))) = false := decide_eq_false c20
    clear c20
    obtain rfl := Option.some.inj H
    try go_wp2
    replace HO_205000 := Aside0.mk (Kd.R_drew HO_205000.out)
    replace BK198 := Aside0.mk (blk_drew BK198.out)
    replace BK200 := Aside0.mk (blk_drew BK200.out)
    replace BK204 := Aside0.mk (blk_drew BK204.out)
    replace HB := Aside0.mk (below_drew1 HB.out)
    refine start_ (n := 8) (S := fun w' => w'.cell? ⟨gb200, 0, none⟩ = some (.int .i64 ((rd_T43 l0_0 a1).f0.f0)) ∧ w'.cell? ⟨gb200, 1, none⟩ = some (.int .i64 ((rd_T43 l0_0 a1).f0.f1))) (ds := []) ba10_0 (by kernel_rfl) rfl rfl ⟨(blk_cell BK200.out 0).trans rfl, (blk_cell BK200.out 1).trans rfl⟩ (fun hHeld => ?_); refine with_tabW spec_l02Idle.tab4 spec_l02Idle.bits4 (fun HT_ HW_ => ?_)
    generalize wr.drew = w77 at HO_205000 BK198 BK200 BK204 HB hHeld ⊢
    refine pz_ 0 23 ba10_1 HT_ ?_
    refine pz_ 1 24 ba10_2 HT_ ?_
    refine pz_ 3 26 ba10_3 HT_ ?_
    refine pt_ 2 25 ba10_4 HT_ HW_ hHeld ?_
    refine pt_ 4 27 ba10_5 HT_ HW_ hHeld ?_
    refine one_ (i := 5) (N := some 28) ba10_6 rfl rfl (one_of HT_.out (by kernel_rfl)) (by decide) (fun K hK => ?_)
    refine gz_ Try.func43 #[.int .i64 ((rd_T43 l0_0 a1).f0.f1)] ?_
    with_reducible refine (spec_l01Size2.calls ((rd_T43 l0_0 a1).f0.f1) t205 _ A19.out).mono ?_
    rintro e w' ⟨rfl, ⟨nd, rfl⟩⟩
    refine ⟨_, rfl, ?_⟩
    refine hK.out _ _ ⟨(blk_cell BK200.out 0).trans rfl, (blk_cell BK200.out 1).trans rfl⟩ (fun hHeld => ?_)
    clear hK K
    refine nz_ 28 ?_
    refine pz_ 6 29 ba10_7 HT_ ?_
    refine pz_ 7 30 ba10_8 HT_ ?_
    refine done_ (done_of HT_.out (by kernel_rfl)) ?_
    try go_wp2
    go_ret
    exact ⟨by first | rfl | (simp [errW_none, errW_some] <;> rfl) | (simp [*, errW_none, errW_some] <;> rfl), by repeat (first | (with_reducible first | exact HB.out | apply below_alloc | apply pw_below_drewN | apply below_drew1 | refine below_set ?_ GE198.out | refine below_set ?_ GE200.out | refine below_set ?_ GE204.out) | exact HB.out)⟩
   rw [if_pos c20] at H
   have c20b0 : decide (x7_1 < (wrap64 (((rd_T43 l0_0 a1).f0.f0) + t205))) = true := decide_eq_true c20
   clear c20
   replace H := Option.bind_eq_some_iff.mp H
   obtain ⟨t206, A210, H⟩ := H
   have A21 := Aside0.mk A210
   clear A210
   replace H := Option.bind_eq_some_iff.mp H
   obtain ⟨t207, A220, H⟩ := H
   have A22 := Aside0.mk A220
   clear A220
   by_cases c23 : t206 = t207
   rotate_left
   ·rw [if_neg c23] at H
    have c23b0 : (t206 == t207) = false := beq_eq_false_iff_ne.mpr c23
    have c23b1 : (t206 != t207) = true := bne_iff_ne.mpr c23
    obtain rfl := Option.some.inj H
    try go_wp2
    replace HO_205000 := Aside0.mk (Kd.R_drew HO_205000.out)
    replace BK198 := Aside0.mk (blk_drew BK198.out)
    replace BK200 := Aside0.mk (blk_drew BK200.out)
    replace BK204 := Aside0.mk (blk_drew BK204.out)
    replace HB := Aside0.mk (below_drew1 HB.out)
    refine start_ (n := 8) (S := fun w' => w'.cell? ⟨gb200, 0, none⟩ = some (.int .i64 ((rd_T43 l0_0 a1).f0.f0)) ∧ w'.cell? ⟨gb200, 1, none⟩ = some (.int .i64 ((rd_T43 l0_0 a1).f0.f1))) (ds := []) ba10_0 (by kernel_rfl) rfl rfl ⟨(blk_cell BK200.out 0).trans rfl, (blk_cell BK200.out 1).trans rfl⟩ (fun hHeld => ?_); refine with_tabW spec_l02Idle.tab4 spec_l02Idle.bits4 (fun HT_ HW_ => ?_)
    generalize wr.drew = w73 at HO_205000 BK198 BK200 BK204 HB hHeld ⊢
    refine pz_ 0 23 ba10_1 HT_ ?_
    refine pz_ 1 24 ba10_2 HT_ ?_
    refine pz_ 3 26 ba10_3 HT_ ?_
    refine pt_ 2 25 ba10_4 HT_ HW_ hHeld ?_
    refine pt_ 4 27 ba10_5 HT_ HW_ hHeld ?_
    refine one_ (i := 5) (N := some 28) ba10_6 rfl rfl (one_of HT_.out (by kernel_rfl)) (by decide) (fun K hK => ?_)
    refine gz_ Try.func43 #[.int .i64 ((rd_T43 l0_0 a1).f0.f1)] ?_
    with_reducible refine (spec_l01Size2.calls ((rd_T43 l0_0 a1).f0.f1) t205 _ A19.out).mono ?_
    rintro e w' ⟨rfl, ⟨nd, rfl⟩⟩
    refine ⟨_, rfl, ?_⟩
    refine hK.out _ _ ⟨(blk_cell BK200.out 0).trans rfl, (blk_cell BK200.out 1).trans rfl⟩ (fun hHeld => ?_)
    clear hK K
    refine nz_ 28 ?_
    refine pz_ 6 29 ba10_7 HT_ ?_
    refine pz_ 7 30 ba10_8 HT_ ?_
    refine done_ (done_of HT_.out (by kernel_rfl)) ?_
    try go_wp2
    (try (rw [drewN_self w73]; generalize hq_ : World.drewN w73 _ = w73; replace HO_205000 : Aside0 (Kd.R k43 43 w73 w.heap.size (fun _ => True) (.slice Ao14 t201.length co14) t201) := ⟨by rw [← hq_]; exact (hd_ HO_205000)⟩; replace BK198 : Aside0 (w73.heap[gb198]? = some (.cells #[.slice (some ad199) l0_0.length c0_0] 30 (0, 0))) := ⟨by rw [← hq_]; exact (by (with_reducible repeat (first | refine blk_drewN ?_ _ | refine blk_drew ?_ | refine blk_alloc ?_ _)); exact BK198.out)⟩; replace BK200 : Aside0 (w73.heap[gb200]? = some (.cells #[.int .i64 ((rd_T43 l0_0 a1).f0.f0), .int .i64 ((rd_T43 l0_0 a1).f0.f1)] 34 (0, 0))) := ⟨by rw [← hq_]; exact (by (with_reducible repeat (first | refine blk_drewN ?_ _ | refine blk_drew ?_ | refine blk_alloc ?_ _)); exact BK200.out)⟩; replace BK204 : Aside0 (w73.heap[gb204]? = some (.cells #[.slice Ao14 t201.length co14] 30 (0, 0))) := ⟨by rw [← hq_]; exact (by (with_reducible repeat (first | refine blk_drewN ?_ _ | refine blk_drew ?_ | refine blk_alloc ?_ _)); exact BK204.out)⟩; replace HB : Aside0 (Below w.heap.size w w73) := ⟨by rw [← hq_]; exact (by repeat (first | (with_reducible first | exact HB.out | apply below_alloc | apply pw_below_drewN | apply below_drew1 | refine below_set ?_ GE198.out | refine below_set ?_ GE200.out | refine below_set ?_ GE204.out) | exact HB.out))⟩; clear hq_))
    replace HO_205000 := Aside0.mk (Kd.R_drew HO_205000.out)
    replace BK198 := Aside0.mk (blk_drew BK198.out)
    replace BK200 := Aside0.mk (blk_drew BK200.out)
    replace BK204 := Aside0.mk (blk_drew BK204.out)
    replace HB := Aside0.mk (below_drew1 HB.out)
    refine start_ (n := 7) (S := fun w' => w'.cell? ⟨gb198, 0, none⟩ = some (.slice (some ad199) l0_0.length c0_0) ∧ w'.cell? ⟨gb204, 0, none⟩ = some (.slice Ao14 t201.length co14)) (ds := []) ba10_9 (by kernel_rfl) rfl rfl ⟨(blk_cell BK198.out 0).trans rfl, (blk_cell BK204.out 0).trans rfl⟩ (fun hHeld => ?_)
    generalize w73.drew = w74 at HO_205000 BK198 BK200 BK204 HB hHeld ⊢
    refine pure_ (i := 1) (N := some 34) (v := ?_) (a' := ?_) ba10_10 rfl rfl (by kernel_rfl) (fun _ _ _ h => h) (Or.inl ⟨by rfl, ?_⟩) ?_ ?_
    rotate_left; · intro w'; go_simp; with_reducible rfl
    rotate_left; · simp only [Act.put, List.setIfInBounds_toArray, List.set_cons_zero, List.set_cons_succ, i64_w, i32_w]; rfl
    refine pure_ (i := 4) (N := some 37) (v := ?_) (a' := ?_) ba10_11 rfl rfl (by kernel_rfl) (fun _ _ _ h => h) (Or.inl ⟨by rfl, ?_⟩) ?_ ?_
    rotate_left; · intro w'; go_simp; with_reducible rfl
    rotate_left; · simp only [Act.put, List.setIfInBounds_toArray, List.set_cons_zero, List.set_cons_succ, i64_w, i32_w]; rfl
    refine take_ (i := 0) (N := some 33) (v := ?_) (a' := ?_) ba10_12 rfl rfl (by kernel_rfl) (fun _ _ _ h => h) (Or.inl ⟨by rfl, ?_⟩) hHeld ?_ ?_
    rotate_left; · rintro w' ⟨s0, s1⟩; go_simp; with_reducible rfl
    rotate_left; · simp only [Act.put, List.setIfInBounds_toArray, List.set_cons_zero, List.set_cons_succ, i64_w, i32_w]; rfl
    refine take_ (i := 3) (N := some 36) (v := ?_) (a' := ?_) ba10_13 rfl rfl (by kernel_rfl) (fun _ _ _ h => h) (Or.inl ⟨by rfl, ?_⟩) hHeld ?_ ?_
    rotate_left; · rintro w' ⟨s0, s1⟩; go_simp; with_reducible rfl
    rotate_left; · simp only [Act.put, List.setIfInBounds_toArray, List.set_cons_zero, List.set_cons_succ, i64_w, i32_w]; rfl
    refine one_ (i := 2) (N := some 35) ba10_14 rfl rfl (by kernel_rfl) (by decide) (fun K hK => ?_)
    refine gz_ Try.func60 #[.agg #[.slice (some ad199) l0_0.length c0_0], .int .i64 x7_1] ?_
    with_reducible refine (spec_FindHop.calls k1 _ _ l0_0 x7_1 t206 _ ?side1 ?side2 A21.out).mono ?_
    (case side1 => exact cb_ HR0_0 HB)
    (case side2 => exact HC0_0.out)
    rintro e w75 ⟨rfl, hb⟩
    refine ⟨_, rfl, ?_⟩
    replace HO_205000 := rb_ HO_205000 hb
    replace BK198 := Aside0.mk (bb_ BK198 hb)
    replace BK200 := Aside0.mk (bb_ BK200 hb)
    replace BK204 := Aside0.mk (bb_ BK204 hb)
    replace HB := Aside0.mk (bt_ HB hb)
    (try clear hb)
    (try clear hb2)
    (try clear hk)
    (try clear hi)
    refine hK.out _ _ ⟨(blk_cell BK198.out 0).trans rfl, (blk_cell BK204.out 0).trans rfl⟩ (fun hHeld => ?_)
    clear hK K
    refine nz_ 35 ?_
    refine one_ (i := 5) (N := some 38) ba10_15 rfl rfl (by kernel_rfl) (by decide) (fun K hK => ?_)
    refine gz_ Try.func60 #[.agg #[.slice Ao14 t201.length co14], .int .i64 x7_1] ?_
    with_reducible refine (spec_FindHop.calls k1 _ _ t201 x7_1 t207 _ ?side1 ?side2 A22.out).mono ?_
    (case side1 => exact rc_ HO_205000)
    (case side2 => exact (Kd.R_reads' HO_205000.out).2.1)
    rintro e w76 ⟨rfl, hb⟩
    refine ⟨_, rfl, ?_⟩
    replace HO_205000 := rb_ HO_205000 hb
    replace BK198 := Aside0.mk (bb_ BK198 hb)
    replace BK200 := Aside0.mk (bb_ BK200 hb)
    replace BK204 := Aside0.mk (bb_ BK204 hb)
    replace HB := Aside0.mk (bt_ HB hb)
    (try clear hb)
    (try clear hb2)
    (try clear hk)
    (try clear hi)
    refine hK.out _ _ ⟨(blk_cell BK198.out 0).trans rfl, (blk_cell BK204.out 0).trans rfl⟩ (fun hHeld => ?_)
    clear hK K
    refine nz_ 38 ?_
    refine pure_ (i := 6) (N := some 39) (v := ?_) (a' := ?_) ba10_16 rfl rfl (by kernel_rfl) (fun _ _ _ h => h) (Or.inl ⟨by rfl, ?_⟩) ?_ ?_
    rotate_left; · intro w'; go_simp; with_reducible rfl
    rotate_left; · simp only [Act.put, List.setIfInBounds_toArray, List.set_cons_zero, List.set_cons_succ, i64_w, i32_w]; rfl
    refine done_ (by kernel_rfl) ?_
    try go_wp2
    go_ret
    exact ⟨by first | rfl | (simp [errW_none, errW_some] <;> rfl) | (simp [*, errW_none, errW_some] <;> rfl), by repeat (first | (with_reducible first | exact HB.out | apply below_alloc | apply pw_below_drewN | apply below_drew1 | refine below_set ?_ GE198.out | refine below_set ?_ GE200.out | refine below_set ?_ GE204.out) | exact HB.out)⟩
   rw [if_pos c23] at H
   have c23b0 : (t206 == t207) = true := beq_iff_eq.mpr c23
   have c23b1 : (t206 != t207) = false := bne_eq_false_iff_eq.mpr c23
   clear c23
   replace H := Option.bind_eq_some_iff.mp H
   obtain ⟨t208, A240, H⟩ := H
   have A24 := Aside0.mk A240
   clear A240
   have H' := Aside0.mk H
   clear H
   try go_wp2
   replace HO_205000 := Aside0.mk (Kd.R_drew HO_205000.out)
   replace BK198 := Aside0.mk (blk_drew BK198.out)
   replace BK200 := Aside0.mk (blk_drew BK200.out)
   replace BK204 := Aside0.mk (blk_drew BK204.out)
   replace HB := Aside0.mk (below_drew1 HB.out)
   refine start_ (n := 8) (S := fun w' => w'.cell? ⟨gb200, 0, none⟩ = some (.int .i64 ((rd_T43 l0_0 a1).f0.f0)) ∧ w'.cell? ⟨gb200, 1, none⟩ = some (.int .i64 ((rd_T43 l0_0 a1).f0.f1))) (ds := []) ba10_0 (by kernel_rfl) rfl rfl ⟨(blk_cell BK200.out 0).trans rfl, (blk_cell BK200.out 1).trans rfl⟩ (fun hHeld => ?_); refine with_tabW spec_l02Idle.tab4 spec_l02Idle.bits4 (fun HT_ HW_ => ?_)
   generalize wr.drew = w25 at HO_205000 BK198 BK200 BK204 HB hHeld ⊢
   refine pz_ 0 23 ba10_1 HT_ ?_
   refine pz_ 1 24 ba10_2 HT_ ?_
   refine pz_ 3 26 ba10_3 HT_ ?_
   refine pt_ 2 25 ba10_4 HT_ HW_ hHeld ?_
   refine pt_ 4 27 ba10_5 HT_ HW_ hHeld ?_
   refine one_ (i := 5) (N := some 28) ba10_6 rfl rfl (one_of HT_.out (by kernel_rfl)) (by decide) (fun K hK => ?_)
   refine gz_ Try.func43 #[.int .i64 ((rd_T43 l0_0 a1).f0.f1)] ?_
   with_reducible refine (spec_l01Size2.calls ((rd_T43 l0_0 a1).f0.f1) t205 _ A19.out).mono ?_
   rintro e w' ⟨rfl, ⟨nd, rfl⟩⟩
   refine ⟨_, rfl, ?_⟩
   refine hK.out _ _ ⟨(blk_cell BK200.out 0).trans rfl, (blk_cell BK200.out 1).trans rfl⟩ (fun hHeld => ?_)
   clear hK K
   refine nz_ 28 ?_
   refine pz_ 6 29 ba10_7 HT_ ?_
   refine pz_ 7 30 ba10_8 HT_ ?_
   refine done_ (done_of HT_.out (by kernel_rfl)) ?_
   try go_wp2
   (try (rw [drewN_self w25]; generalize hq_ : World.drewN w25 _ = w25; replace HO_205000 : Aside0 (Kd.R k43 43 w25 w.heap.size (fun _ => True) (.slice Ao14 t201.length co14) t201) := ⟨by rw [← hq_]; exact (hd_ HO_205000)⟩; replace BK198 : Aside0 (w25.heap[gb198]? = some (.cells #[.slice (some ad199) l0_0.length c0_0] 30 (0, 0))) := ⟨by rw [← hq_]; exact (by (with_reducible repeat (first | refine blk_drewN ?_ _ | refine blk_drew ?_ | refine blk_alloc ?_ _)); exact BK198.out)⟩; replace BK200 : Aside0 (w25.heap[gb200]? = some (.cells #[.int .i64 ((rd_T43 l0_0 a1).f0.f0), .int .i64 ((rd_T43 l0_0 a1).f0.f1)] 34 (0, 0))) := ⟨by rw [← hq_]; exact (by (with_reducible repeat (first | refine blk_drewN ?_ _ | refine blk_drew ?_ | refine blk_alloc ?_ _)); exact BK200.out)⟩; replace BK204 : Aside0 (w25.heap[gb204]? = some (.cells #[.slice Ao14 t201.length co14] 30 (0, 0))) := ⟨by rw [← hq_]; exact (by (with_reducible repeat (first | refine blk_drewN ?_ _ | refine blk_drew ?_ | refine blk_alloc ?_ _)); exact BK204.out)⟩; replace HB : Aside0 (Below w.heap.size w w25) := ⟨by rw [← hq_]; exact (by repeat (first | (with_reducible first | exact HB.out | apply below_alloc | apply pw_below_drewN | apply below_drew1 | refine below_set ?_ GE198.out | refine below_set ?_ GE200.out | refine below_set ?_ GE204.out) | exact HB.out))⟩; clear hq_))
   replace HO_205000 := Aside0.mk (Kd.R_drew HO_205000.out)
   replace BK198 := Aside0.mk (blk_drew BK198.out)
   replace BK200 := Aside0.mk (blk_drew BK200.out)
   replace BK204 := Aside0.mk (blk_drew BK204.out)
   replace HB := Aside0.mk (below_drew1 HB.out)
   refine start_ (n := 7) (S := fun w' => w'.cell? ⟨gb198, 0, none⟩ = some (.slice (some ad199) l0_0.length c0_0) ∧ w'.cell? ⟨gb204, 0, none⟩ = some (.slice Ao14 t201.length co14)) (ds := []) ba10_9 (by kernel_rfl) rfl rfl ⟨(blk_cell BK198.out 0).trans rfl, (blk_cell BK204.out 0).trans rfl⟩ (fun hHeld => ?_)
   generalize w25.drew = w26 at HO_205000 BK198 BK200 BK204 HB hHeld ⊢
   refine pure_ (i := 1) (N := some 34) (v := ?_) (a' := ?_) ba10_10 rfl rfl (by kernel_rfl) (fun _ _ _ h => h) (Or.inl ⟨by rfl, ?_⟩) ?_ ?_
   rotate_left; · intro w'; go_simp; with_reducible rfl
   rotate_left; · simp only [Act.put, List.setIfInBounds_toArray, List.set_cons_zero, List.set_cons_succ, i64_w, i32_w]; rfl
   refine pure_ (i := 4) (N := some 37) (v := ?_) (a' := ?_) ba10_11 rfl rfl (by kernel_rfl) (fun _ _ _ h => h) (Or.inl ⟨by rfl, ?_⟩) ?_ ?_
   rotate_left; · intro w'; go_simp; with_reducible rfl
   rotate_left; · simp only [Act.put, List.setIfInBounds_toArray, List.set_cons_zero, List.set_cons_succ, i64_w, i32_w]; rfl
   refine take_ (i := 0) (N := some 33) (v := ?_) (a' := ?_) ba10_12 rfl rfl (by kernel_rfl) (fun _ _ _ h => h) (Or.inl ⟨by rfl, ?_⟩) hHeld ?_ ?_
   rotate_left; · rintro w' ⟨s0, s1⟩; go_simp; with_reducible rfl
   rotate_left; · simp only [Act.put, List.setIfInBounds_toArray, List.set_cons_zero, List.set_cons_succ, i64_w, i32_w]; rfl
   refine take_ (i := 3) (N := some 36) (v := ?_) (a' := ?_) ba10_13 rfl rfl (by kernel_rfl) (fun _ _ _ h => h) (Or.inl ⟨by rfl, ?_⟩) hHeld ?_ ?_
   rotate_left; · rintro w' ⟨s0, s1⟩; go_simp; with_reducible rfl
   rotate_left; · simp only [Act.put, List.setIfInBounds_toArray, List.set_cons_zero, List.set_cons_succ, i64_w, i32_w]; rfl
   refine one_ (i := 2) (N := some 35) ba10_14 rfl rfl (by kernel_rfl) (by decide) (fun K hK => ?_)
   refine gz_ Try.func60 #[.agg #[.slice (some ad199) l0_0.length c0_0], .int .i64 x7_1] ?_
   with_reducible refine (spec_FindHop.calls k1 _ _ l0_0 x7_1 t206 _ ?side1 ?side2 A21.out).mono ?_
   (case side1 => exact cb_ HR0_0 HB)
   (case side2 => exact HC0_0.out)
   rintro e w27 ⟨rfl, hb⟩
   refine ⟨_, rfl, ?_⟩
   replace HO_205000 := rb_ HO_205000 hb
   replace BK198 := Aside0.mk (bb_ BK198 hb)
   replace BK200 := Aside0.mk (bb_ BK200 hb)
   replace BK204 := Aside0.mk (bb_ BK204 hb)
   replace HB := Aside0.mk (bt_ HB hb)
   (try clear hb)
   (try clear hb2)
   (try clear hk)
   (try clear hi)
   refine hK.out _ _ ⟨(blk_cell BK198.out 0).trans rfl, (blk_cell BK204.out 0).trans rfl⟩ (fun hHeld => ?_)
   clear hK K
   refine nz_ 35 ?_
   refine one_ (i := 5) (N := some 38) ba10_15 rfl rfl (by kernel_rfl) (by decide) (fun K hK => ?_)
   refine gz_ Try.func60 #[.agg #[.slice Ao14 t201.length co14], .int .i64 x7_1] ?_
   with_reducible refine (spec_FindHop.calls k1 _ _ t201 x7_1 t207 _ ?side1 ?side2 A22.out).mono ?_
   (case side1 => exact rc_ HO_205000)
   (case side2 => exact (Kd.R_reads' HO_205000.out).2.1)
   rintro e w28 ⟨rfl, hb⟩
   refine ⟨_, rfl, ?_⟩
   replace HO_205000 := rb_ HO_205000 hb
   replace BK198 := Aside0.mk (bb_ BK198 hb)
   replace BK200 := Aside0.mk (bb_ BK200 hb)
   replace BK204 := Aside0.mk (bb_ BK204 hb)
   replace HB := Aside0.mk (bt_ HB hb)
   (try clear hb)
   (try clear hb2)
   (try clear hk)
   (try clear hi)
   refine hK.out _ _ ⟨(blk_cell BK198.out 0).trans rfl, (blk_cell BK204.out 0).trans rfl⟩ (fun hHeld => ?_)
   clear hK K
   refine nz_ 38 ?_
   refine pure_ (i := 6) (N := some 39) (v := ?_) (a' := ?_) ba10_16 rfl rfl (by kernel_rfl) (fun _ _ _ h => h) (Or.inl ⟨by rfl, ?_⟩) ?_ ?_
   rotate_left; · intro w'; go_simp; with_reducible rfl
   rotate_left; · simp only [Act.put, List.setIfInBounds_toArray, List.set_cons_zero, List.set_cons_succ, i64_w, i32_w]; rfl
   refine done_ (by kernel_rfl) ?_
   try go_wp2
   replace HO_205000 := Aside0.mk (Kd.R_drew HO_205000.out)
   replace BK198 := Aside0.mk (blk_drew BK198.out)
   replace BK200 := Aside0.mk (blk_drew BK200.out)
   replace BK204 := Aside0.mk (blk_drew BK204.out)
   replace HB := Aside0.mk (below_drew1 HB.out)
   refine start_ (n := 7) (S := fun w' => w'.cell? ⟨gb200, 0, none⟩ = some (.int .i64 ((rd_T43 l0_0 a1).f0.f0)) ∧ w'.cell? ⟨gb200, 1, none⟩ = some (.int .i64 ((rd_T43 l0_0 a1).f0.f1))) (ds := []) ba10_9 (by kernel_rfl) rfl rfl ⟨(blk_cell BK200.out 0).trans rfl, (blk_cell BK200.out 1).trans rfl⟩ (fun hHeld => ?_)
   generalize w28.drew = w29 at HO_205000 BK198 BK200 BK204 HB hHeld ⊢
   refine pure_ (i := 0) (N := some 40) (v := ?_) (a' := ?_) ba10_17 rfl rfl (by kernel_rfl) (fun _ _ _ h => h) (Or.inl ⟨by rfl, ?_⟩) ?_ ?_
   rotate_left; · intro w'; go_simp; with_reducible rfl
   rotate_left; · simp only [Act.put, List.setIfInBounds_toArray, List.set_cons_zero, List.set_cons_succ, i64_w, i32_w]; rfl
   refine pure_ (i := 2) (N := some 42) (v := ?_) (a' := ?_) ba10_18 rfl rfl (by kernel_rfl) (fun _ _ _ h => h) (Or.inl ⟨by rfl, ?_⟩) ?_ ?_
   rotate_left; · intro w'; go_simp; with_reducible rfl
   rotate_left; · simp only [Act.put, List.setIfInBounds_toArray, List.set_cons_zero, List.set_cons_succ, i64_w, i32_w]; rfl
   refine take_ (i := 1) (N := some 41) (v := ?_) (a' := ?_) ba10_19 rfl rfl (by kernel_rfl) (fun _ _ _ h => h) (Or.inl ⟨by rfl, ?_⟩) hHeld ?_ ?_
   rotate_left; · rintro w' ⟨s0, s1⟩; go_simp; with_reducible rfl
   rotate_left; · simp only [Act.put, List.setIfInBounds_toArray, List.set_cons_zero, List.set_cons_succ, i64_w, i32_w]; rfl
   refine take_ (i := 3) (N := some 43) (v := ?_) (a' := ?_) ba10_20 rfl rfl (by kernel_rfl) (fun _ _ _ h => h) (Or.inl ⟨by rfl, ?_⟩) hHeld ?_ ?_
   rotate_left; · rintro w' ⟨s0, s1⟩; go_simp; with_reducible rfl
   rotate_left; · simp only [Act.put, List.setIfInBounds_toArray, List.set_cons_zero, List.set_cons_succ, i64_w, i32_w]; rfl
   refine one_ (i := 4) (N := some 44) ba10_14 rfl rfl (by kernel_rfl) (by decide) (fun K hK => ?_)
   refine gz_ Try.func43 #[.int .i64 ((rd_T43 l0_0 a1).f0.f1)] ?_
   with_reducible refine (spec_l01Size2.calls ((rd_T43 l0_0 a1).f0.f1) t208 _ A24.out).mono ?_
   rintro e w' ⟨rfl, ⟨nd, rfl⟩⟩
   refine ⟨_, rfl, ?_⟩
   refine hK.out _ _ ⟨(blk_cell BK200.out 0).trans rfl, (blk_cell BK200.out 1).trans rfl⟩ (fun hHeld => ?_)
   clear hK K
   refine nz_ 44 ?_
   refine pure_ (i := 5) (N := some 45) (v := ?_) (a' := ?_) ba10_15 rfl rfl (by kernel_rfl) (fun _ _ _ h => h) (Or.inl ⟨by rfl, ?_⟩) ?_ ?_
   rotate_left; · intro w'; go_simp; with_reducible rfl
   rotate_left; · simp only [Act.put, List.setIfInBounds_toArray, List.set_cons_zero, List.set_cons_succ, i64_w, i32_w]; rfl
   refine pure_ (i := 6) (N := some 8) (v := ?_) (a' := ?_) ba10_16 rfl rfl (by kernel_rfl) (fun _ _ _ h => h) (Or.inl ⟨by rfl, ?_⟩) ?_ ?_
   rotate_left; · intro w'; go_simp; with_reducible rfl
   rotate_left; · simp only [Act.put, List.setIfInBounds_toArray, List.set_cons_zero, List.set_cons_succ, i64_w, i32_w]; rfl
   refine done_ (by kernel_rfl) ?_
   try go_wp2
   go_loopg [8, 9] k1 (fun kq v8 v9 w' => ∃ (x8_2 : Int) (x9_2 : Int), v8 = .int .i64 x8_2 ∧ v9 = .int .i64 x9_2 ∧ Aside0 (spec_l02Idle.l1 kq x7_1 x8_2 x9_2 l0_0 ((rd_T43 l0_0 a1).f0.f0) ((rd_T43 l0_0 a1).f0.f1) t201 = some r) ∧ Aside0 (kq ≤ k1) ∧ Aside0 (Kd.R k43 43 w' w.heap.size (fun _ => True) (.slice Ao14 t201.length co14) t201) ∧ Aside0 (w'.heap[gb198]? = some (.cells #[(.slice (some ad199) l0_0.length c0_0)] 30 (0, 0))) ∧ Aside0 (w'.heap[gb200]? = some (.cells #[.int .i64 ((rd_T43 l0_0 a1).f0.f0), .int .i64 ((rd_T43 l0_0 a1).f0.f1)] 34 (0, 0))) ∧ Aside0 (w'.heap[gb204]? = some (.cells #[(.slice Ao14 t201.length co14)] 30 (0, 0))) ∧ Aside0 (Below w.heap.size w w'))
   case atStart => exact ⟨(wrap64 (((rd_T43 l0_0 a1).f0.f0) + t208)), (0), (by first | rfl | (simp; done) | (simp [*]; done)), (by first | rfl | (simp; done) | (simp [*]; done)), H', ⟨Nat.le_refl _⟩, ⟨by (with_reducible repeat (first | apply Kd.R_alloc | apply Kd.R_drewN | apply Kd.R_drew)); exact HO_205000.out⟩, ⟨by (with_reducible repeat (first | refine blk_drewN ?_ _ | refine blk_drew ?_ | refine blk_alloc ?_ _)); exact BK198.out⟩, ⟨by (with_reducible repeat (first | refine blk_drewN ?_ _ | refine blk_drew ?_ | refine blk_alloc ?_ _)); exact BK200.out⟩, ⟨by (with_reducible repeat (first | refine blk_drewN ?_ _ | refine blk_drew ?_ | refine blk_alloc ?_ _)); exact BK204.out⟩, ⟨by repeat (first | (with_reducible first | exact HB.out | apply below_alloc | apply pw_below_drewN | apply below_drew1 | refine below_set ?_ GE198.out | refine below_set ?_ GE200.out | refine below_set ?_ GE204.out) | exact HB.out)⟩⟩
   case round =>
    clear H'
    try clear c1
    try clear p1
    try clear q1
    try clear hx1
    try clear c2
    try clear p2
    try clear c3
    try clear c3b0
    try clear c4
    try clear c4b0
    try clear c6
    try clear p6
    try clear c9
    try clear c15
    try clear c16
    try clear p19
    try clear q19
    try clear hx19
    try clear c20
    try clear c20b0
    try clear c23
    try clear c23b0
    try clear c23b1
    try clear c26
    try clear hcz10_0
    try clear hcz10_1
    try clear hcz11_0
    try clear hcz17_0
    try clear hcz18_0
    try clear hcz18_1
    try clear hcz7_0
    try clear hfz10_0
    try clear hfz10_1
    try clear hfz11_0
    try clear hfz17_0
    try clear hfz18_0
    try clear hfz18_1
    try clear hfz7_0
    try clear hx199_0
    try clear hx199_1
    try clear hx199_2
    try clear p1
    try clear p199
    try clear p2
    try clear q1
    try clear q199
    obtain ⟨x8_2, x9_2, rfl, rfl, HA, HK2, HO_205000, BK198, BK200, BK204, HB⟩ := hrel
    cases gk with
    | zero => exact absurd HA.out (by simp [spec_l02Idle.l1])
    | succ k2 =>
     have H := HA.out
     clear HA
     simp only [spec_l02Idle.l1] at H
     by_cases c30 : x9_2 < (l0_0.length : Int)
     rotate_left
     ·rw [if_neg c30] at H
      have c30b0 : decide (x9_2 < (l0_0.length : Int)) = false := decide_eq_false c30
      clear c30
      have H' := Aside0.mk H
      clear H
      have hnb70 := NB198_200.out
      have hnc70 := NB200_198.out
      have hnb71 := NB198_204.out
      have hnc71 := NB204_198.out
      have hcz72_0 := cz_ BK198 0 (.slice (some ad199) l0_0.length c0_0)
      have hfz72_0 := blk_frozen BK198.out 0
      go_wp2
      go_roundg k2
      case measure => have := HK1.out; have := HK2.out; omega
      case rel => exact ⟨(wrap64 ((wrap64 (x8_2 - 1)) + 1)), (by first | rfl | (simp; done) | (simp [*]; done)), H', ⟨by have := HK1.out; have := HK2.out; omega⟩, ⟨by (with_reducible repeat (first | apply Kd.R_alloc | apply Kd.R_drewN | apply Kd.R_drew)); exact HO_205000.out⟩, ⟨by (with_reducible repeat (first | refine blk_drewN ?_ _ | refine blk_drew ?_ | refine blk_alloc ?_ _)); exact BK198.out⟩, ⟨by (with_reducible repeat (first | refine blk_drewN ?_ _ | refine blk_drew ?_ | refine blk_alloc ?_ _)); exact BK200.out⟩, ⟨by (with_reducible repeat (first | refine blk_drewN ?_ _ | refine blk_drew ?_ | refine blk_alloc ?_ _)); exact BK204.out⟩, ⟨by repeat (first | (with_reducible first | exact HB.out | apply below_alloc | apply pw_below_drewN | apply below_drew1 | refine below_set ?_ GE198.out | refine below_set ?_ GE200.out | refine below_set ?_ GE204.out) | exact HB.out)⟩⟩
     rw [if_pos c30] at H
     have c30b0 : decide (x9_2 < (l0_0.length : Int)) = true := decide_eq_true c30
     clear c30
     by_cases c31 : 0 ≤ x9_2
     rotate_left
     ·rw [if_neg c31] at H
      exact absurd H (by simp)
     rw [if_pos c31] at H
     have c31b0 : decide (0 ≤ x9_2) = true := decide_eq_true c31
     clear c31
     replace H := Option.bind_eq_some_iff.mp H
     obtain ⟨t211, A320, H⟩ := H
     have A32 := Aside0.mk A320
     clear A320
     have HC33 := Aside0.mk H
     clear H
     have hnb34 := NB198_200.out
     have hnc34 := NB200_198.out
     have hnb35 := NB198_204.out
     have hnc35 := NB204_198.out
     have hcz36_0 := cz_ BK198 0 (.slice (some ad199) l0_0.length c0_0)
     have hfz36_0 := blk_frozen BK198.out 0
     have p209 : 0 ≤ (x9_2 : Int) := of_decide_eq_true (by first | (with_reducible assumption) | assumption)
     have q209 : x9_2 < (l0_0.length : Int) := of_decide_eq_true (by first | (with_reducible assumption) | assumption)
     obtain ⟨ad209, e209, hx209_0, hx209_1, hx209_2⟩ := at_T43 HR0_0.out x9_2 p209 q209
     obtain rfl : ad199 = ad209 := (by injection e209)
     replace hx209_0 := (HB.out.cell (World.block_lt_of_cell? w _ hx209_0)).trans hx209_0
     replace hx209_1 := (HB.out.cell (World.block_lt_of_cell? w _ hx209_1)).trans hx209_1
     replace hx209_2 := (HB.out.cell (World.block_lt_of_cell? w _ hx209_2)).trans hx209_2
     replace p209 := eq_true p209
     replace q209 := eq_true q209
     try go_wp2_with (first | ((with_reducible refine gate_dst (N := 10) rfl ?_); refine box_event ?hg (N := 10) ?hd (cs := #[.int .i64 0, .int .i64 0]) (t := 34) ?hr ?_; (case hd => rfl); (case hg => rfl); (case hr => first | (go_simp; done) | (go_simp; rfl)); intro gb210 hg w37 hbox hb; have BK210 := Aside0.mk hbox; have GW210 := ge_ HB hg; have GE210 := ge_ HB hg; have NB198_210 := nl_ BK198 hg; have NB210_198 := ng_ BK198 hg; have NB200_210 := nl_ BK200 hg; have NB210_200 := ng_ BK200 hg; have NB204_210 := nl_ BK204 hg; have NB210_204 := ng_ BK204 hg; replace HO_205000 := rb_ HO_205000 hb; replace HB := Aside0.mk (bt_ HB hb); replace BK198 := Aside0.mk (bb_ BK198 hb); replace BK200 := Aside0.mk (bb_ BK200 hb); replace BK204 := Aside0.mk (bb_ BK204 hb); clear hb hbox hg; have hnb38 := NB210_198.out; have hnc38 := NB198_210.out; have hnb39 := NB210_200.out; have hnc39 := NB200_210.out; have hnb40 := NB210_204.out; have hnc40 := NB204_210.out; have hcz41_0 := cz_ BK210 0 (.int .i64 0); have hcz41_1 := cz_ BK210 1 (.int .i64 0); have hfz41_0 := blk_frozen BK210.out 0; have hfz41_1 := blk_frozen BK210.out 1))
     have n0_ : Aside0 (Kd.R k43 43 ((w37.setCell ⟨gb210, 0, none⟩ (.int .i64 ((rd_T43 l0_0 x9_2).f0.f0))).setCell ⟨gb210, 1, none⟩ (.int .i64 ((rd_T43 l0_0 x9_2).f0.f1))) w.heap.size (fun _ => True) (.slice Ao14 t201.length co14) t201) := ⟨by (with_reducible repeat (first | apply Kd.R_alloc | apply Kd.R_drewN | apply Kd.R_drew)); exact Kd.R_mono (Kd.R_far (p := ⟨gb210, 1, none⟩) (Kd.R_far (p := ⟨gb210, 0, none⟩) (Kd.R_types HO_205000.out BK210.out (by decide)) (fun _ hk => hk.2) (.int .i64 ((rd_T43 l0_0 x9_2).f0.f0))) (fun _ hk => hk.2) (.int .i64 ((rd_T43 l0_0 x9_2).f0.f1))) (fun _ hk => trivial)⟩
     have n1_ : Aside0 (((w37.setCell ⟨gb210, 0, none⟩ (.int .i64 ((rd_T43 l0_0 x9_2).f0.f0))).setCell ⟨gb210, 1, none⟩ (.int .i64 ((rd_T43 l0_0 x9_2).f0.f1))).heap[gb198]? = some (.cells #[.slice (some ad199) l0_0.length c0_0] 30 (0, 0))) := ⟨by (with_reducible repeat (first | refine blk_drewN ?_ _ | refine blk_drew ?_ | refine blk_alloc ?_ _)); refine blk_far ?_ NB198_210.out _; (with_reducible repeat (first | refine blk_drewN ?_ _ | refine blk_drew ?_ | refine blk_alloc ?_ _)); refine blk_far ?_ NB198_210.out _; (with_reducible repeat (first | refine blk_drewN ?_ _ | refine blk_drew ?_ | refine blk_alloc ?_ _)); exact BK198.out⟩
     have n2_ : Aside0 (((w37.setCell ⟨gb210, 0, none⟩ (.int .i64 ((rd_T43 l0_0 x9_2).f0.f0))).setCell ⟨gb210, 1, none⟩ (.int .i64 ((rd_T43 l0_0 x9_2).f0.f1))).heap[gb200]? = some (.cells #[.int .i64 ((rd_T43 l0_0 a1).f0.f0), .int .i64 ((rd_T43 l0_0 a1).f0.f1)] 34 (0, 0))) := ⟨by (with_reducible repeat (first | refine blk_drewN ?_ _ | refine blk_drew ?_ | refine blk_alloc ?_ _)); refine blk_far ?_ NB200_210.out _; (with_reducible repeat (first | refine blk_drewN ?_ _ | refine blk_drew ?_ | refine blk_alloc ?_ _)); refine blk_far ?_ NB200_210.out _; (with_reducible repeat (first | refine blk_drewN ?_ _ | refine blk_drew ?_ | refine blk_alloc ?_ _)); exact BK200.out⟩
     have n3_ : Aside0 (((w37.setCell ⟨gb210, 0, none⟩ (.int .i64 ((rd_T43 l0_0 x9_2).f0.f0))).setCell ⟨gb210, 1, none⟩ (.int .i64 ((rd_T43 l0_0 x9_2).f0.f1))).heap[gb204]? = some (.cells #[.slice Ao14 t201.length co14] 30 (0, 0))) := ⟨by (with_reducible repeat (first | refine blk_drewN ?_ _ | refine blk_drew ?_ | refine blk_alloc ?_ _)); refine blk_far ?_ NB204_210.out _; (with_reducible repeat (first | refine blk_drewN ?_ _ | refine blk_drew ?_ | refine blk_alloc ?_ _)); refine blk_far ?_ NB204_210.out _; (with_reducible repeat (first | refine blk_drewN ?_ _ | refine blk_drew ?_ | refine blk_alloc ?_ _)); exact BK204.out⟩
     have n4_ : Aside0 (((w37.setCell ⟨gb210, 0, none⟩ (.int .i64 ((rd_T43 l0_0 x9_2).f0.f0))).setCell ⟨gb210, 1, none⟩ (.int .i64 ((rd_T43 l0_0 x9_2).f0.f1))).heap[gb210]? = some (.cells #[.int .i64 ((rd_T43 l0_0 x9_2).f0.f0), .int .i64 ((rd_T43 l0_0 x9_2).f0.f1)] 34 (0, 0))) := ⟨by (with_reducible repeat (first | refine blk_drewN ?_ _ | refine blk_drew ?_ | refine blk_alloc ?_ _)); refine blk_put (cs := #[.int .i64 ((rd_T43 l0_0 x9_2).f0.f0), .int .i64 0]) ?_ 1 _ rfl; (with_reducible repeat (first | refine blk_drewN ?_ _ | refine blk_drew ?_ | refine blk_alloc ?_ _)); refine blk_put (cs := #[.int .i64 0, .int .i64 0]) ?_ 0 _ rfl; (with_reducible repeat (first | refine blk_drewN ?_ _ | refine blk_drew ?_ | refine blk_alloc ?_ _)); exact BK210.out⟩
     have n5_ : Aside0 (Below w.heap.size w ((w37.setCell ⟨gb210, 0, none⟩ (.int .i64 ((rd_T43 l0_0 x9_2).f0.f0))).setCell ⟨gb210, 1, none⟩ (.int .i64 ((rd_T43 l0_0 x9_2).f0.f1)))) := ⟨by repeat (first | (with_reducible first | exact HB.out | apply below_alloc | apply pw_below_drewN | apply below_drew1 | refine below_set ?_ GE198.out | refine below_set ?_ GE200.out | refine below_set ?_ GE204.out | refine below_set ?_ GE210.out) | exact HB.out)⟩
     (try clear HO_205000)
     (try clear BK198)
     (try clear BK200)
     (try clear BK204)
     (try clear BK210)
     (try clear HB)
     generalize ((w37.setCell ⟨gb210, 0, none⟩ (.int .i64 ((rd_T43 l0_0 x9_2).f0.f0))).setCell ⟨gb210, 1, none⟩ (.int .i64 ((rd_T43 l0_0 x9_2).f0.f1))) = w42 at n0_ n1_ n2_ n3_ n4_ n5_ ⊢
     have HO_205000 := n0_
     have BK198 := n1_
     have BK200 := n2_
     have BK204 := n3_
     have BK210 := n4_
     have HB := n5_
     clear n0_ n1_ n2_ n3_ n4_ n5_
     replace HO_205000 := Aside0.mk (Kd.R_drew HO_205000.out)
     replace BK198 := Aside0.mk (blk_drew BK198.out)
     replace BK200 := Aside0.mk (blk_drew BK200.out)
     replace BK204 := Aside0.mk (blk_drew BK204.out)
     replace BK210 := Aside0.mk (blk_drew BK210.out)
     replace HB := Aside0.mk (below_drew1 HB.out)
     refine start_ (n := 7) (S := fun w' => w'.cell? ⟨gb210, 0, none⟩ = some (.int .i64 ((rd_T43 l0_0 x9_2).f0.f0)) ∧ w'.cell? ⟨gb210, 1, none⟩ = some (.int .i64 ((rd_T43 l0_0 x9_2).f0.f1))) (ds := []) ba10_9 (by kernel_rfl) rfl rfl ⟨(blk_cell BK210.out 0).trans rfl, (blk_cell BK210.out 1).trans rfl⟩ (fun hHeld => ?_)
     generalize w42.drew = w43 at HO_205000 BK198 BK200 BK204 BK210 HB hHeld ⊢
     refine pure_ (i := 0) (N := some 59) (v := ?_) (a' := ?_) ba10_17 rfl rfl (by kernel_rfl) (fun _ _ _ h => h) (Or.inl ⟨by rfl, ?_⟩) ?_ ?_
     rotate_left; · intro w'; go_simp; with_reducible rfl
     rotate_left; · simp only [Act.put, List.setIfInBounds_toArray, List.set_cons_zero, List.set_cons_succ, i64_w, i32_w]; rfl
     refine pure_ (i := 2) (N := some 61) (v := ?_) (a' := ?_) ba10_18 rfl rfl (by kernel_rfl) (fun _ _ _ h => h) (Or.inl ⟨by rfl, ?_⟩) ?_ ?_
     rotate_left; · intro w'; go_simp; with_reducible rfl
     rotate_left; · simp only [Act.put, List.setIfInBounds_toArray, List.set_cons_zero, List.set_cons_succ, i64_w, i32_w]; rfl
     refine take_ (i := 1) (N := some 60) (v := ?_) (a' := ?_) ba10_19 rfl rfl (by kernel_rfl) (fun _ _ _ h => h) (Or.inl ⟨by rfl, ?_⟩) hHeld ?_ ?_
     rotate_left; · rintro w' ⟨s0, s1⟩; go_simp; with_reducible rfl
     rotate_left; · simp only [Act.put, List.setIfInBounds_toArray, List.set_cons_zero, List.set_cons_succ, i64_w, i32_w]; rfl
     refine take_ (i := 3) (N := some 62) (v := ?_) (a' := ?_) ba10_20 rfl rfl (by kernel_rfl) (fun _ _ _ h => h) (Or.inl ⟨by rfl, ?_⟩) hHeld ?_ ?_
     rotate_left; · rintro w' ⟨s0, s1⟩; go_simp; with_reducible rfl
     rotate_left; · simp only [Act.put, List.setIfInBounds_toArray, List.set_cons_zero, List.set_cons_succ, i64_w, i32_w]; rfl
     refine one_ (i := 4) (N := some 63) ba10_14 rfl rfl (by kernel_rfl) (by decide) (fun K hK => ?_)
     refine gz_ Try.func43 #[.int .i64 ((rd_T43 l0_0 x9_2).f0.f1)] ?_
     with_reducible refine (spec_l01Size2.calls ((rd_T43 l0_0 x9_2).f0.f1) t211 _ A32.out).mono ?_
     rintro e w' ⟨rfl, ⟨nd, rfl⟩⟩
     refine ⟨_, rfl, ?_⟩
     refine hK.out _ _ ⟨(blk_cell BK210.out 0).trans rfl, (blk_cell BK210.out 1).trans rfl⟩ (fun hHeld => ?_)
     clear hK K
     refine nz_ 63 ?_
     refine pure_ (i := 5) (N := some 64) (v := ?_) (a' := ?_) ba10_15 rfl rfl (by kernel_rfl) (fun _ _ _ h => h) (Or.inl ⟨by rfl, ?_⟩) ?_ ?_
     rotate_left; · intro w'; go_simp; with_reducible rfl
     rotate_left; · simp only [Act.put, List.setIfInBounds_toArray, List.set_cons_zero, List.set_cons_succ, i64_w, i32_w]; rfl
     refine pure_ (i := 6) (N := some 11) (v := ?_) (a' := ?_) ba10_16 rfl rfl (by kernel_rfl) (fun _ _ _ h => h) (Or.inl ⟨by rfl, ?_⟩) ?_ ?_
     rotate_left; · intro w'; go_simp; with_reducible rfl
     rotate_left; · simp only [Act.put, List.setIfInBounds_toArray, List.set_cons_zero, List.set_cons_succ, i64_w, i32_w]; rfl
     refine done_ (by kernel_rfl) ?_
     go_upto_region 14 with (fail)
     go_cut [74] (fun v74 wc => ∃ (kq : Nat) (x74_32 : Bool), v74 = .bool x74_32 ∧ Aside0 (spec_l02Idle.j2 kq x7_1 x8_2 x9_2 (wrap64 (((rd_T43 l0_0 x9_2).f0.f0) + t211)) x74_32 l0_0 ((rd_T43 l0_0 a1).f0.f0) ((rd_T43 l0_0 a1).f0.f1) t201 ((rd_T43 l0_0 x9_2).f0.f0) ((rd_T43 l0_0 x9_2).f0.f1) = some r) ∧ Aside0 (kq ≤ k2) ∧ Aside0 (Kd.R k43 43 wc w.heap.size (fun _ => True) (.slice Ao14 t201.length co14) t201) ∧ Aside0 (wc.heap[gb198]? = some (.cells #[(.slice (some ad199) l0_0.length c0_0)] 30 (0, 0))) ∧ Aside0 (wc.heap[gb200]? = some (.cells #[.int .i64 ((rd_T43 l0_0 a1).f0.f0), .int .i64 ((rd_T43 l0_0 a1).f0.f1)] 34 (0, 0))) ∧ Aside0 (wc.heap[gb204]? = some (.cells #[(.slice Ao14 t201.length co14)] 30 (0, 0))) ∧ Aside0 (wc.heap[gb210]? = some (.cells #[.int .i64 ((rd_T43 l0_0 x9_2).f0.f0), .int .i64 ((rd_T43 l0_0 x9_2).f0.f1)] 34 (0, 0))) ∧ Aside0 (Below w.heap.size w wc))
     case first =>
      have H := HC33.out
      clear HC33
      by_cases c44 : ((rd_T43 l0_0 x9_2).f0.f0) > x7_1
      ·rw [if_pos c44] at H
       have c44b0 : decide (x7_1 < ((rd_T43 l0_0 x9_2).f0.f0)) = true := decide_eq_true c44
       clear c44
       (first | rw [c44b0] | (simp only [i64_w, i32_w]; rw [c44b0]) | skip)
       have H' := Aside0.mk H
       clear H
       have hnb45 := NB210_198.out
       have hnc45 := NB198_210.out
       have hnb46 := NB210_200.out
       have hnc46 := NB200_210.out
       have hnb47 := NB210_204.out
       have hnc47 := NB204_210.out
       have hcz48_0 := cz_ BK210 0 (.int .i64 ((rd_T43 l0_0 x9_2).f0.f0))
       have hcz48_1 := cz_ BK210 1 (.int .i64 ((rd_T43 l0_0 x9_2).f0.f1))
       have hfz48_0 := blk_frozen BK210.out 0
       have hfz48_1 := blk_frozen BK210.out 1
       go_wp2
       go_meet
       case rel => exact ⟨_, (decide (((rd_T43 l0_0 x9_2).f0.f0) < x8_2)), (by first | rfl | (simp; done) | (simp [*]; done)), H', ⟨by have := HK1.out; have := HK2.out; first | omega | exact Nat.le_refl _⟩, ⟨by (with_reducible repeat (first | apply Kd.R_alloc | apply Kd.R_drewN | apply Kd.R_drew)); exact HO_205000.out⟩, ⟨by (with_reducible repeat (first | refine blk_drewN ?_ _ | refine blk_drew ?_ | refine blk_alloc ?_ _)); exact BK198.out⟩, ⟨by (with_reducible repeat (first | refine blk_drewN ?_ _ | refine blk_drew ?_ | refine blk_alloc ?_ _)); exact BK200.out⟩, ⟨by (with_reducible repeat (first | refine blk_drewN ?_ _ | refine blk_drew ?_ | refine blk_alloc ?_ _)); exact BK204.out⟩, ⟨by (with_reducible repeat (first | refine blk_drewN ?_ _ | refine blk_drew ?_ | refine blk_alloc ?_ _)); exact BK210.out⟩, ⟨by repeat (first | (with_reducible first | exact HB.out | apply below_alloc | apply pw_below_drewN | apply below_drew1 | refine below_set ?_ GE198.out | refine below_set ?_ GE200.out | refine below_set ?_ GE204.out | refine below_set ?_ GE210.out) | exact HB.out)⟩⟩
      rw [if_neg c44] at H
      have c44b0 : decide (x7_1 < ((rd_T43 l0_0 x9_2).f0.f0)) = false := decide_eq_false c44
      clear c44
      (first | rw [c44b0] | (simp only [i64_w, i32_w]; rw [c44b0]) | skip)
      have H' := Aside0.mk H
      clear H
      have hnb49 := NB210_198.out
      have hnc49 := NB198_210.out
      have hnb50 := NB210_200.out
      have hnc50 := NB200_210.out
      have hnb51 := NB210_204.out
      have hnc51 := NB204_210.out
      have hcz52_0 := cz_ BK210 0 (.int .i64 ((rd_T43 l0_0 x9_2).f0.f0))
      have hcz52_1 := cz_ BK210 1 (.int .i64 ((rd_T43 l0_0 x9_2).f0.f1))
      have hfz52_0 := blk_frozen BK210.out 0
      have hfz52_1 := blk_frozen BK210.out 1
      go_wp2
      go_meet
      case rel => exact ⟨_, (false), (by first | rfl | (simp; done) | (simp [*]; done)), H', ⟨by have := HK1.out; have := HK2.out; first | omega | exact Nat.le_refl _⟩, ⟨by (with_reducible repeat (first | apply Kd.R_alloc | apply Kd.R_drewN | apply Kd.R_drew)); exact HO_205000.out⟩, ⟨by (with_reducible repeat (first | refine blk_drewN ?_ _ | refine blk_drew ?_ | refine blk_alloc ?_ _)); exact BK198.out⟩, ⟨by (with_reducible repeat (first | refine blk_drewN ?_ _ | refine blk_drew ?_ | refine blk_alloc ?_ _)); exact BK200.out⟩, ⟨by (with_reducible repeat (first | refine blk_drewN ?_ _ | refine blk_drew ?_ | refine blk_alloc ?_ _)); exact BK204.out⟩, ⟨by (with_reducible repeat (first | refine blk_drewN ?_ _ | refine blk_drew ?_ | refine blk_alloc ?_ _)); exact BK210.out⟩, ⟨by repeat (first | (with_reducible first | exact HB.out | apply below_alloc | apply pw_below_drewN | apply below_drew1 | refine below_set ?_ GE198.out | refine below_set ?_ GE200.out | refine below_set ?_ GE204.out | refine below_set ?_ GE210.out) | exact HB.out)⟩⟩
     case rest =>
      clear HC33
      try clear c1
      try clear p1
      try clear q1
      try clear hx1
      try clear c2
      try clear p2
      try clear q2
      try clear hx2
      try clear c3
      try clear c3b0
      try clear c4
      try clear c4b0
      try clear c5
      try clear c6
      try clear p6
      try clear c9
      try clear c15
      try clear c16
      try clear p19
      try clear q19
      try clear hx19
      try clear c20
      try clear c20b0
      try clear p20
      try clear q20
      try clear hx20
      try clear c23
      try clear c23b0
      try clear c23b1
      try clear c26
      try clear c30
      try clear c30b0
      try clear c31
      try clear c31b0
      try clear c34
      try clear c35
      try clear c38
      try clear c39
      try clear c40
      try clear c43
      try clear c44
      try clear c44b0
      try clear c45
      try clear c46
      try clear c47
      try clear c49
      try clear c50
      try clear c51
      try clear hcz10_0
      try clear hcz10_1
      try clear hcz11_0
      try clear hcz17_0
      try clear hcz18_0
      try clear hcz18_1
      try clear hcz36_0
      try clear hcz41_0
      try clear hcz41_1
      try clear hcz48_0
      try clear hcz48_1
      try clear hcz52_0
      try clear hcz52_1
      try clear hcz7_0
      try clear hfz10_0
      try clear hfz10_1
      try clear hfz11_0
      try clear hfz17_0
      try clear hfz18_0
      try clear hfz18_1
      try clear hfz36_0
      try clear hfz41_0
      try clear hfz41_1
      try clear hfz48_0
      try clear hfz48_1
      try clear hfz52_0
      try clear hfz52_1
      try clear hfz7_0
      try clear hx199_0
      try clear hx199_1
      try clear hx199_2
      try clear hx209_0
      try clear hx209_1
      try clear hx209_2
      try clear p1
      try clear p19
      try clear p199
      try clear p2
      try clear p209
      try clear p6
      try clear q1
      try clear q19
      try clear q199
      try clear q209
      obtain ⟨kq, x74_32, rfl, HA, HJ32, HO_205000, BK198, BK200, BK204, BK210, HB⟩ := hcut
      cases kq with
      | zero => exact absurd HA.out (by simp [spec_l02Idle.j2])
      | succ kj32 =>
       have H := HA.out
       clear HA
       simp only [spec_l02Idle.j2] at H
       by_cases c53 : x74_32 = true
       rotate_left
       ·replace c53 := Bool.eq_false_iff.mpr c53
        subst c53
        rw [if_neg (show ¬ (false = true) by decide)] at H
        by_cases c68 : (wrap64 (((rd_T43 l0_0 x9_2).f0.f0) + t211)) > x7_1
        rotate_left
        ·rw [if_neg c68] at H
         have c68b0 : decide (x7_1 < (wrap64 (((rd_T43 l0_0 x9_2).f0.f0) + t211))) = false := decide_eq_false c68
         clear c68
         have H' := Aside0.mk H
         clear H
         go_wp2
         go_roundg kj32
         case measure => have := HK1.out; have := HK2.out; have := HJ32.out; omega
         case rel => exact ⟨(x8_2), (wrap64 (x9_2 + 1)), (by first | rfl | (simp; done) | (simp [*]; done)), (by first | rfl | (simp; done) | (simp [*]; done)), H', ⟨by have := HK1.out; have := HK2.out; have := HJ32.out; omega⟩, ⟨by (with_reducible repeat (first | apply Kd.R_alloc | apply Kd.R_drewN | apply Kd.R_drew)); exact HO_205000.out⟩, ⟨by (with_reducible repeat (first | refine blk_drewN ?_ _ | refine blk_drew ?_ | refine blk_alloc ?_ _)); exact BK198.out⟩, ⟨by (with_reducible repeat (first | refine blk_drewN ?_ _ | refine blk_drew ?_ | refine blk_alloc ?_ _)); exact BK200.out⟩, ⟨by (with_reducible repeat (first | refine blk_drewN ?_ _ | refine blk_drew ?_ | refine blk_alloc ?_ _)); exact BK204.out⟩, ⟨by repeat (first | (with_reducible first | exact HB.out | apply below_alloc | apply pw_below_drewN | apply below_drew1 | refine below_set ?_ GE198.out | refine below_set ?_ GE200.out | refine below_set ?_ GE204.out | refine below_set ?_ GE210.out) | exact HB.out)⟩⟩
        rw [if_pos c68] at H
        have c68b0 : decide (x7_1 < (wrap64 (((rd_T43 l0_0 x9_2).f0.f0) + t211))) = true := decide_eq_true c68
        clear c68
        by_cases c69 : (wrap64 (((rd_T43 l0_0 x9_2).f0.f0) + t211)) < x8_2
        ·rw [if_pos c69] at H
         have c69b0 : decide ((wrap64 (((rd_T43 l0_0 x9_2).f0.f0) + t211)) < x8_2) = true := decide_eq_true c69
         clear c69
         have H' := Aside0.mk H
         clear H
         go_wp2
         go_roundg kj32
         case measure => have := HK1.out; have := HK2.out; have := HJ32.out; omega
         case rel => exact ⟨((wrap64 (((rd_T43 l0_0 x9_2).f0.f0) + t211))), (wrap64 (x9_2 + 1)), (by first | rfl | (simp; done) | (simp [*]; done)), (by first | rfl | (simp; done) | (simp [*]; done)), H', ⟨by have := HK1.out; have := HK2.out; have := HJ32.out; omega⟩, ⟨by (with_reducible repeat (first | apply Kd.R_alloc | apply Kd.R_drewN | apply Kd.R_drew)); exact HO_205000.out⟩, ⟨by (with_reducible repeat (first | refine blk_drewN ?_ _ | refine blk_drew ?_ | refine blk_alloc ?_ _)); exact BK198.out⟩, ⟨by (with_reducible repeat (first | refine blk_drewN ?_ _ | refine blk_drew ?_ | refine blk_alloc ?_ _)); exact BK200.out⟩, ⟨by (with_reducible repeat (first | refine blk_drewN ?_ _ | refine blk_drew ?_ | refine blk_alloc ?_ _)); exact BK204.out⟩, ⟨by repeat (first | (with_reducible first | exact HB.out | apply below_alloc | apply pw_below_drewN | apply below_drew1 | refine below_set ?_ GE198.out | refine below_set ?_ GE200.out | refine below_set ?_ GE204.out | refine below_set ?_ GE210.out) | exact HB.out)⟩⟩
        rw [if_neg c69] at H
        have c69b0 : decide ((wrap64 (((rd_T43 l0_0 x9_2).f0.f0) + t211)) < x8_2) = false := decide_eq_false c69
        clear c69
        have H' := Aside0.mk H
        clear H
        go_wp2
        go_roundg kj32
        case measure => have := HK1.out; have := HK2.out; have := HJ32.out; omega
        case rel => exact ⟨(x8_2), (wrap64 (x9_2 + 1)), (by first | rfl | (simp; done) | (simp [*]; done)), (by first | rfl | (simp; done) | (simp [*]; done)), H', ⟨by have := HK1.out; have := HK2.out; have := HJ32.out; omega⟩, ⟨by (with_reducible repeat (first | apply Kd.R_alloc | apply Kd.R_drewN | apply Kd.R_drew)); exact HO_205000.out⟩, ⟨by (with_reducible repeat (first | refine blk_drewN ?_ _ | refine blk_drew ?_ | refine blk_alloc ?_ _)); exact BK198.out⟩, ⟨by (with_reducible repeat (first | refine blk_drewN ?_ _ | refine blk_drew ?_ | refine blk_alloc ?_ _)); exact BK200.out⟩, ⟨by (with_reducible repeat (first | refine blk_drewN ?_ _ | refine blk_drew ?_ | refine blk_alloc ?_ _)); exact BK204.out⟩, ⟨by repeat (first | (with_reducible first | exact HB.out | apply below_alloc | apply pw_below_drewN | apply below_drew1 | refine below_set ?_ GE198.out | refine below_set ?_ GE200.out | refine below_set ?_ GE204.out | refine below_set ?_ GE210.out) | exact HB.out)⟩⟩
       subst c53
       rw [if_pos rfl] at H
       by_cases c54 : (wrap64 (((rd_T43 l0_0 x9_2).f0.f0) + t211)) > x7_1
       rotate_left
       ·rw [if_neg c54] at H
        have c54b0 : decide (x7_1 < (wrap64 (((rd_T43 l0_0 x9_2).f0.f0) + t211))) = false := decide_eq_false c54
        clear c54
        have H' := Aside0.mk H
        clear H
        have hnb64 := NB210_198.out
        have hnc64 := NB198_210.out
        have hnb65 := NB210_200.out
        have hnc65 := NB200_210.out
        have hnb66 := NB210_204.out
        have hnc66 := NB204_210.out
        have hcz67_0 := cz_ BK210 0 (.int .i64 ((rd_T43 l0_0 x9_2).f0.f0))
        have hcz67_1 := cz_ BK210 1 (.int .i64 ((rd_T43 l0_0 x9_2).f0.f1))
        have hfz67_0 := blk_frozen BK210.out 0
        have hfz67_1 := blk_frozen BK210.out 1
        go_wp2
        go_roundg kj32
        case measure => have := HK1.out; have := HK2.out; have := HJ32.out; omega
        case rel => exact ⟨(((rd_T43 l0_0 x9_2).f0.f0)), (wrap64 (x9_2 + 1)), (by first | rfl | (simp; done) | (simp [*]; done)), (by first | rfl | (simp; done) | (simp [*]; done)), H', ⟨by have := HK1.out; have := HK2.out; have := HJ32.out; omega⟩, ⟨by (with_reducible repeat (first | apply Kd.R_alloc | apply Kd.R_drewN | apply Kd.R_drew)); exact HO_205000.out⟩, ⟨by (with_reducible repeat (first | refine blk_drewN ?_ _ | refine blk_drew ?_ | refine blk_alloc ?_ _)); exact BK198.out⟩, ⟨by (with_reducible repeat (first | refine blk_drewN ?_ _ | refine blk_drew ?_ | refine blk_alloc ?_ _)); exact BK200.out⟩, ⟨by (with_reducible repeat (first | refine blk_drewN ?_ _ | refine blk_drew ?_ | refine blk_alloc ?_ _)); exact BK204.out⟩, ⟨by repeat (first | (with_reducible first | exact HB.out | apply below_alloc | apply pw_below_drewN | apply below_drew1 | refine below_set ?_ GE198.out | refine below_set ?_ GE200.out | refine below_set ?_ GE204.out | refine below_set ?_ GE210.out) | exact HB.out)⟩⟩
       rw [if_pos c54] at H
       have c54b0 : decide (x7_1 < (wrap64 (((rd_T43 l0_0 x9_2).f0.f0) + t211))) = true := decide_eq_true c54
       clear c54
       by_cases c55 : (wrap64 (((rd_T43 l0_0 x9_2).f0.f0) + t211)) < ((rd_T43 l0_0 x9_2).f0.f0)
       ·rw [if_pos c55] at H
        have c55b0 : decide ((wrap64 (((rd_T43 l0_0 x9_2).f0.f0) + t211)) < ((rd_T43 l0_0 x9_2).f0.f0)) = true := decide_eq_true c55
        clear c55
        have H' := Aside0.mk H
        clear H
        have hnb56 := NB210_198.out
        have hnc56 := NB198_210.out
        have hnb57 := NB210_200.out
        have hnc57 := NB200_210.out
        have hnb58 := NB210_204.out
        have hnc58 := NB204_210.out
        have hcz59_0 := cz_ BK210 0 (.int .i64 ((rd_T43 l0_0 x9_2).f0.f0))
        have hcz59_1 := cz_ BK210 1 (.int .i64 ((rd_T43 l0_0 x9_2).f0.f1))
        have hfz59_0 := blk_frozen BK210.out 0
        have hfz59_1 := blk_frozen BK210.out 1
        go_wp2
        go_roundg kj32
        case measure => have := HK1.out; have := HK2.out; have := HJ32.out; omega
        case rel => exact ⟨((wrap64 (((rd_T43 l0_0 x9_2).f0.f0) + t211))), (wrap64 (x9_2 + 1)), (by first | rfl | (simp; done) | (simp [*]; done)), (by first | rfl | (simp; done) | (simp [*]; done)), H', ⟨by have := HK1.out; have := HK2.out; have := HJ32.out; omega⟩, ⟨by (with_reducible repeat (first | apply Kd.R_alloc | apply Kd.R_drewN | apply Kd.R_drew)); exact HO_205000.out⟩, ⟨by (with_reducible repeat (first | refine blk_drewN ?_ _ | refine blk_drew ?_ | refine blk_alloc ?_ _)); exact BK198.out⟩, ⟨by (with_reducible repeat (first | refine blk_drewN ?_ _ | refine blk_drew ?_ | refine blk_alloc ?_ _)); exact BK200.out⟩, ⟨by (with_reducible repeat (first | refine blk_drewN ?_ _ | refine blk_drew ?_ | refine blk_alloc ?_ _)); exact BK204.out⟩, ⟨by repeat (first | (with_reducible first | exact HB.out | apply below_alloc | apply pw_below_drewN | apply below_drew1 | refine below_set ?_ GE198.out | refine below_set ?_ GE200.out | refine below_set ?_ GE204.out | refine below_set ?_ GE210.out) | exact HB.out)⟩⟩
       rw [if_neg c55] at H
       have c55b0 : decide ((wrap64 (((rd_T43 l0_0 x9_2).f0.f0) + t211)) < ((rd_T43 l0_0 x9_2).f0.f0)) = false := decide_eq_false c55
       clear c55
       have H' := Aside0.mk H
       clear H
       have hnb60 := NB210_198.out
       have hnc60 := NB198_210.out
       have hnb61 := NB210_200.out
       have hnc61 := NB200_210.out
       have hnb62 := NB210_204.out
       have hnc62 := NB204_210.out
       have hcz63_0 := cz_ BK210 0 (.int .i64 ((rd_T43 l0_0 x9_2).f0.f0))
       have hcz63_1 := cz_ BK210 1 (.int .i64 ((rd_T43 l0_0 x9_2).f0.f1))
       have hfz63_0 := blk_frozen BK210.out 0
       have hfz63_1 := blk_frozen BK210.out 1
       go_wp2
       go_roundg kj32
       case measure => have := HK1.out; have := HK2.out; have := HJ32.out; omega
       case rel => exact ⟨(((rd_T43 l0_0 x9_2).f0.f0)), (wrap64 (x9_2 + 1)), (by first | rfl | (simp; done) | (simp [*]; done)), (by first | rfl | (simp; done) | (simp [*]; done)), H', ⟨by have := HK1.out; have := HK2.out; have := HJ32.out; omega⟩, ⟨by (with_reducible repeat (first | apply Kd.R_alloc | apply Kd.R_drewN | apply Kd.R_drew)); exact HO_205000.out⟩, ⟨by (with_reducible repeat (first | refine blk_drewN ?_ _ | refine blk_drew ?_ | refine blk_alloc ?_ _)); exact BK198.out⟩, ⟨by (with_reducible repeat (first | refine blk_drewN ?_ _ | refine blk_drew ?_ | refine blk_alloc ?_ _)); exact BK200.out⟩, ⟨by (with_reducible repeat (first | refine blk_drewN ?_ _ | refine blk_drew ?_ | refine blk_alloc ?_ _)); exact BK204.out⟩, ⟨by repeat (first | (with_reducible first | exact HB.out | apply below_alloc | apply pw_below_drewN | apply below_drew1 | refine below_set ?_ GE198.out | refine below_set ?_ GE200.out | refine below_set ?_ GE204.out | refine below_set ?_ GE210.out) | exact HB.out)⟩⟩

end Go.Proofs.Ytflfbaofgfandaa.QFnExactSqueeze
