/- Contracts of functions that the law reaches: what each call returns and what it leaves in memory. Made by this session over the print of the kit. -/
import Derived.Test.YtflfbaofgfandaaQFnExactSqueezex0
import Derived.Test.YtflfbaofgfandaaQFnExactSqueezex8
namespace Go.Proofs.Ytflfbaofgfandaa.QFnExactSqueeze
open Go.RowKit Go.Proofs.YtflfbaofgfandaaQ.PrintWords Go.Proofs.YtflfbaofgfandaaQ.PrintLast Go.Proofs.YtflfbaofgfandaaQ.PrintMore
attribute [local go_sem] max2_int min2_int max_two min_two max_three min_three max_four min_four   -- for this text's walks alone
set_option linter.unusedVariables false
set_option linter.unusedSimpArgs false

/-! ### spec_FindHop: function 60 -/
def spec_FindHop.f (k : Nat) (l0_0 : List (S43)) (a1 : Int) : Option (Int) := (spec_BestRoute.f k l0_0 a1).bind fun bt193 => (if bt193.2.2.2 = true then (some bt193.2.2.1) else (some (-1)))
theorem spec_FindHop.mono : ∀ a0 a1 k, LeO (spec_FindHop.f k a0 a1) (spec_FindHop.f (k + 1) a0 a1) := by
 intro a0 a1 k
 unfold spec_FindHop.f
 repeat' first
   | (with_reducible exact spec_BestRoute.mono _ _ _)
   | (with_reducible exact LeO.refl _)
   | (with_reducible exact LeO.none _)
   | (with_reducible refine LeO.ite ?_ ?_)
   | (with_reducible refine LeO.bind ?_ (fun _ => ?_))
   | exact spec_BestRoute.mono _ _ _
   | exact LeO.none _
   | refine LeO.ite ?_ ?_
   | refine LeO.bind ?_ (fun _ => ?_)
set_option maxHeartbeats 8000000 in
set_option maxRecDepth 100000 in
theorem spec_FindHop.calls (k : Nat) (A0_0 : Option Addr) (c0_0 : Nat) (l0_0 : List (S43)) (a1 : Int) (r : Int) (w : World) (hr0_0 : Kd.C k43 w A0_0 l0_0.length l0_0) (hc0_0 : l0_0.length ≤ c0_0) (h : spec_FindHop.f k l0_0 a1 = some r) :
  Calls Try.prog 60 #[.agg #[.slice A0_0 l0_0.length c0_0], .int .i64 a1] w fun e w' => e = .returned (.int .i64 r) ∧ Below w.heap.size w w' := by
 have hu30 := Try.underlying30
 have hu43 := Try.underlying43
 have HR0_0 := Aside0.mk hr0_0
 have HC0_0 := Aside0.mk hc0_0
 clear hr0_0 hc0_0
 have HB := Aside0.mk (Below.refl w.heap.size w)
 have H : ((spec_BestRoute.f k l0_0 a1).bind fun bt193 => (if bt193.2.2.2 = true then (some bt193.2.2.1) else (some (-1)))) = some r := h
 clear h
 replace H := Option.bind_eq_some_iff.mp H
 obtain ⟨⟨t193, t194, t195, t196⟩, A30, H⟩ := H
 have A3 := Aside0.mk A30
 clear A30
 by_cases c4 : t196 = true
 ·subst c4
  rw [if_pos rfl] at H
  obtain rfl := Option.some.inj H
  go_enter Try.func60, Try.ntmps60
  go_wp2_with (first | ((with_reducible refine gate_dst (N := 2) rfl ?_); refine box_event ?hg (N := 2) ?hd (cs := #[.slice A0_0 l0_0.length c0_0]) (t := 30) ?hr ?_; (case hd => rfl); (case hg => rfl); (case hr => first | (go_simp; done) | (go_simp; rfl)); intro gb192 hg w5 hbox hb; have BK192 := Aside0.mk hbox; have GW192 := ge_ HB hg; have GE192 := ge_ HB hg; replace HB := Aside0.mk (bt_ HB hb); clear hb hbox hg; have hcz6_0 := cz_ BK192 0 (.slice A0_0 l0_0.length c0_0); have hfz6_0 := blk_frozen BK192.out 0) | ((with_reducible refine gate_callee (f := 68) rfl ?_); refine gl_ (some 10) Try.func68 #[.agg #[.slice A0_0 l0_0.length c0_0], .int .i64 a1] ?_; (with_reducible refine (spec_BestRoute.calls k _ _ l0_0 a1 t193 t194 t195 true _ ?side1 ?side2 A3.out).mono ?_); (case side1 => exact cb_ HR0_0 HB); (case side2 => exact HC0_0.out); rintro e w7 ⟨rfl, hb⟩; refine ⟨_, rfl, ?_⟩; replace BK192 := Aside0.mk (bb_ BK192 hb); replace HB := Aside0.mk (bt_ HB hb); (try clear hb); (try clear hb2); (try clear hk); (try clear hi)) | ((with_reducible refine gate_dst (N := 5) rfl ?_); refine box_event ?hg (N := 5) ?hd (cs := #[.int .i64 0, .int .i64 0, .int .i64 0]) (t := 43) ?hr ?_; (case hd => rfl); (case hg => rfl); (case hr => first | (go_simp; done) | (go_simp; rfl)); intro gb197 hg w8 hbox hb; have BK197 := Aside0.mk hbox; have GW197 := ge_ HB hg; have GE197 := ge_ HB hg; have NB192_197 := nl_ BK192 hg; have NB197_192 := ng_ BK192 hg; replace HB := Aside0.mk (bt_ HB hb); replace BK192 := Aside0.mk (bb_ BK192 hb); clear hb hbox hg; have hnb9 := NB197_192.out; have hnc9 := NB192_197.out; have hcz10_0 := cz_ BK197 0 (.int .i64 0); have hcz10_1 := cz_ BK197 1 (.int .i64 0); have hcz10_2 := cz_ BK197 2 (.int .i64 0); have hfz10_0 := blk_frozen BK197.out 0; have hfz10_1 := blk_frozen BK197.out 1; have hfz10_2 := blk_frozen BK197.out 2))
  go_ret
  exact ⟨by first | rfl | (simp [errW_none, errW_some] <;> rfl) | (simp [*, errW_none, errW_some] <;> rfl), by repeat (first | (with_reducible first | exact HB.out | apply below_alloc | apply pw_below_drewN | apply below_drew1 | refine below_set ?_ GE192.out | refine below_set ?_ GE197.out) | exact HB.out)⟩
 replace c4 := Bool.eq_false_iff.mpr c4
 subst c4
 rw [if_neg (show ¬ (false = true) by decide)] at H
 obtain rfl := Option.some.inj H
 go_enter Try.func60, Try.ntmps60
 go_wp2_with (first | ((with_reducible refine gate_dst (N := 2) rfl ?_); refine box_event ?hg (N := 2) ?hd (cs := #[.slice A0_0 l0_0.length c0_0]) (t := 30) ?hr ?_; (case hd => rfl); (case hg => rfl); (case hr => first | (go_simp; done) | (go_simp; rfl)); intro gb192 hg w11 hbox hb; have BK192 := Aside0.mk hbox; have GW192 := ge_ HB hg; have GE192 := ge_ HB hg; replace HB := Aside0.mk (bt_ HB hb); clear hb hbox hg; have hcz12_0 := cz_ BK192 0 (.slice A0_0 l0_0.length c0_0); have hfz12_0 := blk_frozen BK192.out 0) | ((with_reducible refine gate_callee (f := 68) rfl ?_); refine gl_ (some 10) Try.func68 #[.agg #[.slice A0_0 l0_0.length c0_0], .int .i64 a1] ?_; (with_reducible refine (spec_BestRoute.calls k _ _ l0_0 a1 t193 t194 t195 false _ ?side1 ?side2 A3.out).mono ?_); (case side1 => exact cb_ HR0_0 HB); (case side2 => exact HC0_0.out); rintro e w13 ⟨rfl, hb⟩; refine ⟨_, rfl, ?_⟩; replace BK192 := Aside0.mk (bb_ BK192 hb); replace HB := Aside0.mk (bt_ HB hb); (try clear hb); (try clear hb2); (try clear hk); (try clear hi)) | ((with_reducible refine gate_dst (N := 5) rfl ?_); refine box_event ?hg (N := 5) ?hd (cs := #[.int .i64 0, .int .i64 0, .int .i64 0]) (t := 43) ?hr ?_; (case hd => rfl); (case hg => rfl); (case hr => first | (go_simp; done) | (go_simp; rfl)); intro gb197 hg w14 hbox hb; have BK197 := Aside0.mk hbox; have GW197 := ge_ HB hg; have GE197 := ge_ HB hg; have NB192_197 := nl_ BK192 hg; have NB197_192 := ng_ BK192 hg; replace HB := Aside0.mk (bt_ HB hb); replace BK192 := Aside0.mk (bb_ BK192 hb); clear hb hbox hg; have hnb15 := NB197_192.out; have hnc15 := NB192_197.out; have hcz16_0 := cz_ BK197 0 (.int .i64 0); have hcz16_1 := cz_ BK197 1 (.int .i64 0); have hcz16_2 := cz_ BK197 2 (.int .i64 0); have hfz16_0 := blk_frozen BK197.out 0; have hfz16_1 := blk_frozen BK197.out 1; have hfz16_2 := blk_frozen BK197.out 2))
 go_ret
 exact ⟨by first | rfl | (simp [errW_none, errW_some] <;> rfl) | (simp [*, errW_none, errW_some] <;> rfl), by repeat (first | (with_reducible first | exact HB.out | apply below_alloc | apply pw_below_drewN | apply below_drew1 | refine below_set ?_ GE192.out | refine below_set ?_ GE197.out) | exact HB.out)⟩

end Go.Proofs.Ytflfbaofgfandaa.QFnExactSqueeze
