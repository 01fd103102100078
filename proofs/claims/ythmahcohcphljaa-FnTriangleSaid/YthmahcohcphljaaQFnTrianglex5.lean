/- Contracts of functions that the law reaches: what each call returns and what it leaves in memory. Made by this session over the print of the kit. -/
import Derived.Test.YthmahcohcphljaaQFnTrianglex0
import Derived.Test.YthmahcohcphljaaQFnTrianglex1
import Derived.Test.YthmahcohcphljaaQFnTrianglex3
import Derived.Test.YthmahcohcphljaaQFnTrianglex4
namespace Go.Proofs.Ythmahcohcphljaa.QFnTriangle
open Go.RowKit Go.Proofs.YthmahcohcphljaaT.PrintWords Go.Proofs.YthmahcohcphljaaT.PrintLast Go.Proofs.YthmahcohcphljaaT.PrintMore
attribute [local go_sem] max2_int min2_int max_two min_two max_three min_three max_four min_four   -- for this text's walks alone
set_option linter.unusedVariables false
set_option linter.unusedSimpArgs false
def ba5_0 : Array Bool := #[false, false, false, false]
def ba5_1 : Array Bool := #[true, false, false, false]
def ba5_2 : Array Bool := #[true, false, true, false]
def ba5_3 : Array Bool := #[true, true, true, false]
def ba5_4 : Array Bool := #[true, true, true, true]

/-! ### spec_l03Draw: function 65 -/
def spec_l03Draw.j0 : Nat → List Int → Int → Int → Int → List (S76) → Option (Int × (List (S76)) × List Int × Int × Int)
 | 0, _, _, _, _, _ => none
 | k + 1, x223000, x223001, x223002, x237000, x237001 => (spec_l01Once.f x223000 x223001 x223002 20).bind fun bt246 => (if bt246.1 = true then ((spec_l03Bend.f x223000 bt246.2.1 bt246.2.2 x237000 x237001).bind fun bt249 => (some (bt249.1, bt249.2.1, x223000, bt249.2.2.1, bt249.2.2.2))) else (some (x237000, x237001, x223000, bt246.2.1, bt246.2.2)))
def spec_l03Draw.f (k : Nat) (l0 : List Int) : Option (Int × (List (S76)) × List Int × Int × Int) := (spec_l01New.f k l0).bind fun bt219 => ((spec_l01Size.f l0 9).bind fun t223 => ((spec_l01Below.f bt219.1 bt219.2.1 bt219.2.2 t223).bind fun bt224 => ((spec_l01Below.f bt219.1 bt224.2.1 bt224.2.2 (wrap64 ((wrap64 (3 * (wrap64 (1 + bt224.1)))) + 1))).bind fun bt227 => ((spec_l03DrawGraph.f k bt219.1 bt227.2.1 bt227.2.2 (wrap64 (1 + bt224.1)) bt227.1).bind fun bt230 => ((spec_l01Once.f bt219.1 bt230.2.2.1 bt230.2.2.2 25).bind fun bt237 => (if bt237.1 = true then ((spec_l03DrawGraph.f k bt219.1 bt237.2.1 bt237.2.2 10 50).bind fun bt240 => (spec_l03Draw.j0 k bt219.1 bt240.2.2.1 bt240.2.2.2 bt240.1 bt240.2.1)) else (spec_l03Draw.j0 k bt219.1 bt237.2.1 bt237.2.2 bt230.1 bt230.2.1)))))))
theorem spec_l03Draw.mono_l : ∀ k, (∀ y0 y1 y2 y3 y4, LeO (spec_l03Draw.j0 k y0 y1 y2 y3 y4) (spec_l03Draw.j0 (k + 1) y0 y1 y2 y3 y4))
 | 0 => fun _ _ _ _ _ r h => by simp [spec_l03Draw.j0] at h
 | k + 1 => by
  have ih0 := spec_l03Draw.mono_l k
  ·intro y0 y1 y2 y3 y4
   unfold spec_l03Draw.j0
   repeat' first
   | (with_reducible exact ih0 _ _ _ _ _)
   | (with_reducible exact spec_l01New.mono _ _)
   | (with_reducible exact spec_l03DrawGraph.mono _ _ _ _ _ _)
   | (with_reducible exact LeO.refl _)
   | (with_reducible exact LeO.none _)
   | (with_reducible refine LeO.ite ?_ ?_)
   | (with_reducible refine LeO.bind ?_ (fun _ => ?_))
   | exact ih0 _ _ _ _ _
   | exact spec_l01New.mono _ _
   | exact spec_l03DrawGraph.mono _ _ _ _ _ _
   | exact LeO.none _
   | refine LeO.ite ?_ ?_
   | refine LeO.bind ?_ (fun _ => ?_)
theorem spec_l03Draw.mono : ∀ a0 k, LeO (spec_l03Draw.f k a0) (spec_l03Draw.f (k + 1) a0) := by
 intro a0 k
 have ih0 := spec_l03Draw.mono_l k
 unfold spec_l03Draw.f
 repeat' first
   | (with_reducible exact ih0 _ _ _ _ _)
   | (with_reducible exact spec_l01New.mono _ _)
   | (with_reducible exact spec_l03DrawGraph.mono _ _ _ _ _ _)
   | (with_reducible exact LeO.refl _)
   | (with_reducible exact LeO.none _)
   | (with_reducible refine LeO.ite ?_ ?_)
   | (with_reducible refine LeO.bind ?_ (fun _ => ?_))
   | exact ih0 _ _ _ _ _
   | exact spec_l01New.mono _ _
   | exact spec_l03DrawGraph.mono _ _ _ _ _ _
   | exact LeO.none _
   | refine LeO.ite ?_ ?_
   | refine LeO.bind ?_ (fun _ => ?_)
set_option maxHeartbeats 8000000 in
set_option maxRecDepth 100000 in
theorem spec_l03Draw.calls (k : Nat) (A0 : Option Addr) (c0 : Nat) (l0 : List Int) (r1 : Int) (r2 : List (S76)) (r3 : List Int) (r4 : Int) (r5 : Int) (w : World) (hr0 : Kd.C (Kd.int .u8) w A0 l0.length l0) (hc0 : l0.length ≤ c0) (h : spec_l03Draw.f k l0 = some (r1, r2, r3, r4, r5)) :
  Calls Try.prog 65 #[.slice A0 l0.length c0] w fun e w' => ∃ v1_ : Value, ∃ g_ : Nat, e = .returned (.tuple #[.pointer (some ⟨g_, 0, none⟩), .agg #[.int .i64 r1, v1_]]) ∧ Kd.R k76 76 w' w.heap.size (fun _ => True) v1_ r2 ∧ IsS115 w w' g_ r3 r4 r5 ∧ Below w.heap.size w w' := by
 have hu30 := Try.underlying30
 have HR0 := Aside0.mk hr0
 have HC0 := Aside0.mk hc0
 clear hr0 hc0
 have HB := Aside0.mk (Below.refl w.heap.size w)
 have H : ((spec_l01New.f k l0).bind fun bt219 => ((spec_l01Size.f l0 9).bind fun t223 => ((spec_l01Below.f bt219.1 bt219.2.1 bt219.2.2 t223).bind fun bt224 => ((spec_l01Below.f bt219.1 bt224.2.1 bt224.2.2 (wrap64 ((wrap64 (3 * (wrap64 (1 + bt224.1)))) + 1))).bind fun bt227 => ((spec_l03DrawGraph.f k bt219.1 bt227.2.1 bt227.2.2 (wrap64 (1 + bt224.1)) bt227.1).bind fun bt230 => ((spec_l01Once.f bt219.1 bt230.2.2.1 bt230.2.2.2 25).bind fun bt237 => (if bt237.1 = true then ((spec_l03DrawGraph.f k bt219.1 bt237.2.1 bt237.2.2 10 50).bind fun bt240 => (spec_l03Draw.j0 k bt219.1 bt240.2.2.1 bt240.2.2.2 bt240.1 bt240.2.1)) else (spec_l03Draw.j0 k bt219.1 bt237.2.1 bt237.2.2 bt230.1 bt230.2.1)))))))) = some (r1, r2, r3, r4, r5) := h
 clear h
 replace H := Option.bind_eq_some_iff.mp H
 obtain ⟨⟨t219, t220, t221⟩, A20, H⟩ := H
 have A2 := Aside0.mk A20
 clear A20
 replace H := Option.bind_eq_some_iff.mp H
 obtain ⟨t223, A30, H⟩ := H
 have A3 := Aside0.mk A30
 clear A30
 replace H := Option.bind_eq_some_iff.mp H
 obtain ⟨⟨t224, t225, t226⟩, A40, H⟩ := H
 have A4 := Aside0.mk A40
 clear A40
 replace H := Option.bind_eq_some_iff.mp H
 obtain ⟨⟨t227, t228, t229⟩, A50, H⟩ := H
 have A5 := Aside0.mk A50
 clear A50
 replace H := Option.bind_eq_some_iff.mp H
 obtain ⟨⟨t230, t231, t234, t235⟩, A60, H⟩ := H
 have A6 := Aside0.mk A60
 clear A60
 replace H := Option.bind_eq_some_iff.mp H
 obtain ⟨⟨t237, t238, t239⟩, A70, H⟩ := H
 have A7 := Aside0.mk A70
 clear A70
 have HC8 := Aside0.mk H
 clear H
 go_enter Try.func65, Try.ntmps65
 go_upto_if 23 with (first | ((with_reducible refine gate_dst (N := 3) rfl ?_); refine box_event ?hg (N := 3) ?hd (cs := #[.int .i64 0, .slice none 0 0]) (t := 30) ?hr ?_; (case hd => rfl); (case hg => rfl); (case hr => first | (go_simp; done) | (go_simp; rfl)); intro gb218 hg w9 hbox hb; have BK218 := Aside0.mk hbox; have GW218 := ge_ HB hg; have GE218 := ge_ HB hg; replace HB := Aside0.mk (bt_ HB hb); clear hb hbox hg) | ((with_reducible refine gate_callee (f := 81) rfl ?_); refine gl_ (some 8) Try.func81 #[.slice A0 l0.length c0] ?_; (with_reducible refine (spec_l01New.calls k _ _ l0 t219 t220 t221 w _ ?side1 ?side2 ?side3 A2.out).mono ?_); (case side1 => exact by_ HB); (case side2 => exact HR0.out); (case side3 => exact HC0.out); rintro e w10 ⟨g222, rfl, hi, hb, hb2⟩; refine ⟨_, rfl, ?_⟩; have HI222 := Aside0.mk hi; have NB222_218 := Aside0.mk (IsS115.ne_blk hi (blk_below (g := gb218) (o := .cells #[.int .i64 0, .slice none 0 0] 30 (0, 0)) (by (with_reducible repeat (first | refine blk_drewN ?_ _ | refine blk_drew ?_ | refine blk_alloc ?_ _)); exact BK218.out) hb2) (by decide)); have NB218_222 := Aside0.mk (Ne.symm (IsS115.ne_blk hi (blk_below (g := gb218) (o := .cells #[.int .i64 0, .slice none 0 0] 30 (0, 0)) (by (with_reducible repeat (first | refine blk_drewN ?_ _ | refine blk_drew ?_ | refine blk_alloc ?_ _)); exact BK218.out) hb2) (by decide))); replace HB := Aside0.mk (hb); replace BK218 := Aside0.mk (blk_below (g := gb218) (o := .cells #[.int .i64 0, .slice none 0 0] 30 (0, 0)) (by (with_reducible repeat (first | refine blk_drewN ?_ _ | refine blk_drew ?_ | refine blk_alloc ?_ _)); exact BK218.out) hb2); (try clear hb); (try clear hb2); (try clear hk); (try clear hi)) | ((with_reducible refine gate_callee (f := 82) rfl ?_); refine gl_ (some 11) Try.func82 #[.slice A0 l0.length c0, .int .i64 9] ?_; (with_reducible refine (spec_l01Size.calls _ _ l0 9 t223 _ ?side1 ?side2 A3.out).mono ?_); (case side1 => exact cb_ HR0 HB); (case side2 => exact HC0.out); rintro e w' ⟨rfl, ⟨nd, rfl⟩⟩; refine ⟨_, rfl, ?_⟩; (try (rw [drewN_self w10]; generalize hq_ : World.drewN w10 _ = w10; replace BK218 : Aside0 (w10.heap[gb218]? = some (.cells #[.int .i64 0, .slice none 0 0] 30 (0, 0))) := ⟨by rw [← hq_]; exact (by (with_reducible repeat (first | refine blk_drewN ?_ _ | refine blk_drew ?_ | refine blk_alloc ?_ _)); exact BK218.out)⟩; replace HB : Aside0 (Below w.heap.size w w10) := ⟨by rw [← hq_]; exact (by repeat (first | (with_reducible first | exact HB.out | apply below_alloc | apply pw_below_drewN | apply below_drew1 | refine below_set ?_ (IsS115.ge HI222.out) | refine below_set ?_ GE218.out) | exact HB.out))⟩; replace HI222 : Aside0 (IsS115 w w10 g222 t219 t220 t221) := ⟨by rw [← hq_]; exact (by repeat (first | (with_reducible first | exact HI222.out | apply IsS115.alloc | apply IsS115.drewN | apply IsS115.drew | apply IsS115.set_1 | apply IsS115.set_2 | refine IsS115.far ?_ NB222_218.out _) | exact HI222.out))⟩; clear hq_))) | ((with_reducible refine gate_callee (f := 68) rfl ?_); refine gl_ (some 12) Try.func68 #[.pointer (some ⟨g222, 0, none⟩), .int .i64 t223] ?_; (with_reducible refine (spec_l01Below.calls g222 t219 t220 t221 t223 t224 t225 t226 w _ ?side1 ?side2 A4.out).mono ?_); (case side1 => repeat (first | (with_reducible first | exact HI222.out | apply IsS115.alloc | apply IsS115.drewN | apply IsS115.drew | apply IsS115.set_1 | apply IsS115.set_2 | refine IsS115.far ?_ NB222_218.out _) | exact HI222.out)); (case side2 => repeat (first | (with_reducible first | exact HB.out | apply below_alloc | apply pw_below_drewN | apply below_drew1 | refine below_set ?_ (IsS115.ge HI222.out) | refine below_set ?_ GE218.out) | exact HB.out)); rintro e w11 ⟨rfl, hi, hb, hk⟩; refine ⟨_, rfl, ?_⟩; replace BK218 := Aside0.mk (KeepBut.blk hk (g' := gb218) (o := .cells #[.int .i64 0, .slice none 0 0] 30 (0, 0)) (by (with_reducible repeat (first | refine blk_drewN ?_ _ | refine blk_drew ?_ | refine blk_alloc ?_ _)); exact BK218.out) NB218_222.out (by simp)); replace HB := Aside0.mk (hb); replace HI222 := Aside0.mk (hi); (try clear hb); (try clear hb2); (try clear hk); (try clear hi)) | ((with_reducible refine gate_callee (f := 68) rfl ?_); refine gl_ (some 20) Try.func68 #[.pointer (some ⟨g222, 0, none⟩), .int .i64 (wrap64 ((wrap64 (3 * (wrap64 (1 + t224)))) + 1))] ?_; (with_reducible refine (spec_l01Below.calls g222 t219 t225 t226 (wrap64 ((wrap64 (3 * (wrap64 (1 + t224)))) + 1)) t227 t228 t229 w _ ?side1 ?side2 A5.out).mono ?_); (case side1 => repeat (first | (with_reducible first | exact HI222.out | apply IsS115.alloc | apply IsS115.drewN | apply IsS115.drew | apply IsS115.set_1 | apply IsS115.set_2 | refine IsS115.far ?_ NB222_218.out _) | exact HI222.out)); (case side2 => repeat (first | (with_reducible first | exact HB.out | apply below_alloc | apply pw_below_drewN | apply below_drew1 | refine below_set ?_ (IsS115.ge HI222.out) | refine below_set ?_ GE218.out) | exact HB.out)); rintro e w12 ⟨rfl, hi, hb, hk⟩; refine ⟨_, rfl, ?_⟩; replace BK218 := Aside0.mk (KeepBut.blk hk (g' := gb218) (o := .cells #[.int .i64 0, .slice none 0 0] 30 (0, 0)) (by (with_reducible repeat (first | refine blk_drewN ?_ _ | refine blk_drew ?_ | refine blk_alloc ?_ _)); exact BK218.out) NB218_222.out (by simp)); replace HB := Aside0.mk (hb); replace HI222 := Aside0.mk (hi); (try clear hb); (try clear hb2); (try clear hk); (try clear hi)) | ((with_reducible refine gate_callee (f := 83) rfl ?_); refine gl_ (some 21) Try.func83 #[.pointer (some ⟨g222, 0, none⟩), .int .i64 (wrap64 (1 + t224)), .int .i64 t227] ?_; (with_reducible refine (spec_l03DrawGraph.calls k g222 t219 t228 t229 (wrap64 (1 + t224)) t227 t230 t231 t234 t235 w _ ?side1 ?side2 A6.out).mono ?_); (case side1 => repeat (first | (with_reducible first | exact HI222.out | apply IsS115.alloc | apply IsS115.drewN | apply IsS115.drew | apply IsS115.set_1 | apply IsS115.set_2 | refine IsS115.far ?_ NB222_218.out _) | exact HI222.out)); (case side2 => repeat (first | (with_reducible first | exact HB.out | apply below_alloc | apply pw_below_drewN | apply below_drew1 | refine below_set ?_ (IsS115.ge HI222.out) | refine below_set ?_ GE218.out) | exact HB.out)); rintro e w13 ⟨v232, rfl, ho0, hi, hb, hk⟩; refine ⟨_, rfl, ?_⟩; have HO233 := Aside0.mk (Kd.R_lower ho0 (below_size (by repeat (first | (with_reducible first | exact HB.out | apply below_alloc | apply pw_below_drewN | apply below_drew1 | refine below_set ?_ (IsS115.ge HI222.out) | refine below_set ?_ GE218.out) | exact HB.out)))); replace BK218 := Aside0.mk (KeepBut.blk hk (g' := gb218) (o := .cells #[.int .i64 0, .slice none 0 0] 30 (0, 0)) (by (with_reducible repeat (first | refine blk_drewN ?_ _ | refine blk_drew ?_ | refine blk_alloc ?_ _)); exact BK218.out) NB218_222.out (by simp)); replace HB := Aside0.mk (hb); replace HI222 := Aside0.mk (hi); (try clear hb); (try clear hb2); (try clear hk); (try clear hi); (try clear ho0)) | ((with_reducible refine gate_dst (N := 6) rfl ?_); refine box_event ?hg (N := 6) ?hd (cs := #[.int .i64 0, .slice none 0 0]) (t := 30) ?hr ?_; (case hd => rfl); (case hg => rfl); (case hr => first | (go_simp; done) | (go_simp; rfl)); intro gb236 hg w14 hbox hb; have BK236 := Aside0.mk hbox; have GW236 := Aside0.mk ((by rw [hg]; exact (below_size (by repeat (first | (with_reducible first | exact HB.out | apply below_alloc | apply pw_below_drewN | apply below_drew1 | refine below_set ?_ (IsS115.ge HI222.out) | refine below_set ?_ GE218.out) | exact HB.out))) : w.heap.size ≤ gb236)); have GE236 := Aside0.mk ((by rw [hg]; exact (below_size (by repeat (first | (with_reducible first | exact HB.out | apply below_alloc | apply pw_below_drewN | apply below_drew1 | refine below_set ?_ (IsS115.ge HI222.out) | refine below_set ?_ GE218.out) | exact HB.out))) : w.heap.size ≤ gb236)); have NB218_236 := nl_ BK218 hg; have NB236_218 := ng_ BK218 hg; have NB222_236 := Aside0.mk ((by rw [hg]; exact Nat.ne_of_lt (IsS115.lt (show IsS115 w _ g222 t219 t234 t235 from by repeat (first | (with_reducible first | exact HI222.out | apply IsS115.alloc | apply IsS115.drewN | apply IsS115.drew | apply IsS115.set_1 | apply IsS115.set_2 | refine IsS115.far ?_ NB222_218.out _) | exact HI222.out))) : g222 ≠ gb236)); have NB236_222 := Aside0.mk ((by rw [hg]; exact Nat.ne_of_gt (IsS115.lt (show IsS115 w _ g222 t219 t234 t235 from by repeat (first | (with_reducible first | exact HI222.out | apply IsS115.alloc | apply IsS115.drewN | apply IsS115.drew | apply IsS115.set_1 | apply IsS115.set_2 | refine IsS115.far ?_ NB222_218.out _) | exact HI222.out))) : gb236 ≠ g222)); replace HO233 := rb_ HO233 hb; replace HB := Aside0.mk (below_step (by repeat (first | (with_reducible first | exact HB.out | apply below_alloc | apply pw_below_drewN | apply below_drew1 | refine below_set ?_ (IsS115.ge HI222.out) | refine below_set ?_ GE218.out) | exact HB.out)) hb); replace BK218 := Aside0.mk (bb_ BK218 hb); replace HI222 := Aside0.mk (IsS115.below (by repeat (first | (with_reducible first | exact HI222.out | apply IsS115.alloc | apply IsS115.drewN | apply IsS115.drew | apply IsS115.set_1 | apply IsS115.set_2 | refine IsS115.far ?_ NB222_218.out _) | exact HI222.out)) hb); clear hb hbox hg; have hnb15 := NB236_218.out; have hnc15 := NB218_236.out; have hnb16 := NB236_222.out; have hnc16 := NB222_236.out; have hcz17_0 := cz_ BK236 0 (.int .i64 0); have hcz17_1 := cz_ BK236 1 (.slice none 0 0); have hfz17_0 := blk_frozen BK236.out 0; have hfz17_1 := blk_frozen BK236.out 1; obtain ⟨Ao18, co18, eo18⟩ := Kd.R_slice HO233.out; subst eo18) | ((with_reducible refine gate_callee (f := 84) rfl ?_); refine gl_ (some 23) Try.func84 #[.pointer (some ⟨g222, 0, none⟩), .int .i64 25] ?_; (with_reducible refine (spec_l01Once.calls g222 t219 t234 t235 25 t237 t238 t239 w _ ?side1 ?side2 A7.out).mono ?_); (case side1 => repeat (first | (with_reducible first | exact HI222.out | apply IsS115.alloc | apply IsS115.drewN | apply IsS115.drew | apply IsS115.set_1 | apply IsS115.set_2 | refine IsS115.far ?_ NB222_218.out _ | refine IsS115.far ?_ NB222_236.out _) | exact HI222.out)); (case side2 => repeat (first | (with_reducible first | exact HB.out | apply below_alloc | apply pw_below_drewN | apply below_drew1 | refine below_set ?_ (IsS115.ge HI222.out) | refine below_set ?_ GE218.out | refine below_set ?_ GE236.out) | exact HB.out)); rintro e w19 ⟨rfl, hi, hb, hk⟩; refine ⟨_, rfl, ?_⟩; replace BK218 := Aside0.mk (KeepBut.blk hk (g' := gb218) (o := .cells #[.int .i64 0, .slice none 0 0] 30 (0, 0)) (by (with_reducible repeat (first | refine blk_drewN ?_ _ | refine blk_drew ?_ | refine blk_alloc ?_ _)); refine blk_far ?_ NB218_236.out _; (with_reducible repeat (first | refine blk_drewN ?_ _ | refine blk_drew ?_ | refine blk_alloc ?_ _)); refine blk_far ?_ NB218_236.out _; (with_reducible repeat (first | refine blk_drewN ?_ _ | refine blk_drew ?_ | refine blk_alloc ?_ _)); exact BK218.out) NB218_222.out (by simp)); replace HO233 := Aside0.mk (Kd.R_mono (Kd.R_keep (IsS115.apart (show IsS115 w _ g222 t219 t234 t235 from by repeat (first | (with_reducible first | exact HI222.out | apply IsS115.alloc | apply IsS115.drewN | apply IsS115.drew | apply IsS115.set_1 | apply IsS115.set_2 | refine IsS115.far ?_ NB222_218.out _ | refine IsS115.far ?_ NB222_236.out _) | exact HI222.out)) (hs_ HO233 BK236) (by decide)) hk (fun _ h => h.2)) (fun _ h => h.1)); replace BK236 := Aside0.mk (KeepBut.blk hk (g' := gb236) (o := .cells #[.int .i64 t230, .slice Ao18 t231.length co18] 30 (0, 0)) (by (with_reducible repeat (first | refine blk_drewN ?_ _ | refine blk_drew ?_ | refine blk_alloc ?_ _)); refine blk_put (cs := #[.int .i64 t230, .slice none 0 0]) ?_ 1 _ rfl; (with_reducible repeat (first | refine blk_drewN ?_ _ | refine blk_drew ?_ | refine blk_alloc ?_ _)); refine blk_put (cs := #[.int .i64 0, .slice none 0 0]) ?_ 0 _ rfl; (with_reducible repeat (first | refine blk_drewN ?_ _ | refine blk_drew ?_ | refine blk_alloc ?_ _)); exact BK236.out) NB236_222.out (by simp)); replace HB := Aside0.mk (hb); replace HI222 := Aside0.mk (hi); (try clear hb); (try clear hb2); (try clear hk); (try clear hi)))
 (try simp only [Act.put, List.setIfInBounds_toArray, List.set_cons_zero, List.set_cons_succ])
 go_cut [] (fun wc => ∃ (kq : Nat) (x223001_7 : Int) (x223002_7 : Int) (x237000_7 : Int) (x237001_7 : List (S76)) (u237001 : Value), Aside0 (spec_l03Draw.j0 kq t219 x223001_7 x223002_7 x237000_7 x237001_7 = some (r1, r2, r3, r4, r5)) ∧ Aside0 (kq ≤ k) ∧ Aside0 (Kd.R k76 76 wc w.heap.size (fun _ => True) u237001 x237001_7) ∧ Aside0 (wc.heap[gb218]? = some (.cells #[.int .i64 0, (.slice none 0 0)] 30 (0, 0))) ∧ Aside0 (wc.heap[gb236]? = some (.cells #[.int .i64 x237000_7, u237001] 30 (0, 0))) ∧ Aside0 (IsS115 w wc g222 t219 x223001_7 x223002_7) ∧ Aside0 (Below w.heap.size w wc))
 case first =>
  have H := HC8.out
  clear HC8
  by_cases c20 : t237 = true
  rotate_left
  ·replace c20 := Bool.eq_false_iff.mpr c20
   subst c20
   rw [if_neg (show ¬ (false = true) by decide)] at H
   have H' := Aside0.mk H
   clear H
   go_wp2
   go_meet
   case rel => exact ⟨_, (t238), (t239), (t230), (t231), (.slice Ao18 t231.length co18), H', ⟨by first | omega | exact Nat.le_refl _⟩, ⟨by (with_reducible repeat (first | apply Kd.R_alloc | apply Kd.R_drewN | apply Kd.R_drew)); exact HO233.out⟩, ⟨by (with_reducible repeat (first | refine blk_drewN ?_ _ | refine blk_drew ?_ | refine blk_alloc ?_ _)); exact BK218.out⟩, ⟨by (with_reducible repeat (first | refine blk_drewN ?_ _ | refine blk_drew ?_ | refine blk_alloc ?_ _)); exact BK236.out⟩, ⟨by repeat (first | (with_reducible first | exact HI222.out | apply IsS115.alloc | apply IsS115.drewN | apply IsS115.drew | apply IsS115.set_1 | apply IsS115.set_2 | refine IsS115.far ?_ NB222_218.out _ | refine IsS115.far ?_ NB222_236.out _) | exact HI222.out)⟩, ⟨by repeat (first | (with_reducible first | exact HB.out | apply below_alloc | apply pw_below_drewN | apply below_drew1 | refine below_set ?_ (IsS115.ge HI222.out) | refine below_set ?_ GE218.out | refine below_set ?_ GE236.out) | exact HB.out)⟩⟩
  subst c20
  rw [if_pos rfl] at H
  replace H := Option.bind_eq_some_iff.mp H
  obtain ⟨⟨t240, t241, t244, t245⟩, A210, H⟩ := H
  have A21 := Aside0.mk A210
  clear A210
  have H' := Aside0.mk H
  clear H
  go_wp2_with (first | ((with_reducible refine gate_callee (f := 83) rfl ?_); refine gl_ (some 25) Try.func83 #[.pointer (some ⟨g222, 0, none⟩), .int .i64 10, .int .i64 50] ?_; (with_reducible refine (spec_l03DrawGraph.calls k g222 t219 t238 t239 10 50 t240 t241 t244 t245 w _ ?side1 ?side2 A21.out).mono ?_); (case side1 => repeat (first | (with_reducible first | exact HI222.out | apply IsS115.alloc | apply IsS115.drewN | apply IsS115.drew | apply IsS115.set_1 | apply IsS115.set_2 | refine IsS115.far ?_ NB222_218.out _ | refine IsS115.far ?_ NB222_236.out _) | exact HI222.out)); (case side2 => repeat (first | (with_reducible first | exact HB.out | apply below_alloc | apply pw_below_drewN | apply below_drew1 | refine below_set ?_ (IsS115.ge HI222.out) | refine below_set ?_ GE218.out | refine below_set ?_ GE236.out) | exact HB.out)); rintro e w22 ⟨v242, rfl, ho0, hi, hb, hk⟩; refine ⟨_, rfl, ?_⟩; have HO243 := Aside0.mk (Kd.R_lower (Kd.R_new' ho0 (Kd.R_lt (hd_ HO233))) (below_size (by repeat (first | (with_reducible first | exact HB.out | apply below_alloc | apply pw_below_drewN | apply below_drew1 | refine below_set ?_ (IsS115.ge HI222.out) | refine below_set ?_ GE218.out | refine below_set ?_ GE236.out) | exact HB.out)))); replace BK218 := Aside0.mk (KeepBut.blk hk (g' := gb218) (o := .cells #[.int .i64 0, .slice none 0 0] 30 (0, 0)) (by (with_reducible repeat (first | refine blk_drewN ?_ _ | refine blk_drew ?_ | refine blk_alloc ?_ _)); exact BK218.out) NB218_222.out (by simp)); replace BK236 := Aside0.mk (KeepBut.blk hk (g' := gb236) (o := .cells #[.int .i64 t230, .slice Ao18 t231.length co18] 30 (0, 0)) (by (with_reducible repeat (first | refine blk_drewN ?_ _ | refine blk_drew ?_ | refine blk_alloc ?_ _)); exact BK236.out) NB236_222.out (by simp)); replace HO233 := Aside0.mk (Kd.R_mono (Kd.R_told (Kd.R_oldK (IsS115.apart (show IsS115 w _ g222 t219 t238 t239 from by repeat (first | (with_reducible first | exact HI222.out | apply IsS115.alloc | apply IsS115.drewN | apply IsS115.drew | apply IsS115.set_1 | apply IsS115.set_2 | refine IsS115.far ?_ NB222_218.out _ | refine IsS115.far ?_ NB222_236.out _) | exact HI222.out)) (hd_ HO233) (by decide)) hk) (Kd.R_base ho0)) (fun _ h_ => h_.1)); replace HB := Aside0.mk (hb); replace HI222 := Aside0.mk (hi); (try clear hb); (try clear hb2); (try clear hk); (try clear hi); (try clear ho0); have hnb23 := NB236_218.out; have hnc23 := NB218_236.out; have hnb24 := NB236_222.out; have hnc24 := NB222_236.out; have hcz25_0 := cz_ BK236 0 (.int .i64 t230); have hcz25_1 := cz_ BK236 1 (.slice Ao18 t231.length co18); have hfz25_0 := blk_frozen BK236.out 0; have hfz25_1 := blk_frozen BK236.out 1; obtain ⟨Ao26, co26, eo26⟩ := Kd.R_slice HO243.out; subst eo26))
  go_meet
  case rel => exact ⟨_, (t244), (t245), (t240), (t241), (.slice Ao26 t241.length co26), H', ⟨by first | omega | exact Nat.le_refl _⟩, ⟨by (with_reducible repeat (first | apply Kd.R_alloc | apply Kd.R_drewN | apply Kd.R_drew)); exact Kd.R_mono (Kd.R_far (p := ⟨gb236, 1, none⟩) (Kd.R_far (p := ⟨gb236, 0, none⟩) (Kd.R_types HO243.out BK236.out (by decide)) (fun _ hk => hk.2) (.int .i64 t240)) (fun _ hk => hk.2) (.slice Ao26 t241.length co26)) (fun _ hk => trivial)⟩, ⟨by (with_reducible repeat (first | refine blk_drewN ?_ _ | refine blk_drew ?_ | refine blk_alloc ?_ _)); refine blk_far ?_ NB218_236.out _; (with_reducible repeat (first | refine blk_drewN ?_ _ | refine blk_drew ?_ | refine blk_alloc ?_ _)); refine blk_far ?_ NB218_236.out _; (with_reducible repeat (first | refine blk_drewN ?_ _ | refine blk_drew ?_ | refine blk_alloc ?_ _)); exact BK218.out⟩, ⟨by (with_reducible repeat (first | refine blk_drewN ?_ _ | refine blk_drew ?_ | refine blk_alloc ?_ _)); refine blk_put (cs := #[.int .i64 t240, .slice Ao18 t231.length co18]) ?_ 1 _ rfl; (with_reducible repeat (first | refine blk_drewN ?_ _ | refine blk_drew ?_ | refine blk_alloc ?_ _)); refine blk_put (cs := #[.int .i64 t230, .slice Ao18 t231.length co18]) ?_ 0 _ rfl; (with_reducible repeat (first | refine blk_drewN ?_ _ | refine blk_drew ?_ | refine blk_alloc ?_ _)); exact BK236.out⟩, ⟨by repeat (first | (with_reducible first | exact HI222.out | apply IsS115.alloc | apply IsS115.drewN | apply IsS115.drew | apply IsS115.set_1 | apply IsS115.set_2 | refine IsS115.far ?_ NB222_218.out _ | refine IsS115.far ?_ NB222_236.out _) | exact HI222.out)⟩, ⟨by repeat (first | (with_reducible first | exact HB.out | apply below_alloc | apply pw_below_drewN | apply below_drew1 | refine below_set ?_ (IsS115.ge HI222.out) | refine below_set ?_ GE218.out | refine below_set ?_ GE236.out) | exact HB.out)⟩⟩
 case rest =>
  clear HC8
  try clear c1
  try clear c2
  try clear p2
  try clear c6
  try clear p6
  try clear c8
  try clear c15
  try clear c16
  try clear c20
  try clear c23
  try clear c24
  try clear hcz17_0
  try clear hcz17_1
  try clear hcz25_0
  try clear hcz25_1
  try clear hfz17_0
  try clear hfz17_1
  try clear hfz25_0
  try clear hfz25_1
  obtain ⟨kq, x223001_7, x223002_7, x237000_7, x237001_7, u237001, HA, HJ7, HO_237001, BK218, BK236, HI222, HB⟩ := hcut
  cases kq with
  | zero => exact absurd HA.out (by simp [spec_l03Draw.j0])
  | succ kj7 =>
   have H := HA.out
   clear HA
   simp only [spec_l03Draw.j0] at H
   replace H := Option.bind_eq_some_iff.mp H
   obtain ⟨⟨t246, t247, t248⟩, A270, H⟩ := H
   have A27 := Aside0.mk A270
   clear A270
   by_cases c28 : t246 = true
   rotate_left
   ·replace c28 := Bool.eq_false_iff.mpr c28
    subst c28
    rw [if_neg (show ¬ (false = true) by decide)] at H
    simp only [Option.some.injEq, Prod.mk.injEq] at H
    obtain ⟨rfl, rfl, rfl, rfl, rfl⟩ := H
    try go_wp2_with (first | ((with_reducible refine gate_callee (f := 84) rfl ?_); refine gl_ (some 27) Try.func84 #[.pointer (some ⟨g222, 0, none⟩), .int .i64 20] ?_; (with_reducible refine (spec_l01Once.calls g222 t219 x223001_7 x223002_7 20 false t247 t248 w _ ?side1 ?side2 A27.out).mono ?_); (case side1 => repeat (first | (with_reducible first | exact HI222.out | apply IsS115.alloc | apply IsS115.drewN | apply IsS115.drew | apply IsS115.set_1 | apply IsS115.set_2 | refine IsS115.far ?_ NB222_218.out _ | refine IsS115.far ?_ NB222_236.out _) | exact HI222.out)); (case side2 => repeat (first | (with_reducible first | exact HB.out | apply below_alloc | apply pw_below_drewN | apply below_drew1 | refine below_set ?_ (IsS115.ge HI222.out) | refine below_set ?_ GE218.out | refine below_set ?_ GE236.out) | exact HB.out)); rintro e w42 ⟨rfl, hi, hb, hk⟩; refine ⟨_, rfl, ?_⟩; replace HO_237001 := Aside0.mk (Kd.R_mono (Kd.R_keep (IsS115.apart (show IsS115 w _ g222 t219 x223001_7 x223002_7 from by repeat (first | (with_reducible first | exact HI222.out | apply IsS115.alloc | apply IsS115.drewN | apply IsS115.drew | apply IsS115.set_1 | apply IsS115.set_2 | refine IsS115.far ?_ NB222_218.out _ | refine IsS115.far ?_ NB222_236.out _) | exact HI222.out)) (hd_ HO_237001) (by decide)) hk (fun _ h => h.2)) (fun _ h => h.1)); replace BK218 := Aside0.mk (KeepBut.blk hk (g' := gb218) (o := .cells #[.int .i64 0, .slice none 0 0] 30 (0, 0)) (by (with_reducible repeat (first | refine blk_drewN ?_ _ | refine blk_drew ?_ | refine blk_alloc ?_ _)); exact BK218.out) NB218_222.out (by simp)); replace BK236 := Aside0.mk (KeepBut.blk hk (g' := gb236) (o := .cells #[.int .i64 x237000_7, u237001] 30 (0, 0)) (by (with_reducible repeat (first | refine blk_drewN ?_ _ | refine blk_drew ?_ | refine blk_alloc ?_ _)); exact BK236.out) NB236_222.out (by simp)); replace HB := Aside0.mk (hb); replace HI222 := Aside0.mk (hi); (try clear hb); (try clear hb2); (try clear hk); (try clear hi)))
    replace HO_237001 := Aside0.mk (Kd.R_drew HO_237001.out)
    replace BK218 := Aside0.mk (blk_drew BK218.out)
    replace BK236 := Aside0.mk (blk_drew BK236.out)
    replace HI222 := Aside0.mk (IsS115.drew HI222.out)
    replace HB := Aside0.mk (below_drew1 HB.out)
    obtain ⟨Ao45, co45, eo45⟩ := Kd.R_slice HO_237001.out
    (first | subst eo45 | (injection eo45 with f1_ f2_ f3_; have f4_ := f1_.symm; have f5_ := f3_.symm; clear f1_ f2_ f3_; subst f4_; subst f5_))
    refine start_ (n := 4) (S := fun w' => w'.cell? ⟨gb236, 0, none⟩ = some (.int .i64 x237000_7) ∧ w'.cell? ⟨gb236, 1, none⟩ = some (.slice Ao45 x237001_7.length co45)) (ds := []) ba5_0 (by kernel_rfl) rfl rfl ⟨(blk_cell BK236.out 0).trans rfl, (blk_cell BK236.out 1).trans rfl⟩ (fun hHeld => ?_)
    generalize w42.drew = w43 at HO_237001 BK218 BK236 HI222 HB hHeld ⊢
    refine pure_ (i := 0) (N := some 31) (v := ?_) (a' := ?_) ba5_1 rfl rfl (by kernel_rfl) (fun _ _ _ h => h) (Or.inl ⟨by rfl, ?_⟩) ?_ ?_
    rotate_left; · intro w'; go_simp; with_reducible rfl
    rotate_left; · simp only [Act.put, List.setIfInBounds_toArray, List.set_cons_zero, List.set_cons_succ, i64_w, i32_w]; rfl
    refine pure_ (i := 2) (N := some 2) (v := ?_) (a' := ?_) ba5_2 rfl rfl (by kernel_rfl) (fun _ _ _ h => h) (Or.inl ⟨by rfl, ?_⟩) ?_ ?_
    rotate_left; · intro w'; go_simp; with_reducible rfl
    rotate_left; · simp only [Act.put, List.setIfInBounds_toArray, List.set_cons_zero, List.set_cons_succ, i64_w, i32_w]; rfl
    refine take_ (i := 1) (N := some 32) (v := ?_) (a' := ?_) ba5_3 rfl rfl (by kernel_rfl) (fun _ _ _ h => h) (Or.inl ⟨by rfl, ?_⟩) hHeld ?_ ?_
    rotate_left; · rintro w' ⟨s0, s1⟩; go_simp; with_reducible rfl
    rotate_left; · simp only [Act.put, List.setIfInBounds_toArray, List.set_cons_zero, List.set_cons_succ, i64_w, i32_w]; rfl
    refine one_ (i := 3) (N := none) ba5_4 rfl rfl (by kernel_rfl) (by decide) (fun K hK => ?_)
    have hs44 : w43.cell? ⟨gb218, 0, none⟩ = some (.int .i64 0) := (blk_cell BK218.out 0).trans rfl
    have hfs44 := blk_frozen BK218.out 0
    have hns44_1 := NB236_218.out
    have hms44_1 := NB218_236.out
    have hs46 : w43.cell? ⟨gb218, 1, none⟩ = some (.slice none 0 0) := (blk_cell BK218.out 1).trans rfl
    have hfs46 := blk_frozen BK218.out 1
    have hns46_1 := NB236_218.out
    have hms46_1 := NB218_236.out
    refine skip_ (w1 := ?_) (by rfl) rfl ?_ ?_
    rotate_left; · go_simp; rfl
    refine hK.out _ _ ⟨((cell_far (p := ⟨gb218, _, none⟩) NB236_218.out _).trans (((cell_far (p := ⟨gb218, _, none⟩) NB236_218.out _).trans (hHeld.1)))), ((cell_far (p := ⟨gb218, _, none⟩) NB236_218.out _).trans (((cell_far (p := ⟨gb218, _, none⟩) NB236_218.out _).trans (hHeld.2))))⟩ (fun hHeld => ?_)
    clear hK K
    refine done_ (by kernel_rfl) ?_
    try go_wp2
    refine bodyPost_ret (results_tc rfl _ _ gb218 30 #[.int .i64 x237000_7, .slice Ao45 x237001_7.length co45] (0, 0) _ rfl (by (with_reducible repeat (first | refine blk_drewN ?_ _ | refine blk_drew ?_ | refine blk_alloc ?_ _)); refine blk_put (cs := #[.int .i64 x237000_7, .slice none 0 0]) ?_ 1 _ rfl; (with_reducible repeat (first | refine blk_drewN ?_ _ | refine blk_drew ?_ | refine blk_alloc ?_ _)); refine blk_put (cs := #[.int .i64 0, .slice none 0 0]) ?_ 0 _ rfl; (with_reducible repeat (first | refine blk_drewN ?_ _ | refine blk_drew ?_ | refine blk_alloc ?_ _)); exact BK218.out) Try.underlying30 rfl (by kernel_rfl)) rfl ?_
    exact ⟨_, _, by first | rfl | (simp [errW_none, errW_some] <;> rfl) | (simp [*, errW_none, errW_some] <;> rfl), by (with_reducible repeat (first | apply Kd.R_alloc | apply Kd.R_drewN | apply Kd.R_drew)); exact Kd.R_mono (Kd.R_far (p := ⟨gb218, 1, none⟩) (Kd.R_far (p := ⟨gb218, 0, none⟩) (Kd.R_types HO_237001.out BK218.out (by decide)) (fun _ hk => hk.2) (.int .i64 x237000_7)) (fun _ hk => hk.2) (.slice Ao45 x237001_7.length co45)) (fun _ hk => trivial), by repeat (first | (with_reducible first | exact HI222.out | apply IsS115.alloc | apply IsS115.drewN | apply IsS115.drew | apply IsS115.set_1 | apply IsS115.set_2 | refine IsS115.far ?_ NB222_218.out _ | refine IsS115.far ?_ NB222_236.out _) | exact HI222.out), by repeat (first | (with_reducible first | exact HB.out | apply below_alloc | apply pw_below_drewN | apply below_drew1 | refine below_set ?_ (IsS115.ge HI222.out) | refine below_set ?_ GE218.out | refine below_set ?_ GE236.out) | exact HB.out)⟩
   subst c28
   rw [if_pos rfl] at H
   replace H := Option.bind_eq_some_iff.mp H
   obtain ⟨⟨t249, t250, t253, t254⟩, A290, H⟩ := H
   have A29 := Aside0.mk A290
   clear A290
   simp only [Option.some.injEq, Prod.mk.injEq] at H
   obtain ⟨rfl, rfl, rfl, rfl, rfl⟩ := H
   try go_wp2_with (first | ((with_reducible refine gate_callee (f := 84) rfl ?_); refine gl_ (some 27) Try.func84 #[.pointer (some ⟨g222, 0, none⟩), .int .i64 20] ?_; (with_reducible refine (spec_l01Once.calls g222 t219 x223001_7 x223002_7 20 true t247 t248 w _ ?side1 ?side2 A27.out).mono ?_); (case side1 => repeat (first | (with_reducible first | exact HI222.out | apply IsS115.alloc | apply IsS115.drewN | apply IsS115.drew | apply IsS115.set_1 | apply IsS115.set_2 | refine IsS115.far ?_ NB222_218.out _ | refine IsS115.far ?_ NB222_236.out _) | exact HI222.out)); (case side2 => repeat (first | (with_reducible first | exact HB.out | apply below_alloc | apply pw_below_drewN | apply below_drew1 | refine below_set ?_ (IsS115.ge HI222.out) | refine below_set ?_ GE218.out | refine below_set ?_ GE236.out) | exact HB.out)); rintro e w30 ⟨rfl, hi, hb, hk⟩; refine ⟨_, rfl, ?_⟩; replace HO_237001 := Aside0.mk (Kd.R_mono (Kd.R_keep (IsS115.apart (show IsS115 w _ g222 t219 x223001_7 x223002_7 from by repeat (first | (with_reducible first | exact HI222.out | apply IsS115.alloc | apply IsS115.drewN | apply IsS115.drew | apply IsS115.set_1 | apply IsS115.set_2 | refine IsS115.far ?_ NB222_218.out _ | refine IsS115.far ?_ NB222_236.out _) | exact HI222.out)) (hd_ HO_237001) (by decide)) hk (fun _ h => h.2)) (fun _ h => h.1)); replace BK218 := Aside0.mk (KeepBut.blk hk (g' := gb218) (o := .cells #[.int .i64 0, .slice none 0 0] 30 (0, 0)) (by (with_reducible repeat (first | refine blk_drewN ?_ _ | refine blk_drew ?_ | refine blk_alloc ?_ _)); exact BK218.out) NB218_222.out (by simp)); replace BK236 := Aside0.mk (KeepBut.blk hk (g' := gb236) (o := .cells #[.int .i64 x237000_7, u237001] 30 (0, 0)) (by (with_reducible repeat (first | refine blk_drewN ?_ _ | refine blk_drew ?_ | refine blk_alloc ?_ _)); exact BK236.out) NB236_222.out (by simp)); replace HB := Aside0.mk (hb); replace HI222 := Aside0.mk (hi); (try clear hb); (try clear hb2); (try clear hk); (try clear hi); have hnb31 := NB236_218.out; have hnc31 := NB218_236.out; have hnb32 := NB236_222.out; have hnc32 := NB222_236.out; have hcz33_0 := cz_ BK236 0 (.int .i64 x237000_7); have hcz33_1 := cz_ BK236 1 (u237001); have hfz33_0 := blk_frozen BK236.out 0; have hfz33_1 := blk_frozen BK236.out 1; obtain ⟨Ao34, co34, eo34⟩ := Kd.R_slice HO_237001.out; subst eo34) | ((with_reducible refine gate_callee (f := 85) rfl ?_); refine gl_ (some 30) Try.func85 #[.pointer (some ⟨g222, 0, none⟩), .agg #[.int .i64 x237000_7, .slice Ao34 x237001_7.length co34]] ?_; (with_reducible refine (spec_l03Bend.calls g222 t219 t247 t248 x237000_7 (fun k_ => some k_ = (.slice Ao34 x237001_7.length co34 : Value).ownBlock) (.slice Ao34 x237001_7.length co34) x237001_7 t249 t250 t253 t254 w _ ?side1 ?side2 ?side3 A29.out).mono ?_); (case side1 => repeat (first | (with_reducible first | exact HI222.out | apply IsS115.alloc | apply IsS115.drewN | apply IsS115.drew | apply IsS115.set_1 | apply IsS115.set_2 | refine IsS115.far ?_ NB222_218.out _ | refine IsS115.far ?_ NB222_236.out _) | exact HI222.out)); (case side2 => repeat (first | (with_reducible first | exact HB.out | apply below_alloc | apply pw_below_drewN | apply below_drew1 | refine below_set ?_ (IsS115.ge HI222.out) | refine below_set ?_ GE218.out | refine below_set ?_ GE236.out) | exact HB.out)); (case side3 => exact Kd.R_tight rfl HO_237001.out); rintro e w35 ⟨v251, rfl, ho0, hi, hb, hkp⟩; refine ⟨_, rfl, ?_⟩; have HO252 := Aside0.mk (Kd.R_mono (ok' := fun k_ => True) ho0 (fun k_ hk_ => trivial)); replace BK218 := bk_ BK218 hkp (fun hs_ => Or.elim hs_ (fun hs_ => (Kd.R_ne HO_237001.out BK218.out (by decide)) hs_) (fun e_ => NB218_222.out e_)); replace BK236 := bk_ BK236 hkp (fun hs_ => Or.elim hs_ (fun hs_ => (Kd.R_ne HO_237001.out BK236.out (by decide)) hs_) (fun e_ => NB236_222.out e_)); replace HI222 := Aside0.mk (hi); replace HB := Aside0.mk (hb); clear HO_237001; (try clear hb); (try clear hkp); (try clear ho0); have hcz36_0 := cz_ BK236 0 (.int .i64 x237000_7); have hcz36_1 := cz_ BK236 1 (.slice Ao34 x237001_7.length co34); have hfz36_0 := blk_frozen BK236.out 0; have hfz36_1 := blk_frozen BK236.out 1; obtain ⟨Ao37, co37, eo37⟩ := Kd.R_slice HO252.out; subst eo37))
   have n0_ : Aside0 (Kd.R k76 76 ((w35.setCell ⟨gb236, 0, none⟩ (.int .i64 t249)).setCell ⟨gb236, 1, none⟩ (.slice Ao37 t250.length co37)) w.heap.size (fun _ => True) (.slice Ao37 t250.length co37) t250) := ⟨by (with_reducible repeat (first | apply Kd.R_alloc | apply Kd.R_drewN | apply Kd.R_drew)); exact Kd.R_mono (Kd.R_far (p := ⟨gb236, 1, none⟩) (Kd.R_far (p := ⟨gb236, 0, none⟩) (Kd.R_types HO252.out BK236.out (by decide)) (fun _ hk => hk.2) (.int .i64 t249)) (fun _ hk => hk.2) (.slice Ao37 t250.length co37)) (fun _ hk => trivial)⟩
   have n1_ : Aside0 (((w35.setCell ⟨gb236, 0, none⟩ (.int .i64 t249)).setCell ⟨gb236, 1, none⟩ (.slice Ao37 t250.length co37)).heap[gb218]? = some (.cells #[.int .i64 0, .slice none 0 0] 30 (0, 0))) := ⟨by (with_reducible repeat (first | refine blk_drewN ?_ _ | refine blk_drew ?_ | refine blk_alloc ?_ _)); refine blk_far ?_ NB218_236.out _; (with_reducible repeat (first | refine blk_drewN ?_ _ | refine blk_drew ?_ | refine blk_alloc ?_ _)); refine blk_far ?_ NB218_236.out _; (with_reducible repeat (first | refine blk_drewN ?_ _ | refine blk_drew ?_ | refine blk_alloc ?_ _)); exact BK218.out⟩
   have n2_ : Aside0 (((w35.setCell ⟨gb236, 0, none⟩ (.int .i64 t249)).setCell ⟨gb236, 1, none⟩ (.slice Ao37 t250.length co37)).heap[gb236]? = some (.cells #[.int .i64 t249, .slice Ao37 t250.length co37] 30 (0, 0))) := ⟨by (with_reducible repeat (first | refine blk_drewN ?_ _ | refine blk_drew ?_ | refine blk_alloc ?_ _)); refine blk_put (cs := #[.int .i64 t249, .slice Ao34 x237001_7.length co34]) ?_ 1 _ rfl; (with_reducible repeat (first | refine blk_drewN ?_ _ | refine blk_drew ?_ | refine blk_alloc ?_ _)); refine blk_put (cs := #[.int .i64 x237000_7, .slice Ao34 x237001_7.length co34]) ?_ 0 _ rfl; (with_reducible repeat (first | refine blk_drewN ?_ _ | refine blk_drew ?_ | refine blk_alloc ?_ _)); exact BK236.out⟩
   have n3_ : Aside0 (IsS115 w ((w35.setCell ⟨gb236, 0, none⟩ (.int .i64 t249)).setCell ⟨gb236, 1, none⟩ (.slice Ao37 t250.length co37)) g222 t219 t253 t254) := ⟨by repeat (first | (with_reducible first | exact HI222.out | apply IsS115.alloc | apply IsS115.drewN | apply IsS115.drew | apply IsS115.set_1 | apply IsS115.set_2 | refine IsS115.far ?_ NB222_218.out _ | refine IsS115.far ?_ NB222_236.out _) | exact HI222.out)⟩
   have n4_ : Aside0 (Below w.heap.size w ((w35.setCell ⟨gb236, 0, none⟩ (.int .i64 t249)).setCell ⟨gb236, 1, none⟩ (.slice Ao37 t250.length co37))) := ⟨by repeat (first | (with_reducible first | exact HB.out | apply below_alloc | apply pw_below_drewN | apply below_drew1 | refine below_set ?_ (IsS115.ge HI222.out) | refine below_set ?_ GE218.out | refine below_set ?_ GE236.out) | exact HB.out)⟩
   (try clear HO252)
   (try clear BK218)
   (try clear BK236)
   (try clear HI222)
   (try clear HB)
   generalize ((w35.setCell ⟨gb236, 0, none⟩ (.int .i64 t249)).setCell ⟨gb236, 1, none⟩ (.slice Ao37 t250.length co37)) = w38 at n0_ n1_ n2_ n3_ n4_ ⊢
   have HO252 := n0_
   have BK218 := n1_
   have BK236 := n2_
   have HI222 := n3_
   have HB := n4_
   clear n0_ n1_ n2_ n3_ n4_
   replace HO252 := Aside0.mk (Kd.R_drew HO252.out)
   replace BK218 := Aside0.mk (blk_drew BK218.out)
   replace BK236 := Aside0.mk (blk_drew BK236.out)
   replace HI222 := Aside0.mk (IsS115.drew HI222.out)
   replace HB := Aside0.mk (below_drew1 HB.out)
   refine start_ (n := 4) (S := fun w' => w'.cell? ⟨gb236, 0, none⟩ = some (.int .i64 t249) ∧ w'.cell? ⟨gb236, 1, none⟩ = some (.slice Ao37 t250.length co37)) (ds := []) ba5_0 (by kernel_rfl) rfl rfl ⟨(blk_cell BK236.out 0).trans rfl, (blk_cell BK236.out 1).trans rfl⟩ (fun hHeld => ?_)
   generalize w38.drew = w39 at HO252 BK218 BK236 HI222 HB hHeld ⊢
   refine pure_ (i := 0) (N := some 31) (v := ?_) (a' := ?_) ba5_1 rfl rfl (by kernel_rfl) (fun _ _ _ h => h) (Or.inl ⟨by rfl, ?_⟩) ?_ ?_
   rotate_left; · intro w'; go_simp; with_reducible rfl
   rotate_left; · simp only [Act.put, List.setIfInBounds_toArray, List.set_cons_zero, List.set_cons_succ, i64_w, i32_w]; rfl
   refine pure_ (i := 2) (N := some 2) (v := ?_) (a' := ?_) ba5_2 rfl rfl (by kernel_rfl) (fun _ _ _ h => h) (Or.inl ⟨by rfl, ?_⟩) ?_ ?_
   rotate_left; · intro w'; go_simp; with_reducible rfl
   rotate_left; · simp only [Act.put, List.setIfInBounds_toArray, List.set_cons_zero, List.set_cons_succ, i64_w, i32_w]; rfl
   refine take_ (i := 1) (N := some 32) (v := ?_) (a' := ?_) ba5_3 rfl rfl (by kernel_rfl) (fun _ _ _ h => h) (Or.inl ⟨by rfl, ?_⟩) hHeld ?_ ?_
   rotate_left; · rintro w' ⟨s0, s1⟩; go_simp; with_reducible rfl
   rotate_left; · simp only [Act.put, List.setIfInBounds_toArray, List.set_cons_zero, List.set_cons_succ, i64_w, i32_w]; rfl
   refine one_ (i := 3) (N := none) ba5_4 rfl rfl (by kernel_rfl) (by decide) (fun K hK => ?_)
   have hs40 : w39.cell? ⟨gb218, 0, none⟩ = some (.int .i64 0) := (blk_cell BK218.out 0).trans rfl
   have hfs40 := blk_frozen BK218.out 0
   have hns40_1 := NB236_218.out
   have hms40_1 := NB218_236.out
   have hs41 : w39.cell? ⟨gb218, 1, none⟩ = some (.slice none 0 0) := (blk_cell BK218.out 1).trans rfl
   have hfs41 := blk_frozen BK218.out 1
   have hns41_1 := NB236_218.out
   have hms41_1 := NB218_236.out
   refine skip_ (w1 := ?_) (by rfl) rfl ?_ ?_
   rotate_left; · go_simp; rfl
   refine hK.out _ _ ⟨((cell_far (p := ⟨gb218, _, none⟩) NB236_218.out _).trans (((cell_far (p := ⟨gb218, _, none⟩) NB236_218.out _).trans (hHeld.1)))), ((cell_far (p := ⟨gb218, _, none⟩) NB236_218.out _).trans (((cell_far (p := ⟨gb218, _, none⟩) NB236_218.out _).trans (hHeld.2))))⟩ (fun hHeld => ?_)
   clear hK K
   refine done_ (by kernel_rfl) ?_
   try go_wp2
   refine bodyPost_ret (results_tc rfl _ _ gb218 30 #[.int .i64 t249, .slice Ao37 t250.length co37] (0, 0) _ rfl (by (with_reducible repeat (first | refine blk_drewN ?_ _ | refine blk_drew ?_ | refine blk_alloc ?_ _)); refine blk_put (cs := #[.int .i64 t249, .slice none 0 0]) ?_ 1 _ rfl; (with_reducible repeat (first | refine blk_drewN ?_ _ | refine blk_drew ?_ | refine blk_alloc ?_ _)); refine blk_put (cs := #[.int .i64 0, .slice none 0 0]) ?_ 0 _ rfl; (with_reducible repeat (first | refine blk_drewN ?_ _ | refine blk_drew ?_ | refine blk_alloc ?_ _)); exact BK218.out) Try.underlying30 rfl (by kernel_rfl)) rfl ?_
   exact ⟨_, _, by first | rfl | (simp [errW_none, errW_some] <;> rfl) | (simp [*, errW_none, errW_some] <;> rfl), by (with_reducible repeat (first | apply Kd.R_alloc | apply Kd.R_drewN | apply Kd.R_drew)); exact Kd.R_mono (Kd.R_far (p := ⟨gb218, 1, none⟩) (Kd.R_far (p := ⟨gb218, 0, none⟩) (Kd.R_types HO252.out BK218.out (by decide)) (fun _ hk => hk.2) (.int .i64 t249)) (fun _ hk => hk.2) (.slice Ao37 t250.length co37)) (fun _ hk => trivial), by repeat (first | (with_reducible first | exact HI222.out | apply IsS115.alloc | apply IsS115.drewN | apply IsS115.drew | apply IsS115.set_1 | apply IsS115.set_2 | refine IsS115.far ?_ NB222_218.out _ | refine IsS115.far ?_ NB222_236.out _) | exact HI222.out), by repeat (first | (with_reducible first | exact HB.out | apply below_alloc | apply pw_below_drewN | apply below_drew1 | refine below_set ?_ (IsS115.ge HI222.out) | refine below_set ?_ GE218.out | refine below_set ?_ GE236.out) | exact HB.out)⟩

/-! ### spec_DrawGraphOk: function 62 -/
def spec_DrawGraphOk.f (k : Nat) (l0 : List Int) : Option (Int × (List (S76))) := (spec_l03Draw.f k l0).bind fun bt260 => (some (bt260.1, bt260.2.1))
theorem spec_DrawGraphOk.mono : ∀ a0 k, LeO (spec_DrawGraphOk.f k a0) (spec_DrawGraphOk.f (k + 1) a0) := by
 intro a0 k
 unfold spec_DrawGraphOk.f
 repeat' first
   | (with_reducible exact spec_l03Draw.mono _ _)
   | (with_reducible exact LeO.refl _)
   | (with_reducible exact LeO.none _)
   | (with_reducible refine LeO.ite ?_ ?_)
   | (with_reducible refine LeO.bind ?_ (fun _ => ?_))
   | exact spec_l03Draw.mono _ _
   | exact LeO.none _
   | refine LeO.ite ?_ ?_
   | refine LeO.bind ?_ (fun _ => ?_)
set_option maxHeartbeats 8000000 in
set_option maxRecDepth 100000 in
theorem spec_DrawGraphOk.calls (k : Nat) (A0 : Option Addr) (c0 : Nat) (l0 : List Int) (r1 : Int) (r2 : List (S76)) (w : World) (hr0 : Kd.C (Kd.int .u8) w A0 l0.length l0) (hc0 : l0.length ≤ c0) (h : spec_DrawGraphOk.f k l0 = some (r1, r2)) :
  Calls Try.prog 62 #[.slice A0 l0.length c0] w fun e w' => ∃ v1_ : Value, e = .returned (.agg #[.int .i64 r1, v1_]) ∧ Kd.R k76 76 w' w.heap.size (fun _ => True) v1_ r2 ∧ Below w.heap.size w w' := by
 have hu30 := Try.underlying30
 have HR0 := Aside0.mk hr0
 have HC0 := Aside0.mk hc0
 clear hr0 hc0
 have HB := Aside0.mk (Below.refl w.heap.size w)
 have H : ((spec_l03Draw.f k l0).bind fun bt260 => (some (bt260.1, bt260.2.1))) = some (r1, r2) := h
 clear h
 replace H := Option.bind_eq_some_iff.mp H
 obtain ⟨⟨t260, t261, t256, t257, t258⟩, A20, H⟩ := H
 have A2 := Aside0.mk A20
 clear A20
 simp only [Option.some.injEq, Prod.mk.injEq] at H
 obtain ⟨rfl, rfl⟩ := H
 go_enter Try.func62, Try.ntmps62
 go_wp2_with (first | ((with_reducible refine gate_dst (N := 2) rfl ?_); refine box_event ?hg (N := 2) ?hd (cs := #[.int .i64 0, .slice none 0 0]) (t := 30) ?hr ?_; (case hd => rfl); (case hg => rfl); (case hr => first | (go_simp; done) | (go_simp; rfl)); intro gb255 hg w3 hbox hb; have BK255 := Aside0.mk hbox; have GW255 := ge_ HB hg; have GE255 := ge_ HB hg; replace HB := Aside0.mk (bt_ HB hb); clear hb hbox hg) | ((with_reducible refine gate_callee (f := 65) rfl ?_); refine gl_ (some 7) Try.func65 #[.slice A0 l0.length c0] ?_; (with_reducible refine (spec_l03Draw.calls k _ _ l0 t260 t261 t256 t257 t258 _ ?side1 ?side2 A2.out).mono ?_); (case side1 => exact cb_ HR0 HB); (case side2 => exact HC0.out); rintro e w4 ⟨v262, g259, rfl, ho0, hi, hb⟩; refine ⟨_, rfl, ?_⟩; have HO263 := Aside0.mk (Kd.R_lower ho0 (bz_ HB)); replace BK255 := Aside0.mk (bb_ BK255 hb); replace HB := Aside0.mk (bt_ HB hb); (try clear hb); (try clear hb2); (try clear hk); (try clear hi); (try clear ho0)) | ((with_reducible refine gate_dst (N := 4) rfl ?_); refine box_event ?hg (N := 4) ?hd (cs := #[.int .i64 0, .slice none 0 0]) (t := 30) ?hr ?_; (case hd => rfl); (case hg => rfl); (case hr => first | (go_simp; done) | (go_simp; rfl)); intro gb264 hg w5 hbox hb; have BK264 := Aside0.mk hbox; have GW264 := ge_ HB hg; have GE264 := ge_ HB hg; have NB255_264 := nl_ BK255 hg; have NB264_255 := ng_ BK255 hg; replace HO263 := rb_ HO263 hb; replace HB := Aside0.mk (bt_ HB hb); replace BK255 := Aside0.mk (bb_ BK255 hb); clear hb hbox hg; have hnb6 := NB264_255.out; have hnc6 := NB255_264.out; have hcz7_0 := cz_ BK264 0 (.int .i64 0); have hcz7_1 := cz_ BK264 1 (.slice none 0 0); have hfz7_0 := blk_frozen BK264.out 0; have hfz7_1 := blk_frozen BK264.out 1; obtain ⟨Ao8, co8, eo8⟩ := Kd.R_slice HO263.out; subst eo8; have hcz9_0 := cz_ BK255 0 (.int .i64 0); have hcz9_1 := cz_ BK255 1 (.slice none 0 0); have hfz9_0 := blk_frozen BK255.out 0; have hfz9_1 := blk_frozen BK255.out 1))
 refine bodyPost_ret (results_cell_row rfl _ _ gb255 30 #[.int .i64 t260, .slice Ao8 t261.length co8] (0, 0) _ rfl (by (with_reducible repeat (first | refine blk_drewN ?_ _ | refine blk_drew ?_ | refine blk_alloc ?_ _)); refine blk_put (cs := #[.int .i64 t260, .slice none 0 0]) ?_ 1 _ rfl; (with_reducible repeat (first | refine blk_drewN ?_ _ | refine blk_drew ?_ | refine blk_alloc ?_ _)); refine blk_put (cs := #[.int .i64 0, .slice none 0 0]) ?_ 0 _ rfl; (with_reducible repeat (first | refine blk_drewN ?_ _ | refine blk_drew ?_ | refine blk_alloc ?_ _)); refine blk_far ?_ NB255_264.out _; (with_reducible repeat (first | refine blk_drewN ?_ _ | refine blk_drew ?_ | refine blk_alloc ?_ _)); refine blk_far ?_ NB255_264.out _; (with_reducible repeat (first | refine blk_drewN ?_ _ | refine blk_drew ?_ | refine blk_alloc ?_ _)); exact BK255.out) Try.underlying30 rfl (by kernel_rfl)) rfl ?_
 exact ⟨_, by first | rfl | (simp [errW_none, errW_some] <;> rfl) | (simp [*, errW_none, errW_some] <;> rfl), by (with_reducible repeat (first | apply Kd.R_alloc | apply Kd.R_drewN | apply Kd.R_drew)); exact Kd.R_mono (Kd.R_far (p := ⟨gb255, 1, none⟩) (Kd.R_far (p := ⟨gb255, 0, none⟩) (Kd.R_far (p := ⟨gb264, 1, none⟩) (Kd.R_far (p := ⟨gb264, 0, none⟩) (Kd.R_types (Kd.R_types HO263.out BK264.out (by decide)) BK255.out (by decide)) (fun _ hk => hk.1.2) (.int .i64 t260)) (fun _ hk => hk.1.2) (.slice Ao8 t261.length co8)) (fun _ hk => hk.2) (.int .i64 t260)) (fun _ hk => hk.2) (.slice Ao8 t261.length co8)) (fun _ hk => trivial), by repeat (first | (with_reducible first | exact HB.out | apply below_alloc | apply pw_below_drewN | apply below_drew1 | refine below_set ?_ GE255.out | refine below_set ?_ GE264.out) | exact HB.out)⟩

/-! ### spec_DrawAllDistances: function 24 -/
def spec_DrawAllDistances.f (k : Nat) (l0 : List Int) : Option (Int × (List (S76))) := (spec_DrawGraphOk.f k l0).bind fun bt266 => (some (bt266.1, bt266.2))
theorem spec_DrawAllDistances.mono : ∀ a0 k, LeO (spec_DrawAllDistances.f k a0) (spec_DrawAllDistances.f (k + 1) a0) := by
 intro a0 k
 unfold spec_DrawAllDistances.f
 repeat' first
   | (with_reducible exact spec_DrawGraphOk.mono _ _)
   | (with_reducible exact LeO.refl _)
   | (with_reducible exact LeO.none _)
   | (with_reducible refine LeO.ite ?_ ?_)
   | (with_reducible refine LeO.bind ?_ (fun _ => ?_))
   | exact spec_DrawGraphOk.mono _ _
   | exact LeO.none _
   | refine LeO.ite ?_ ?_
   | refine LeO.bind ?_ (fun _ => ?_)
set_option maxHeartbeats 8000000 in
set_option maxRecDepth 100000 in
theorem spec_DrawAllDistances.calls (k : Nat) (A0 : Option Addr) (c0 : Nat) (l0 : List Int) (r1 : Int) (r2 : List (S76)) (w : World) (hr0 : Kd.C (Kd.int .u8) w A0 l0.length l0) (hc0 : l0.length ≤ c0) (h : spec_DrawAllDistances.f k l0 = some (r1, r2)) :
  Calls Try.prog 24 #[.slice A0 l0.length c0] w fun e w' => ∃ v1_ : Value, e = .returned (.agg #[.int .i64 r1, v1_]) ∧ Kd.R k76 76 w' w.heap.size (fun _ => True) v1_ r2 ∧ Below w.heap.size w w' := by
 have hu30 := Try.underlying30
 have HR0 := Aside0.mk hr0
 have HC0 := Aside0.mk hc0
 clear hr0 hc0
 have HB := Aside0.mk (Below.refl w.heap.size w)
 have H : ((spec_DrawGraphOk.f k l0).bind fun bt266 => (some (bt266.1, bt266.2))) = some (r1, r2) := h
 clear h
 replace H := Option.bind_eq_some_iff.mp H
 obtain ⟨⟨t266, t267⟩, A20, H⟩ := H
 have A2 := Aside0.mk A20
 clear A20
 simp only [Option.some.injEq, Prod.mk.injEq] at H
 obtain ⟨rfl, rfl⟩ := H
 go_enter Try.func24, Try.ntmps24
 go_wp2_with (first | ((with_reducible refine gate_dst (N := 2) rfl ?_); refine box_event ?hg (N := 2) ?hd (cs := #[.int .i64 0, .slice none 0 0]) (t := 30) ?hr ?_; (case hd => rfl); (case hg => rfl); (case hr => first | (go_simp; done) | (go_simp; rfl)); intro gb265 hg w3 hbox hb; have BK265 := Aside0.mk hbox; have GW265 := ge_ HB hg; have GE265 := ge_ HB hg; replace HB := Aside0.mk (bt_ HB hb); clear hb hbox hg) | ((with_reducible refine gate_callee (f := 62) rfl ?_); refine gl_ (some 4) Try.func62 #[.slice A0 l0.length c0] ?_; (with_reducible refine (spec_DrawGraphOk.calls k _ _ l0 t266 t267 _ ?side1 ?side2 A2.out).mono ?_); (case side1 => exact cb_ HR0 HB); (case side2 => exact HC0.out); rintro e w4 ⟨v268, rfl, ho0, hb⟩; refine ⟨_, rfl, ?_⟩; have HO269 := Aside0.mk (Kd.R_lower ho0 (bz_ HB)); replace BK265 := Aside0.mk (bb_ BK265 hb); replace HB := Aside0.mk (bt_ HB hb); (try clear hb); (try clear hb2); (try clear hk); (try clear hi); (try clear ho0); have hcz5_0 := cz_ BK265 0 (.int .i64 0); have hcz5_1 := cz_ BK265 1 (.slice none 0 0); have hfz5_0 := blk_frozen BK265.out 0; have hfz5_1 := blk_frozen BK265.out 1; obtain ⟨Ao6, co6, eo6⟩ := Kd.R_slice HO269.out; subst eo6))
 refine bodyPost_ret (results_cell_row rfl _ _ gb265 30 #[.int .i64 t266, .slice Ao6 t267.length co6] (0, 0) _ rfl (by (with_reducible repeat (first | refine blk_drewN ?_ _ | refine blk_drew ?_ | refine blk_alloc ?_ _)); refine blk_put (cs := #[.int .i64 t266, .slice none 0 0]) ?_ 1 _ rfl; (with_reducible repeat (first | refine blk_drewN ?_ _ | refine blk_drew ?_ | refine blk_alloc ?_ _)); refine blk_put (cs := #[.int .i64 0, .slice none 0 0]) ?_ 0 _ rfl; (with_reducible repeat (first | refine blk_drewN ?_ _ | refine blk_drew ?_ | refine blk_alloc ?_ _)); exact BK265.out) Try.underlying30 rfl (by kernel_rfl)) rfl ?_
 exact ⟨_, by first | rfl | (simp [errW_none, errW_some] <;> rfl) | (simp [*, errW_none, errW_some] <;> rfl), by (with_reducible repeat (first | apply Kd.R_alloc | apply Kd.R_drewN | apply Kd.R_drew)); exact Kd.R_mono (Kd.R_far (p := ⟨gb265, 1, none⟩) (Kd.R_far (p := ⟨gb265, 0, none⟩) (Kd.R_types HO269.out BK265.out (by decide)) (fun _ hk => hk.2) (.int .i64 t266)) (fun _ hk => hk.2) (.slice Ao6 t267.length co6)) (fun _ hk => trivial), by repeat (first | (with_reducible first | exact HB.out | apply below_alloc | apply pw_below_drewN | apply below_drew1 | refine below_set ?_ GE265.out) | exact HB.out)⟩

/-! ### spec_l01In: function 52 -/
def spec_l01In.f (a0 : Int) (a1 : Int) (a2 : Int) : Option (Bool) := if a1 ≤ a0 then (some (decide (a0 ≤ a2))) else (some false)
set_option maxHeartbeats 8000000 in
set_option maxRecDepth 100000 in
theorem spec_l01In.calls (a0 : Int) (a1 : Int) (a2 : Int) (r : Bool) (w : World) (h : spec_l01In.f a0 a1 a2 = some r) :
  Calls Try.prog 52 #[.int .i64 a0, .int .i64 a1, .int .i64 a2] w fun e w' => e = .returned (.bool r) ∧ Drawn0 w w' := by
 have H : (if a1 ≤ a0 then (some (decide (a0 ≤ a2))) else (some false)) = some r := h
 clear h
 by_cases c4 : a1 ≤ a0
 ·rw [if_pos c4] at H
  have c4b0 : decide (a1 ≤ a0) = true := decide_eq_true c4
  clear c4
  obtain rfl := Option.some.inj H
  go_enter Try.func52, Try.ntmps52
  go_wp2
  go_ret
  exact ⟨by first | rfl | (simp; done) | (simp [*]; done), by repeat (first | exact Drawn0.refl _ | apply Drawn0.step)⟩
 rw [if_neg c4] at H
 have c4b0 : decide (a1 ≤ a0) = false := decide_eq_false c4
 clear c4
 obtain rfl := Option.some.inj H
 go_enter Try.func52, Try.ntmps52
 go_wp2
 go_ret
 exact ⟨by first | rfl | (simp; done) | (simp [*]; done), by repeat (first | exact Drawn0.refl _ | apply Drawn0.step)⟩

/-! ### spec_l03Node: function 45 -/
def spec_l03Node.f (a0_0 : Int) (l0_1 : List (S76)) (a1 : Int) : Option (Bool) := (spec_l01In.f a1 0 (wrap64 (a0_0 - 1))).bind fun t271 => (some t271)
set_option maxHeartbeats 8000000 in
set_option maxRecDepth 100000 in
theorem spec_l03Node.calls (a0_0 : Int) (A0_1 : Option Addr) (c0_1 : Nat) (l0_1 : List (S76)) (a1 : Int) (r : Bool) (w : World) (hr0_1 : Kd.C k76 w A0_1 l0_1.length l0_1) (hc0_1 : l0_1.length ≤ c0_1) (h : spec_l03Node.f a0_0 l0_1 a1 = some r) :
  Calls Try.prog 45 #[.agg #[.int .i64 a0_0, .slice A0_1 l0_1.length c0_1], .int .i64 a1] w fun e w' => e = .returned (.bool r) ∧ Below w.heap.size w w' := by
 have hu30 := Try.underlying30
 have HR0_1 := Aside0.mk hr0_1
 have HC0_1 := Aside0.mk hc0_1
 clear hr0_1 hc0_1
 have HB := Aside0.mk (Below.refl w.heap.size w)
 have H : ((spec_l01In.f a1 0 (wrap64 (a0_0 - 1))).bind fun t271 => (some t271)) = some r := h
 clear h
 replace H := Option.bind_eq_some_iff.mp H
 obtain ⟨t271, A30, H⟩ := H
 have A3 := Aside0.mk A30
 clear A30
 obtain rfl := Option.some.inj H
 go_enter Try.func45, Try.ntmps45
 go_wp2_with (first | ((with_reducible refine gate_dst (N := 2) rfl ?_); refine box_event ?hg (N := 2) ?hd (cs := #[.int .i64 a0_0, .slice A0_1 l0_1.length c0_1]) (t := 30) ?hr ?_; (case hd => rfl); (case hg => rfl); (case hr => first | (go_simp; done) | (go_simp; rfl)); intro gb270 hg w4 hbox hb; have BK270 := Aside0.mk hbox; have GW270 := ge_ HB hg; have GE270 := ge_ HB hg; replace HB := Aside0.mk (bt_ HB hb); clear hb hbox hg; have hcz5_0 := cz_ BK270 0 (.int .i64 a0_0); have hcz5_1 := cz_ BK270 1 (.slice A0_1 l0_1.length c0_1); have hfz5_0 := blk_frozen BK270.out 0; have hfz5_1 := blk_frozen BK270.out 1) | ((with_reducible refine gate_callee (f := 52) rfl ?_); refine gl_ (some 9) Try.func52 #[.int .i64 a1, .int .i64 0, .int .i64 (wrap64 (a0_0 - 1))] ?_; (with_reducible refine (spec_l01In.calls a1 0 (wrap64 (a0_0 - 1)) t271 _ A3.out).mono ?_); rintro e w' ⟨rfl, ⟨nd, rfl⟩⟩; refine ⟨_, rfl, ?_⟩))
 go_ret
 exact ⟨by first | rfl | (simp [errW_none, errW_some] <;> rfl) | (simp [*, errW_none, errW_some] <;> rfl), by repeat (first | (with_reducible first | exact HB.out | apply below_alloc | apply pw_below_drewN | apply below_drew1 | refine below_set ?_ GE270.out) | exact HB.out)⟩

end Go.Proofs.Ythmahcohcphljaa.QFnTriangle
