/- Contracts of functions that the law reaches: what each call returns and what it leaves in memory. Made by this session over the print of the kit. -/
import Derived.Test.YtiikcfaodkiakaaQFnExactNewerx0
import Derived.Test.YtiikcfaodkiakaaQFnExactNewerx4
import Derived.Test.YtiikcfaodkiakaaQFnExactNewerx7
namespace Go.Proofs.Ytiikcfaodkiakaa.QFnExactNewer
open Go.RowKit Go.Proofs.YtiikcfaodkiakaaY.PrintWords Go.Proofs.YtiikcfaodkiakaaY.PrintLast Go.Proofs.YtiikcfaodkiakaaY.PrintMore
attribute [local go_sem] max2_int min2_int max_two min_two max_three min_three max_four min_four   -- for this text's walks alone
set_option linter.unusedVariables false
set_option linter.unusedSimpArgs false
def ba8_0 : Array Bool := #[false, false, false, false, false]
def ba8_1 : Array Bool := #[true, false, false, false, false]
def ba8_2 : Array Bool := #[true, false, true, false, false]
def ba8_3 : Array Bool := #[true, true, true, false, false]
def ba8_4 : Array Bool := #[true, true, true, true, false]
def ba8_5 : Array Bool := #[true, true, true, true, true]
def ba8_6 : Array Bool := #[false, false, false, false, false, false, false]
def ba8_7 : Array Bool := #[true, false, false, false, false, false, false]
def ba8_8 : Array Bool := #[true, false, true, false, false, false, false]
def ba8_9 : Array Bool := #[true, true, true, false, false, false, false]
def ba8_10 : Array Bool := #[true, true, true, true, false, false, false]
def ba8_11 : Array Bool := #[true, true, true, true, true, false, false]
def ba8_12 : Array Bool := #[true, true, true, true, true, true, false]
def ba8_13 : Array Bool := #[true, true, true, true, true, true, true]

/-! ### spec_Newer: function 48 -/
mutual
def spec_Newer.j0 : Nat → Bool → Int → Int → Int → List (S70) → List (S74) → Int → Int → Int → List (S70) → List (S74) → Option (Int)
 | 0, _, _, _, _, _, _, _, _, _, _, _ => none
 | k + 1, x19, x262000, x262001, x262002, x262003, x262004, x263000, x263001, x263002, x263003, x263004 => if x19 = true then (some (-2)) else (if x262001 = x263001 then ((spec_LsaSum.f k x262000 x262001 x262002 x262003 x262004).bind fun t266 => ((spec_LsaSum.f k x263000 x263001 x263002 x263003 x263004).bind fun t267 => (if t266 = t267 then (if x262002 = x263002 then (some 0) else (if x262002 = 60 then (spec_Newer.j1 k true x262000 x262001 x262002 x262003 x262004 x263000 x263001 x263002 x263003 x263004) else (spec_Newer.j1 k (x263002 == 60) x262000 x262001 x262002 x262003 x262004 x263000 x263001 x263002 x263003 x263004))) else ((spec_LsaSum.f k x262000 x262001 x262002 x262003 x262004).bind fun t268 => ((spec_LsaSum.f k x263000 x263001 x263002 x263003 x263004).bind fun t269 => ((spec_l05Sign.f (wrap64 (t268 - t269))).bind fun t270 => (some t270))))))) else ((spec_l05Sign.f (wrap64 (x262001 - x263001))).bind fun t265 => (some t265)))
def spec_Newer.j1 : Nat → Bool → Int → Int → Int → List (S70) → List (S74) → Int → Int → Int → List (S70) → List (S74) → Option (Int)
 | 0, _, _, _, _, _, _, _, _, _, _, _ => none
 | k + 1, x54, x262000, x262001, x262002, x262003, x262004, x263000, x263001, x263002, x263003, x263004 => if x54 = true then ((spec_l05Sign.f (wrap64 (x262002 - x263002))).bind fun t271 => (some t271)) else (if (wrap64 (x262002 - x263002)) > 10 then ((spec_l05Sign.f (wrap64 (x263002 - x262002))).bind fun t272 => (some t272)) else (if (wrap64 (x263002 - x262002)) > 10 then ((spec_l05Sign.f (wrap64 (x263002 - x262002))).bind fun t273 => (some t273)) else (some 0)))
end
def spec_Newer.f (k : Nat) (a0_0 : Int) (a0_1 : Int) (a0_2 : Int) (l0_3 : List (S70)) (l0_4 : List (S74)) (a1_0 : Int) (a1_1 : Int) (a1_2 : Int) (l1_3 : List (S70)) (l1_4 : List (S74)) : Option (Int) := (spec_LsaOk.f k a0_0 a0_1 a0_2 l0_3 l0_4).bind fun t263 => (if t263 = true then ((spec_LsaOk.f k a1_0 a1_1 a1_2 l1_3 l1_4).bind fun t264 => (if t264 = true then (spec_Newer.j0 k (a0_0 != a1_0) a0_0 a0_1 a0_2 l0_3 l0_4 a1_0 a1_1 a1_2 l1_3 l1_4) else (spec_Newer.j0 k true a0_0 a0_1 a0_2 l0_3 l0_4 a1_0 a1_1 a1_2 l1_3 l1_4))) else (spec_Newer.j0 k true a0_0 a0_1 a0_2 l0_3 l0_4 a1_0 a1_1 a1_2 l1_3 l1_4))
theorem spec_Newer.mono_l : ∀ k, (∀ y0 y1 y2 y3 y4 y5 y6 y7 y8 y9 y10, LeO (spec_Newer.j0 k y0 y1 y2 y3 y4 y5 y6 y7 y8 y9 y10) (spec_Newer.j0 (k + 1) y0 y1 y2 y3 y4 y5 y6 y7 y8 y9 y10)) ∧ (∀ y0 y1 y2 y3 y4 y5 y6 y7 y8 y9 y10, LeO (spec_Newer.j1 k y0 y1 y2 y3 y4 y5 y6 y7 y8 y9 y10) (spec_Newer.j1 (k + 1) y0 y1 y2 y3 y4 y5 y6 y7 y8 y9 y10))
 | 0 => ⟨fun _ _ _ _ _ _ _ _ _ _ _ r h => by simp [spec_Newer.j0] at h, fun _ _ _ _ _ _ _ _ _ _ _ r h => by simp [spec_Newer.j1] at h⟩
 | k + 1 => by
  obtain ⟨ih0, ih1⟩ := spec_Newer.mono_l k
  refine ⟨?_, ?_⟩
  ·intro y0 y1 y2 y3 y4 y5 y6 y7 y8 y9 y10
   unfold spec_Newer.j0
   repeat' first
   | (with_reducible exact ih0 _ _ _ _ _ _ _ _ _ _ _)
   | (with_reducible exact ih1 _ _ _ _ _ _ _ _ _ _ _)
   | (with_reducible exact spec_LsaOk.mono _ _ _ _ _ _)
   | (with_reducible exact spec_LsaSum.mono _ _ _ _ _ _)
   | (with_reducible exact LeO.refl _)
   | (with_reducible exact LeO.none _)
   | (with_reducible refine LeO.ite ?_ ?_)
   | (with_reducible refine LeO.bind ?_ (fun _ => ?_))
   | exact ih0 _ _ _ _ _ _ _ _ _ _ _
   | exact ih1 _ _ _ _ _ _ _ _ _ _ _
   | exact spec_LsaOk.mono _ _ _ _ _ _
   | exact spec_LsaSum.mono _ _ _ _ _ _
   | exact LeO.none _
   | refine LeO.ite ?_ ?_
   | refine LeO.bind ?_ (fun _ => ?_)
  ·intro y0 y1 y2 y3 y4 y5 y6 y7 y8 y9 y10
   unfold spec_Newer.j1
   repeat' first
   | (with_reducible exact ih0 _ _ _ _ _ _ _ _ _ _ _)
   | (with_reducible exact ih1 _ _ _ _ _ _ _ _ _ _ _)
   | (with_reducible exact spec_LsaOk.mono _ _ _ _ _ _)
   | (with_reducible exact spec_LsaSum.mono _ _ _ _ _ _)
   | (with_reducible exact LeO.refl _)
   | (with_reducible exact LeO.none _)
   | (with_reducible refine LeO.ite ?_ ?_)
   | (with_reducible refine LeO.bind ?_ (fun _ => ?_))
   | exact ih0 _ _ _ _ _ _ _ _ _ _ _
   | exact ih1 _ _ _ _ _ _ _ _ _ _ _
   | exact spec_LsaOk.mono _ _ _ _ _ _
   | exact spec_LsaSum.mono _ _ _ _ _ _
   | exact LeO.none _
   | refine LeO.ite ?_ ?_
   | refine LeO.bind ?_ (fun _ => ?_)
theorem spec_Newer.mono : ∀ a0 a1 a2 a3 a4 a5 a6 a7 a8 a9 k, LeO (spec_Newer.f k a0 a1 a2 a3 a4 a5 a6 a7 a8 a9) (spec_Newer.f (k + 1) a0 a1 a2 a3 a4 a5 a6 a7 a8 a9) := by
 intro a0 a1 a2 a3 a4 a5 a6 a7 a8 a9 k
 obtain ⟨ih0, ih1⟩ := spec_Newer.mono_l k
 unfold spec_Newer.f
 repeat' first
   | (with_reducible exact ih0 _ _ _ _ _ _ _ _ _ _ _)
   | (with_reducible exact ih1 _ _ _ _ _ _ _ _ _ _ _)
   | (with_reducible exact spec_LsaOk.mono _ _ _ _ _ _)
   | (with_reducible exact spec_LsaSum.mono _ _ _ _ _ _)
   | (with_reducible exact LeO.refl _)
   | (with_reducible exact LeO.none _)
   | (with_reducible refine LeO.ite ?_ ?_)
   | (with_reducible refine LeO.bind ?_ (fun _ => ?_))
   | exact ih0 _ _ _ _ _ _ _ _ _ _ _
   | exact ih1 _ _ _ _ _ _ _ _ _ _ _
   | exact spec_LsaOk.mono _ _ _ _ _ _
   | exact spec_LsaSum.mono _ _ _ _ _ _
   | exact LeO.none _
   | refine LeO.ite ?_ ?_
   | refine LeO.bind ?_ (fun _ => ?_)
set_option maxHeartbeats 8000000 in
set_option maxRecDepth 100000 in
theorem spec_Newer.calls (k : Nat) (a0_0 : Int) (a0_1 : Int) (a0_2 : Int) (A0_3 : Option Addr) (c0_3 : Nat) (l0_3 : List (S70)) (A0_4 : Option Addr) (c0_4 : Nat) (l0_4 : List (S74)) (a1_0 : Int) (a1_1 : Int) (a1_2 : Int) (A1_3 : Option Addr) (c1_3 : Nat) (l1_3 : List (S70)) (A1_4 : Option Addr) (c1_4 : Nat) (l1_4 : List (S74)) (r : Int) (w : World) (hr0_3 : Kd.C k70 w A0_3 l0_3.length l0_3) (hc0_3 : l0_3.length ≤ c0_3) (hr0_4 : Kd.C k74 w A0_4 l0_4.length l0_4) (hc0_4 : l0_4.length ≤ c0_4) (hr1_3 : Kd.C k70 w A1_3 l1_3.length l1_3) (hc1_3 : l1_3.length ≤ c1_3) (hr1_4 : Kd.C k74 w A1_4 l1_4.length l1_4) (hc1_4 : l1_4.length ≤ c1_4) (h : spec_Newer.f k a0_0 a0_1 a0_2 l0_3 l0_4 a1_0 a1_1 a1_2 l1_3 l1_4 = some r) :
  Calls Try.prog 48 #[.agg #[.int .i64 a0_0, .int .i64 a0_1, .int .i64 a0_2, .slice A0_3 l0_3.length c0_3, .slice A0_4 l0_4.length c0_4], .agg #[.int .i64 a1_0, .int .i64 a1_1, .int .i64 a1_2, .slice A1_3 l1_3.length c1_3, .slice A1_4 l1_4.length c1_4]] w fun e w' => e = .returned (.int .i64 r) ∧ Below w.heap.size w w' := by
 have hu31 := Try.underlying31
 have HR0_3 := Aside0.mk hr0_3
 have HC0_3 := Aside0.mk hc0_3
 clear hr0_3 hc0_3
 have HR0_4 := Aside0.mk hr0_4
 have HC0_4 := Aside0.mk hc0_4
 clear hr0_4 hc0_4
 have HR1_3 := Aside0.mk hr1_3
 have HC1_3 := Aside0.mk hc1_3
 clear hr1_3 hc1_3
 have HR1_4 := Aside0.mk hr1_4
 have HC1_4 := Aside0.mk hc1_4
 clear hr1_4 hc1_4
 have HB := Aside0.mk (Below.refl w.heap.size w)
 have H : ((spec_LsaOk.f k a0_0 a0_1 a0_2 l0_3 l0_4).bind fun t263 => (if t263 = true then ((spec_LsaOk.f k a1_0 a1_1 a1_2 l1_3 l1_4).bind fun t264 => (if t264 = true then (spec_Newer.j0 k (a0_0 != a1_0) a0_0 a0_1 a0_2 l0_3 l0_4 a1_0 a1_1 a1_2 l1_3 l1_4) else (spec_Newer.j0 k true a0_0 a0_1 a0_2 l0_3 l0_4 a1_0 a1_1 a1_2 l1_3 l1_4))) else (spec_Newer.j0 k true a0_0 a0_1 a0_2 l0_3 l0_4 a1_0 a1_1 a1_2 l1_3 l1_4))) = some r := h
 clear h
 have HC3 := Aside0.mk H
 clear H
 go_enter Try.func48, Try.ntmps48
 go_upto_region 1 with (first | ((with_reducible refine gate_dst (N := 2) rfl ?_); refine box_event ?hg (N := 2) ?hd (cs := #[.int .i64 a0_0, .int .i64 a0_1, .int .i64 a0_2, .slice A0_3 l0_3.length c0_3, .slice A0_4 l0_4.length c0_4]) (t := 31) ?hr ?_; (case hd => rfl); (case hg => rfl); (case hr => first | (go_simp; done) | (go_simp; rfl)); intro gb261 hg w4 hbox hb; have BK261 := Aside0.mk hbox; have GW261 := ge_ HB hg; have GE261 := ge_ HB hg; replace HB := Aside0.mk (bt_ HB hb); clear hb hbox hg) | ((with_reducible refine gate_dst (N := 3) rfl ?_); refine box_event ?hg (N := 3) ?hd (cs := #[.int .i64 a1_0, .int .i64 a1_1, .int .i64 a1_2, .slice A1_3 l1_3.length c1_3, .slice A1_4 l1_4.length c1_4]) (t := 31) ?hr ?_; (case hd => rfl); (case hg => rfl); (case hr => first | (go_simp; done) | (go_simp; rfl)); intro gb262 hg w5 hbox hb; have BK262 := Aside0.mk hbox; have GW262 := ge_ HB hg; have GE262 := ge_ HB hg; have NB261_262 := nl_ BK261 hg; have NB262_261 := ng_ BK261 hg; replace HB := Aside0.mk (bt_ HB hb); replace BK261 := Aside0.mk (bb_ BK261 hb); clear hb hbox hg))
 (try simp only [Act.put, List.setIfInBounds_toArray, List.set_cons_zero, List.set_cons_succ])
 go_cut [19] (fun v19 wc => ∃ (kq : Nat) (x19_2 : Bool), v19 = .bool x19_2 ∧ Aside0 (spec_Newer.j0 kq x19_2 a0_0 a0_1 a0_2 l0_3 l0_4 a1_0 a1_1 a1_2 l1_3 l1_4 = some r) ∧ Aside0 (kq ≤ k) ∧ Aside0 (wc.heap[gb261]? = some (.cells #[.int .i64 a0_0, .int .i64 a0_1, .int .i64 a0_2, (.slice A0_3 l0_3.length c0_3), (.slice A0_4 l0_4.length c0_4)] 31 (0, 0))) ∧ Aside0 (wc.heap[gb262]? = some (.cells #[.int .i64 a1_0, .int .i64 a1_1, .int .i64 a1_2, (.slice A1_3 l1_3.length c1_3), (.slice A1_4 l1_4.length c1_4)] 31 (0, 0))) ∧ Aside0 (Below w.heap.size w wc))
 case first =>
  have H := HC3.out
  clear HC3
  replace H := Option.bind_eq_some_iff.mp H
  obtain ⟨t263, A60, H⟩ := H
  have A6 := Aside0.mk A60
  clear A60
  by_cases c7 : t263 = true
  ·subst c7
   rw [if_pos rfl] at H
   replace H := Option.bind_eq_some_iff.mp H
   obtain ⟨t264, A80, H⟩ := H
   have A8 := Aside0.mk A80
   clear A80
   by_cases c9 : t264 = true
   ·subst c9
    rw [if_pos rfl] at H
    have H' := Aside0.mk H
    clear H
    have hnb10 := NB261_262.out
    have hnc10 := NB262_261.out
    have hcz11_0 := cz_ BK261 0 (.int .i64 a0_0)
    have hcz11_1 := cz_ BK261 1 (.int .i64 a0_1)
    have hcz11_2 := cz_ BK261 2 (.int .i64 a0_2)
    have hcz11_3 := cz_ BK261 3 (.slice A0_3 l0_3.length c0_3)
    have hcz11_4 := cz_ BK261 4 (.slice A0_4 l0_4.length c0_4)
    have hfz11_0 := blk_frozen BK261.out 0
    have hfz11_1 := blk_frozen BK261.out 1
    have hfz11_2 := blk_frozen BK261.out 2
    have hfz11_3 := blk_frozen BK261.out 3
    have hfz11_4 := blk_frozen BK261.out 4
    go_wp2_with (first | ((with_reducible refine gate_callee (f := 14) rfl ?_); refine gl_ (some 6) Try.func14 #[.agg #[.int .i64 a0_0, .int .i64 a0_1, .int .i64 a0_2, .slice A0_3 l0_3.length c0_3, .slice A0_4 l0_4.length c0_4]] ?_; (with_reducible refine (spec_LsaOk.calls k a0_0 a0_1 a0_2 _ _ l0_3 _ _ l0_4 true _ ?side1 ?side2 ?side3 ?side4 A6.out).mono ?_); (case side1 => exact cb_ HR0_3 HB); (case side2 => exact HC0_3.out); (case side3 => exact cb_ HR0_4 HB); (case side4 => exact HC0_4.out); rintro e w12 ⟨rfl, hb⟩; refine ⟨_, rfl, ?_⟩; replace BK261 := Aside0.mk (bb_ BK261 hb); replace BK262 := Aside0.mk (bb_ BK262 hb); replace HB := Aside0.mk (bt_ HB hb); (try clear hb); (try clear hb2); (try clear hk); (try clear hi); have hcz13_0 := cz_ BK262 0 (.int .i64 a1_0); have hcz13_1 := cz_ BK262 1 (.int .i64 a1_1); have hcz13_2 := cz_ BK262 2 (.int .i64 a1_2); have hcz13_3 := cz_ BK262 3 (.slice A1_3 l1_3.length c1_3); have hcz13_4 := cz_ BK262 4 (.slice A1_4 l1_4.length c1_4); have hfz13_0 := blk_frozen BK262.out 0; have hfz13_1 := blk_frozen BK262.out 1; have hfz13_2 := blk_frozen BK262.out 2; have hfz13_3 := blk_frozen BK262.out 3; have hfz13_4 := blk_frozen BK262.out 4) | (go_at_call 14; (with_reducible refine (spec_LsaOk.calls k a1_0 a1_1 a1_2 _ _ l1_3 _ _ l1_4 true _ ?side1 ?side2 ?side3 ?side4 A8.out).mono ?_); (case side1 => exact cb_ HR1_3 HB); (case side2 => exact HC1_3.out); (case side3 => exact cb_ HR1_4 HB); (case side4 => exact HC1_4.out); rintro e w14 ⟨rfl, hb⟩; replace BK261 := Aside0.mk (bb_ BK261 hb); replace BK262 := Aside0.mk (bb_ BK262 hb); replace HB := Aside0.mk (bt_ HB hb); (try clear hb); (try clear hb2); (try clear hk); (try clear hi); have hcz15_0 := cz_ BK261 0 (.int .i64 a0_0); have hcz15_1 := cz_ BK261 1 (.int .i64 a0_1); have hcz15_2 := cz_ BK261 2 (.int .i64 a0_2); have hcz15_3 := cz_ BK261 3 (.slice A0_3 l0_3.length c0_3); have hcz15_4 := cz_ BK261 4 (.slice A0_4 l0_4.length c0_4); have hfz15_0 := blk_frozen BK261.out 0; have hfz15_1 := blk_frozen BK261.out 1; have hfz15_2 := blk_frozen BK261.out 2; have hfz15_3 := blk_frozen BK261.out 3; have hfz15_4 := blk_frozen BK261.out 4; have hcz16_0 := cz_ BK262 0 (.int .i64 a1_0); have hcz16_1 := cz_ BK262 1 (.int .i64 a1_1); have hcz16_2 := cz_ BK262 2 (.int .i64 a1_2); have hcz16_3 := cz_ BK262 3 (.slice A1_3 l1_3.length c1_3); have hcz16_4 := cz_ BK262 4 (.slice A1_4 l1_4.length c1_4); have hfz16_0 := blk_frozen BK262.out 0; have hfz16_1 := blk_frozen BK262.out 1; have hfz16_2 := blk_frozen BK262.out 2; have hfz16_3 := blk_frozen BK262.out 3; have hfz16_4 := blk_frozen BK262.out 4))
    go_meet
    case rel => exact ⟨_, ((a0_0 != a1_0)), (by first | rfl | (simp; done) | (simp [*]; done)), H', ⟨by first | omega | exact Nat.le_refl _⟩, ⟨by (with_reducible repeat (first | refine blk_drewN ?_ _ | refine blk_drew ?_ | refine blk_alloc ?_ _)); exact BK261.out⟩, ⟨by (with_reducible repeat (first | refine blk_drewN ?_ _ | refine blk_drew ?_ | refine blk_alloc ?_ _)); exact BK262.out⟩, ⟨by repeat (first | (with_reducible first | exact HB.out | apply below_alloc | apply pw_below_drewN | apply below_drew1 | refine below_set ?_ GE261.out | refine below_set ?_ GE262.out) | exact HB.out)⟩⟩
   ·replace c9 := Bool.eq_false_iff.mpr c9
    subst c9
    rw [if_neg (show ¬ (false = true) by decide)] at H
    have H' := Aside0.mk H
    clear H
    have hnb17 := NB261_262.out
    have hnc17 := NB262_261.out
    have hcz18_0 := cz_ BK261 0 (.int .i64 a0_0)
    have hcz18_1 := cz_ BK261 1 (.int .i64 a0_1)
    have hcz18_2 := cz_ BK261 2 (.int .i64 a0_2)
    have hcz18_3 := cz_ BK261 3 (.slice A0_3 l0_3.length c0_3)
    have hcz18_4 := cz_ BK261 4 (.slice A0_4 l0_4.length c0_4)
    have hfz18_0 := blk_frozen BK261.out 0
    have hfz18_1 := blk_frozen BK261.out 1
    have hfz18_2 := blk_frozen BK261.out 2
    have hfz18_3 := blk_frozen BK261.out 3
    have hfz18_4 := blk_frozen BK261.out 4
    go_wp2_with (first | ((with_reducible refine gate_callee (f := 14) rfl ?_); refine gl_ (some 6) Try.func14 #[.agg #[.int .i64 a0_0, .int .i64 a0_1, .int .i64 a0_2, .slice A0_3 l0_3.length c0_3, .slice A0_4 l0_4.length c0_4]] ?_; (with_reducible refine (spec_LsaOk.calls k a0_0 a0_1 a0_2 _ _ l0_3 _ _ l0_4 true _ ?side1 ?side2 ?side3 ?side4 A6.out).mono ?_); (case side1 => exact cb_ HR0_3 HB); (case side2 => exact HC0_3.out); (case side3 => exact cb_ HR0_4 HB); (case side4 => exact HC0_4.out); rintro e w19 ⟨rfl, hb⟩; refine ⟨_, rfl, ?_⟩; replace BK261 := Aside0.mk (bb_ BK261 hb); replace BK262 := Aside0.mk (bb_ BK262 hb); replace HB := Aside0.mk (bt_ HB hb); (try clear hb); (try clear hb2); (try clear hk); (try clear hi); have hcz20_0 := cz_ BK262 0 (.int .i64 a1_0); have hcz20_1 := cz_ BK262 1 (.int .i64 a1_1); have hcz20_2 := cz_ BK262 2 (.int .i64 a1_2); have hcz20_3 := cz_ BK262 3 (.slice A1_3 l1_3.length c1_3); have hcz20_4 := cz_ BK262 4 (.slice A1_4 l1_4.length c1_4); have hfz20_0 := blk_frozen BK262.out 0; have hfz20_1 := blk_frozen BK262.out 1; have hfz20_2 := blk_frozen BK262.out 2; have hfz20_3 := blk_frozen BK262.out 3; have hfz20_4 := blk_frozen BK262.out 4) | (go_at_call 14; (with_reducible refine (spec_LsaOk.calls k a1_0 a1_1 a1_2 _ _ l1_3 _ _ l1_4 false _ ?side1 ?side2 ?side3 ?side4 A8.out).mono ?_); (case side1 => exact cb_ HR1_3 HB); (case side2 => exact HC1_3.out); (case side3 => exact cb_ HR1_4 HB); (case side4 => exact HC1_4.out); rintro e w21 ⟨rfl, hb⟩; replace BK261 := Aside0.mk (bb_ BK261 hb); replace BK262 := Aside0.mk (bb_ BK262 hb); replace HB := Aside0.mk (bt_ HB hb); (try clear hb); (try clear hb2); (try clear hk); (try clear hi)))
    go_meet
    case rel => exact ⟨_, (true), (by first | rfl | (simp; done) | (simp [*]; done)), H', ⟨by first | omega | exact Nat.le_refl _⟩, ⟨by (with_reducible repeat (first | refine blk_drewN ?_ _ | refine blk_drew ?_ | refine blk_alloc ?_ _)); exact BK261.out⟩, ⟨by (with_reducible repeat (first | refine blk_drewN ?_ _ | refine blk_drew ?_ | refine blk_alloc ?_ _)); exact BK262.out⟩, ⟨by repeat (first | (with_reducible first | exact HB.out | apply below_alloc | apply pw_below_drewN | apply below_drew1 | refine below_set ?_ GE261.out | refine below_set ?_ GE262.out) | exact HB.out)⟩⟩
  ·replace c7 := Bool.eq_false_iff.mpr c7
   subst c7
   rw [if_neg (show ¬ (false = true) by decide)] at H
   have H' := Aside0.mk H
   clear H
   have hnb22 := NB261_262.out
   have hnc22 := NB262_261.out
   have hcz23_0 := cz_ BK261 0 (.int .i64 a0_0)
   have hcz23_1 := cz_ BK261 1 (.int .i64 a0_1)
   have hcz23_2 := cz_ BK261 2 (.int .i64 a0_2)
   have hcz23_3 := cz_ BK261 3 (.slice A0_3 l0_3.length c0_3)
   have hcz23_4 := cz_ BK261 4 (.slice A0_4 l0_4.length c0_4)
   have hfz23_0 := blk_frozen BK261.out 0
   have hfz23_1 := blk_frozen BK261.out 1
   have hfz23_2 := blk_frozen BK261.out 2
   have hfz23_3 := blk_frozen BK261.out 3
   have hfz23_4 := blk_frozen BK261.out 4
   go_wp2_with (first | ((with_reducible refine gate_callee (f := 14) rfl ?_); refine gl_ (some 6) Try.func14 #[.agg #[.int .i64 a0_0, .int .i64 a0_1, .int .i64 a0_2, .slice A0_3 l0_3.length c0_3, .slice A0_4 l0_4.length c0_4]] ?_; (with_reducible refine (spec_LsaOk.calls k a0_0 a0_1 a0_2 _ _ l0_3 _ _ l0_4 false _ ?side1 ?side2 ?side3 ?side4 A6.out).mono ?_); (case side1 => exact cb_ HR0_3 HB); (case side2 => exact HC0_3.out); (case side3 => exact cb_ HR0_4 HB); (case side4 => exact HC0_4.out); rintro e w24 ⟨rfl, hb⟩; refine ⟨_, rfl, ?_⟩; replace BK261 := Aside0.mk (bb_ BK261 hb); replace BK262 := Aside0.mk (bb_ BK262 hb); replace HB := Aside0.mk (bt_ HB hb); (try clear hb); (try clear hb2); (try clear hk); (try clear hi)))
   go_meet
   case rel => exact ⟨_, (true), (by first | rfl | (simp; done) | (simp [*]; done)), H', ⟨by first | omega | exact Nat.le_refl _⟩, ⟨by (with_reducible repeat (first | refine blk_drewN ?_ _ | refine blk_drew ?_ | refine blk_alloc ?_ _)); exact BK261.out⟩, ⟨by (with_reducible repeat (first | refine blk_drewN ?_ _ | refine blk_drew ?_ | refine blk_alloc ?_ _)); exact BK262.out⟩, ⟨by repeat (first | (with_reducible first | exact HB.out | apply below_alloc | apply pw_below_drewN | apply below_drew1 | refine below_set ?_ GE261.out | refine below_set ?_ GE262.out) | exact HB.out)⟩⟩
 case rest =>
  clear HC3
  try clear c1
  try clear c2
  try clear p2
  try clear c4
  try clear c7
  try clear c9
  try clear c10
  try clear c14
  try clear c17
  try clear c22
  try clear hcz11_0
  try clear hcz11_1
  try clear hcz11_2
  try clear hcz11_3
  try clear hcz11_4
  try clear hcz13_0
  try clear hcz13_1
  try clear hcz13_2
  try clear hcz13_3
  try clear hcz13_4
  try clear hcz15_0
  try clear hcz15_1
  try clear hcz15_2
  try clear hcz15_3
  try clear hcz15_4
  try clear hcz16_0
  try clear hcz16_1
  try clear hcz16_2
  try clear hcz16_3
  try clear hcz16_4
  try clear hcz18_0
  try clear hcz18_1
  try clear hcz18_2
  try clear hcz18_3
  try clear hcz18_4
  try clear hcz20_0
  try clear hcz20_1
  try clear hcz20_2
  try clear hcz20_3
  try clear hcz20_4
  try clear hcz23_0
  try clear hcz23_1
  try clear hcz23_2
  try clear hcz23_3
  try clear hcz23_4
  try clear hfz11_0
  try clear hfz11_1
  try clear hfz11_2
  try clear hfz11_3
  try clear hfz11_4
  try clear hfz13_0
  try clear hfz13_1
  try clear hfz13_2
  try clear hfz13_3
  try clear hfz13_4
  try clear hfz15_0
  try clear hfz15_1
  try clear hfz15_2
  try clear hfz15_3
  try clear hfz15_4
  try clear hfz16_0
  try clear hfz16_1
  try clear hfz16_2
  try clear hfz16_3
  try clear hfz16_4
  try clear hfz18_0
  try clear hfz18_1
  try clear hfz18_2
  try clear hfz18_3
  try clear hfz18_4
  try clear hfz20_0
  try clear hfz20_1
  try clear hfz20_2
  try clear hfz20_3
  try clear hfz20_4
  try clear hfz23_0
  try clear hfz23_1
  try clear hfz23_2
  try clear hfz23_3
  try clear hfz23_4
  obtain ⟨kq, x19_2, rfl, HA, HJ2, BK261, BK262, HB⟩ := hcut
  cases kq with
  | zero => exact absurd HA.out (by simp [spec_Newer.j0])
  | succ kj2 =>
   have H := HA.out
   clear HA
   simp only [spec_Newer.j0] at H
   by_cases c25 : x19_2 = true
   ·subst c25
    rw [if_pos rfl] at H
    obtain rfl := Option.some.inj H
    go_wp2
    go_ret
    exact ⟨by first | rfl | (simp [errW_none, errW_some] <;> rfl) | (simp [*, errW_none, errW_some] <;> rfl), by repeat (first | (with_reducible first | exact HB.out | apply below_alloc | apply pw_below_drewN | apply below_drew1 | refine below_set ?_ GE261.out | refine below_set ?_ GE262.out) | exact HB.out)⟩
   ·replace c25 := Bool.eq_false_iff.mpr c25
    subst c25
    rw [if_neg (show ¬ (false = true) by decide)] at H
    by_cases c26 : a0_1 = a1_1
    ·rw [if_pos c26] at H
     have c26b0 : (a0_1 == a1_1) = true := beq_iff_eq.mpr c26
     have c26b1 : (a0_1 != a1_1) = false := bne_eq_false_iff_eq.mpr c26
     clear c26
     replace H := Option.bind_eq_some_iff.mp H
     obtain ⟨t266, A270, H⟩ := H
     have A27 := Aside0.mk A270
     clear A270
     replace H := Option.bind_eq_some_iff.mp H
     obtain ⟨t267, A280, H⟩ := H
     have A28 := Aside0.mk A280
     clear A280
     by_cases c29 : t266 = t267
     ·rw [if_pos c29] at H
      have c29b0 : (t266 == t267) = true := beq_iff_eq.mpr c29
      have c29b1 : (t266 != t267) = false := bne_eq_false_iff_eq.mpr c29
      clear c29
      by_cases c30 : a0_2 = a1_2
      ·rw [if_pos c30] at H
       have c30b0 : (a0_2 == a1_2) = true := beq_iff_eq.mpr c30
       have c30b1 : (a0_2 != a1_2) = false := bne_eq_false_iff_eq.mpr c30
       clear c30
       obtain rfl := Option.some.inj H
       have hnb31 := NB261_262.out
       have hnc31 := NB262_261.out
       have hcz32_0 := cz_ BK261 0 (.int .i64 a0_0)
       have hcz32_1 := cz_ BK261 1 (.int .i64 a0_1)
       have hcz32_2 := cz_ BK261 2 (.int .i64 a0_2)
       have hcz32_3 := cz_ BK261 3 (.slice A0_3 l0_3.length c0_3)
       have hcz32_4 := cz_ BK261 4 (.slice A0_4 l0_4.length c0_4)
       have hfz32_0 := blk_frozen BK261.out 0
       have hfz32_1 := blk_frozen BK261.out 1
       have hfz32_2 := blk_frozen BK261.out 2
       have hfz32_3 := blk_frozen BK261.out 3
       have hfz32_4 := blk_frozen BK261.out 4
       have hcz33_0 := cz_ BK262 0 (.int .i64 a1_0)
       have hcz33_1 := cz_ BK262 1 (.int .i64 a1_1)
       have hcz33_2 := cz_ BK262 2 (.int .i64 a1_2)
       have hcz33_3 := cz_ BK262 3 (.slice A1_3 l1_3.length c1_3)
       have hcz33_4 := cz_ BK262 4 (.slice A1_4 l1_4.length c1_4)
       have hfz33_0 := blk_frozen BK262.out 0
       have hfz33_1 := blk_frozen BK262.out 1
       have hfz33_2 := blk_frozen BK262.out 2
       have hfz33_3 := blk_frozen BK262.out 3
       have hfz33_4 := blk_frozen BK262.out 4
       try go_wp2
       replace BK261 := Aside0.mk (blk_drew BK261.out)
       replace BK262 := Aside0.mk (blk_drew BK262.out)
       replace HB := Aside0.mk (below_drew1 HB.out)
       refine start_ (n := 5) (S := fun w' => w'.cell? ⟨gb261, 0, none⟩ = some (.int .i64 a0_0) ∧ w'.cell? ⟨gb261, 1, none⟩ = some (.int .i64 a0_1) ∧ w'.cell? ⟨gb261, 2, none⟩ = some (.int .i64 a0_2) ∧ w'.cell? ⟨gb261, 3, none⟩ = some (.slice A0_3 l0_3.length c0_3) ∧ w'.cell? ⟨gb261, 4, none⟩ = some (.slice A0_4 l0_4.length c0_4) ∧ w'.cell? ⟨gb262, 0, none⟩ = some (.int .i64 a1_0) ∧ w'.cell? ⟨gb262, 1, none⟩ = some (.int .i64 a1_1) ∧ w'.cell? ⟨gb262, 2, none⟩ = some (.int .i64 a1_2) ∧ w'.cell? ⟨gb262, 3, none⟩ = some (.slice A1_3 l1_3.length c1_3) ∧ w'.cell? ⟨gb262, 4, none⟩ = some (.slice A1_4 l1_4.length c1_4)) (ds := []) ba8_0 (by kernel_rfl) rfl rfl ⟨(blk_cell BK261.out 0).trans rfl, (blk_cell BK261.out 1).trans rfl, (blk_cell BK261.out 2).trans rfl, (blk_cell BK261.out 3).trans rfl, (blk_cell BK261.out 4).trans rfl, (blk_cell BK262.out 0).trans rfl, (blk_cell BK262.out 1).trans rfl, (blk_cell BK262.out 2).trans rfl, (blk_cell BK262.out 3).trans rfl, (blk_cell BK262.out 4).trans rfl⟩ (fun hHeld => ?_)
       generalize wc.drew = w34 at BK261 BK262 HB hHeld ⊢
       refine take_ (i := 0) (N := some 31) (v := ?_) (a' := ?_) ba8_1 rfl rfl (by kernel_rfl) (fun _ _ _ h => h) (Or.inl ⟨by rfl, ?_⟩) hHeld ?_ ?_
       rotate_left; · rintro w' ⟨s0, s1, s2, s3, s4, s5, s6, s7, s8, s9⟩; go_simp; with_reducible rfl
       rotate_left; · simp only [Act.put, List.setIfInBounds_toArray, List.set_cons_zero, List.set_cons_succ, i64_w, i32_w]; rfl
       refine take_ (i := 2) (N := some 33) (v := ?_) (a' := ?_) ba8_2 rfl rfl (by kernel_rfl) (fun _ _ _ h => h) (Or.inl ⟨by rfl, ?_⟩) hHeld ?_ ?_
       rotate_left; · rintro w' ⟨s0, s1, s2, s3, s4, s5, s6, s7, s8, s9⟩; go_simp; with_reducible rfl
       rotate_left; · simp only [Act.put, List.setIfInBounds_toArray, List.set_cons_zero, List.set_cons_succ, i64_w, i32_w]; rfl
       refine one_ (i := 1) (N := some 32) ba8_3 rfl rfl (by kernel_rfl) (by decide) (fun K hK => ?_)
       refine gz_ Try.func25 #[.agg #[.int .i64 a0_0, .int .i64 a0_1, .int .i64 a0_2, .slice A0_3 l0_3.length c0_3, .slice A0_4 l0_4.length c0_4]] ?_
       with_reducible refine (spec_LsaSum.calls kj2 a0_0 a0_1 a0_2 _ _ l0_3 _ _ l0_4 t266 _ ?side1 ?side2 ?side3 ?side4 A27.out).mono ?_
       (case side1 => exact cb_ HR0_3 HB)
       (case side2 => exact HC0_3.out)
       (case side3 => exact cb_ HR0_4 HB)
       (case side4 => exact HC0_4.out)
       rintro e w35 ⟨rfl, hb⟩
       refine ⟨_, rfl, ?_⟩
       replace BK261 := Aside0.mk (bb_ BK261 hb)
       replace BK262 := Aside0.mk (bb_ BK262 hb)
       replace HB := Aside0.mk (bt_ HB hb)
       (try clear hb)
       (try clear hb2)
       (try clear hk)
       (try clear hi)
       refine hK.out _ _ ⟨(blk_cell BK261.out 0).trans rfl, (blk_cell BK261.out 1).trans rfl, (blk_cell BK261.out 2).trans rfl, (blk_cell BK261.out 3).trans rfl, (blk_cell BK261.out 4).trans rfl, (blk_cell BK262.out 0).trans rfl, (blk_cell BK262.out 1).trans rfl, (blk_cell BK262.out 2).trans rfl, (blk_cell BK262.out 3).trans rfl, (blk_cell BK262.out 4).trans rfl⟩ (fun hHeld => ?_)
       clear hK K
       refine nz_ 32 ?_
       refine one_ (i := 3) (N := some 34) ba8_4 rfl rfl (by kernel_rfl) (by decide) (fun K hK => ?_)
       refine gz_ Try.func25 #[.agg #[.int .i64 a1_0, .int .i64 a1_1, .int .i64 a1_2, .slice A1_3 l1_3.length c1_3, .slice A1_4 l1_4.length c1_4]] ?_
       with_reducible refine (spec_LsaSum.calls kj2 a1_0 a1_1 a1_2 _ _ l1_3 _ _ l1_4 t267 _ ?side1 ?side2 ?side3 ?side4 A28.out).mono ?_
       (case side1 => exact cb_ HR1_3 HB)
       (case side2 => exact HC1_3.out)
       (case side3 => exact cb_ HR1_4 HB)
       (case side4 => exact HC1_4.out)
       rintro e w36 ⟨rfl, hb⟩
       refine ⟨_, rfl, ?_⟩
       replace BK261 := Aside0.mk (bb_ BK261 hb)
       replace BK262 := Aside0.mk (bb_ BK262 hb)
       replace HB := Aside0.mk (bt_ HB hb)
       (try clear hb)
       (try clear hb2)
       (try clear hk)
       (try clear hi)
       refine hK.out _ _ ⟨(blk_cell BK261.out 0).trans rfl, (blk_cell BK261.out 1).trans rfl, (blk_cell BK261.out 2).trans rfl, (blk_cell BK261.out 3).trans rfl, (blk_cell BK261.out 4).trans rfl, (blk_cell BK262.out 0).trans rfl, (blk_cell BK262.out 1).trans rfl, (blk_cell BK262.out 2).trans rfl, (blk_cell BK262.out 3).trans rfl, (blk_cell BK262.out 4).trans rfl⟩ (fun hHeld => ?_)
       clear hK K
       refine nz_ 34 ?_
       refine pure_ (i := 4) (N := some 35) (v := ?_) (a' := ?_) ba8_5 rfl rfl (by kernel_rfl) (fun _ _ _ h => h) (Or.inl ⟨by rfl, ?_⟩) ?_ ?_
       rotate_left; · intro w'; go_simp; with_reducible rfl
       rotate_left; · simp only [Act.put, List.setIfInBounds_toArray, List.set_cons_zero, List.set_cons_succ, i64_w, i32_w]; rfl
       refine done_ (by kernel_rfl) ?_
       have hcz37_0 := cz_ BK261 0 (.int .i64 a0_0)
       have hcz37_1 := cz_ BK261 1 (.int .i64 a0_1)
       have hcz37_2 := cz_ BK261 2 (.int .i64 a0_2)
       have hcz37_3 := cz_ BK261 3 (.slice A0_3 l0_3.length c0_3)
       have hcz37_4 := cz_ BK261 4 (.slice A0_4 l0_4.length c0_4)
       have hfz37_0 := blk_frozen BK261.out 0
       have hfz37_1 := blk_frozen BK261.out 1
       have hfz37_2 := blk_frozen BK261.out 2
       have hfz37_3 := blk_frozen BK261.out 3
       have hfz37_4 := blk_frozen BK261.out 4
       have hcz38_0 := cz_ BK262 0 (.int .i64 a1_0)
       have hcz38_1 := cz_ BK262 1 (.int .i64 a1_1)
       have hcz38_2 := cz_ BK262 2 (.int .i64 a1_2)
       have hcz38_3 := cz_ BK262 3 (.slice A1_3 l1_3.length c1_3)
       have hcz38_4 := cz_ BK262 4 (.slice A1_4 l1_4.length c1_4)
       have hfz38_0 := blk_frozen BK262.out 0
       have hfz38_1 := blk_frozen BK262.out 1
       have hfz38_2 := blk_frozen BK262.out 2
       have hfz38_3 := blk_frozen BK262.out 3
       have hfz38_4 := blk_frozen BK262.out 4
       try go_wp2
       go_ret
       exact ⟨by first | rfl | (simp [errW_none, errW_some] <;> rfl) | (simp [*, errW_none, errW_some] <;> rfl), by repeat (first | (with_reducible first | exact HB.out | apply below_alloc | apply pw_below_drewN | apply below_drew1 | refine below_set ?_ GE261.out | refine below_set ?_ GE262.out) | exact HB.out)⟩
      ·rw [if_neg c30] at H
       have c30b0 : (a0_2 == a1_2) = false := beq_eq_false_iff_ne.mpr c30
       have c30b1 : (a0_2 != a1_2) = true := bne_iff_ne.mpr c30
       have HC39 := Aside0.mk H
       clear H
       have hnb40 := NB261_262.out
       have hnc40 := NB262_261.out
       have hcz41_0 := cz_ BK261 0 (.int .i64 a0_0)
       have hcz41_1 := cz_ BK261 1 (.int .i64 a0_1)
       have hcz41_2 := cz_ BK261 2 (.int .i64 a0_2)
       have hcz41_3 := cz_ BK261 3 (.slice A0_3 l0_3.length c0_3)
       have hcz41_4 := cz_ BK261 4 (.slice A0_4 l0_4.length c0_4)
       have hfz41_0 := blk_frozen BK261.out 0
       have hfz41_1 := blk_frozen BK261.out 1
       have hfz41_2 := blk_frozen BK261.out 2
       have hfz41_3 := blk_frozen BK261.out 3
       have hfz41_4 := blk_frozen BK261.out 4
       have hcz42_0 := cz_ BK262 0 (.int .i64 a1_0)
       have hcz42_1 := cz_ BK262 1 (.int .i64 a1_1)
       have hcz42_2 := cz_ BK262 2 (.int .i64 a1_2)
       have hcz42_3 := cz_ BK262 3 (.slice A1_3 l1_3.length c1_3)
       have hcz42_4 := cz_ BK262 4 (.slice A1_4 l1_4.length c1_4)
       have hfz42_0 := blk_frozen BK262.out 0
       have hfz42_1 := blk_frozen BK262.out 1
       have hfz42_2 := blk_frozen BK262.out 2
       have hfz42_3 := blk_frozen BK262.out 3
       have hfz42_4 := blk_frozen BK262.out 4
       try go_wp2
       replace BK261 := Aside0.mk (blk_drew BK261.out)
       replace BK262 := Aside0.mk (blk_drew BK262.out)
       replace HB := Aside0.mk (below_drew1 HB.out)
       refine start_ (n := 5) (S := fun w' => w'.cell? ⟨gb261, 0, none⟩ = some (.int .i64 a0_0) ∧ w'.cell? ⟨gb261, 1, none⟩ = some (.int .i64 a0_1) ∧ w'.cell? ⟨gb261, 2, none⟩ = some (.int .i64 a0_2) ∧ w'.cell? ⟨gb261, 3, none⟩ = some (.slice A0_3 l0_3.length c0_3) ∧ w'.cell? ⟨gb261, 4, none⟩ = some (.slice A0_4 l0_4.length c0_4) ∧ w'.cell? ⟨gb262, 0, none⟩ = some (.int .i64 a1_0) ∧ w'.cell? ⟨gb262, 1, none⟩ = some (.int .i64 a1_1) ∧ w'.cell? ⟨gb262, 2, none⟩ = some (.int .i64 a1_2) ∧ w'.cell? ⟨gb262, 3, none⟩ = some (.slice A1_3 l1_3.length c1_3) ∧ w'.cell? ⟨gb262, 4, none⟩ = some (.slice A1_4 l1_4.length c1_4)) (ds := []) ba8_0 (by kernel_rfl) rfl rfl ⟨(blk_cell BK261.out 0).trans rfl, (blk_cell BK261.out 1).trans rfl, (blk_cell BK261.out 2).trans rfl, (blk_cell BK261.out 3).trans rfl, (blk_cell BK261.out 4).trans rfl, (blk_cell BK262.out 0).trans rfl, (blk_cell BK262.out 1).trans rfl, (blk_cell BK262.out 2).trans rfl, (blk_cell BK262.out 3).trans rfl, (blk_cell BK262.out 4).trans rfl⟩ (fun hHeld => ?_)
       generalize wc.drew = w43 at BK261 BK262 HB hHeld ⊢
       refine take_ (i := 0) (N := some 31) (v := ?_) (a' := ?_) ba8_1 rfl rfl (by kernel_rfl) (fun _ _ _ h => h) (Or.inl ⟨by rfl, ?_⟩) hHeld ?_ ?_
       rotate_left; · rintro w' ⟨s0, s1, s2, s3, s4, s5, s6, s7, s8, s9⟩; go_simp; with_reducible rfl
       rotate_left; · simp only [Act.put, List.setIfInBounds_toArray, List.set_cons_zero, List.set_cons_succ, i64_w, i32_w]; rfl
       refine take_ (i := 2) (N := some 33) (v := ?_) (a' := ?_) ba8_2 rfl rfl (by kernel_rfl) (fun _ _ _ h => h) (Or.inl ⟨by rfl, ?_⟩) hHeld ?_ ?_
       rotate_left; · rintro w' ⟨s0, s1, s2, s3, s4, s5, s6, s7, s8, s9⟩; go_simp; with_reducible rfl
       rotate_left; · simp only [Act.put, List.setIfInBounds_toArray, List.set_cons_zero, List.set_cons_succ, i64_w, i32_w]; rfl
       refine one_ (i := 1) (N := some 32) ba8_3 rfl rfl (by kernel_rfl) (by decide) (fun K hK => ?_)
       refine gz_ Try.func25 #[.agg #[.int .i64 a0_0, .int .i64 a0_1, .int .i64 a0_2, .slice A0_3 l0_3.length c0_3, .slice A0_4 l0_4.length c0_4]] ?_
       with_reducible refine (spec_LsaSum.calls kj2 a0_0 a0_1 a0_2 _ _ l0_3 _ _ l0_4 t266 _ ?side1 ?side2 ?side3 ?side4 A27.out).mono ?_
       (case side1 => exact cb_ HR0_3 HB)
       (case side2 => exact HC0_3.out)
       (case side3 => exact cb_ HR0_4 HB)
       (case side4 => exact HC0_4.out)
       rintro e w44 ⟨rfl, hb⟩
       refine ⟨_, rfl, ?_⟩
       replace BK261 := Aside0.mk (bb_ BK261 hb)
       replace BK262 := Aside0.mk (bb_ BK262 hb)
       replace HB := Aside0.mk (bt_ HB hb)
       (try clear hb)
       (try clear hb2)
       (try clear hk)
       (try clear hi)
       refine hK.out _ _ ⟨(blk_cell BK261.out 0).trans rfl, (blk_cell BK261.out 1).trans rfl, (blk_cell BK261.out 2).trans rfl, (blk_cell BK261.out 3).trans rfl, (blk_cell BK261.out 4).trans rfl, (blk_cell BK262.out 0).trans rfl, (blk_cell BK262.out 1).trans rfl, (blk_cell BK262.out 2).trans rfl, (blk_cell BK262.out 3).trans rfl, (blk_cell BK262.out 4).trans rfl⟩ (fun hHeld => ?_)
       clear hK K
       refine nz_ 32 ?_
       refine one_ (i := 3) (N := some 34) ba8_4 rfl rfl (by kernel_rfl) (by decide) (fun K hK => ?_)
       refine gz_ Try.func25 #[.agg #[.int .i64 a1_0, .int .i64 a1_1, .int .i64 a1_2, .slice A1_3 l1_3.length c1_3, .slice A1_4 l1_4.length c1_4]] ?_
       with_reducible refine (spec_LsaSum.calls kj2 a1_0 a1_1 a1_2 _ _ l1_3 _ _ l1_4 t267 _ ?side1 ?side2 ?side3 ?side4 A28.out).mono ?_
       (case side1 => exact cb_ HR1_3 HB)
       (case side2 => exact HC1_3.out)
       (case side3 => exact cb_ HR1_4 HB)
       (case side4 => exact HC1_4.out)
       rintro e w45 ⟨rfl, hb⟩
       refine ⟨_, rfl, ?_⟩
       replace BK261 := Aside0.mk (bb_ BK261 hb)
       replace BK262 := Aside0.mk (bb_ BK262 hb)
       replace HB := Aside0.mk (bt_ HB hb)
       (try clear hb)
       (try clear hb2)
       (try clear hk)
       (try clear hi)
       refine hK.out _ _ ⟨(blk_cell BK261.out 0).trans rfl, (blk_cell BK261.out 1).trans rfl, (blk_cell BK261.out 2).trans rfl, (blk_cell BK261.out 3).trans rfl, (blk_cell BK261.out 4).trans rfl, (blk_cell BK262.out 0).trans rfl, (blk_cell BK262.out 1).trans rfl, (blk_cell BK262.out 2).trans rfl, (blk_cell BK262.out 3).trans rfl, (blk_cell BK262.out 4).trans rfl⟩ (fun hHeld => ?_)
       clear hK K
       refine nz_ 34 ?_
       refine pure_ (i := 4) (N := some 35) (v := ?_) (a' := ?_) ba8_5 rfl rfl (by kernel_rfl) (fun _ _ _ h => h) (Or.inl ⟨by rfl, ?_⟩) ?_ ?_
       rotate_left; · intro w'; go_simp; with_reducible rfl
       rotate_left; · simp only [Act.put, List.setIfInBounds_toArray, List.set_cons_zero, List.set_cons_succ, i64_w, i32_w]; rfl
       refine done_ (by kernel_rfl) ?_
       have hcz46_0 := cz_ BK261 0 (.int .i64 a0_0)
       have hcz46_1 := cz_ BK261 1 (.int .i64 a0_1)
       have hcz46_2 := cz_ BK261 2 (.int .i64 a0_2)
       have hcz46_3 := cz_ BK261 3 (.slice A0_3 l0_3.length c0_3)
       have hcz46_4 := cz_ BK261 4 (.slice A0_4 l0_4.length c0_4)
       have hfz46_0 := blk_frozen BK261.out 0
       have hfz46_1 := blk_frozen BK261.out 1
       have hfz46_2 := blk_frozen BK261.out 2
       have hfz46_3 := blk_frozen BK261.out 3
       have hfz46_4 := blk_frozen BK261.out 4
       have hcz47_0 := cz_ BK262 0 (.int .i64 a1_0)
       have hcz47_1 := cz_ BK262 1 (.int .i64 a1_1)
       have hcz47_2 := cz_ BK262 2 (.int .i64 a1_2)
       have hcz47_3 := cz_ BK262 3 (.slice A1_3 l1_3.length c1_3)
       have hcz47_4 := cz_ BK262 4 (.slice A1_4 l1_4.length c1_4)
       have hfz47_0 := blk_frozen BK262.out 0
       have hfz47_1 := blk_frozen BK262.out 1
       have hfz47_2 := blk_frozen BK262.out 2
       have hfz47_3 := blk_frozen BK262.out 3
       have hfz47_4 := blk_frozen BK262.out 4
       go_upto_region 9 with (fail)
       go_cut [54] (fun v54 wc => ∃ (kq : Nat) (x54_38 : Bool), v54 = .bool x54_38 ∧ Aside0 (spec_Newer.j1 kq x54_38 a0_0 a0_1 a0_2 l0_3 l0_4 a1_0 a1_1 a1_2 l1_3 l1_4 = some r) ∧ Aside0 (kq ≤ kj2) ∧ Aside0 (wc.heap[gb261]? = some (.cells #[.int .i64 a0_0, .int .i64 a0_1, .int .i64 a0_2, (.slice A0_3 l0_3.length c0_3), (.slice A0_4 l0_4.length c0_4)] 31 (0, 0))) ∧ Aside0 (wc.heap[gb262]? = some (.cells #[.int .i64 a1_0, .int .i64 a1_1, .int .i64 a1_2, (.slice A1_3 l1_3.length c1_3), (.slice A1_4 l1_4.length c1_4)] 31 (0, 0))) ∧ Aside0 (Below w.heap.size w wc))
       case first =>
        have H := HC39.out
        clear HC39
        by_cases c48 : a0_2 = 60
        ·rw [if_pos c48] at H
         have c48b0 : (a0_2 == 60) = true := beq_iff_eq.mpr c48
         have c48b1 : (a0_2 != 60) = false := bne_eq_false_iff_eq.mpr c48
         clear c48
         (first | rw [c48b0] | (simp only [i64_w, i32_w]; rw [c48b0]) | skip)
         have H' := Aside0.mk H
         clear H
         have hnb49 := NB261_262.out
         have hnc49 := NB262_261.out
         have hcz50_0 := cz_ BK261 0 (.int .i64 a0_0)
         have hcz50_1 := cz_ BK261 1 (.int .i64 a0_1)
         have hcz50_2 := cz_ BK261 2 (.int .i64 a0_2)
         have hcz50_3 := cz_ BK261 3 (.slice A0_3 l0_3.length c0_3)
         have hcz50_4 := cz_ BK261 4 (.slice A0_4 l0_4.length c0_4)
         have hfz50_0 := blk_frozen BK261.out 0
         have hfz50_1 := blk_frozen BK261.out 1
         have hfz50_2 := blk_frozen BK261.out 2
         have hfz50_3 := blk_frozen BK261.out 3
         have hfz50_4 := blk_frozen BK261.out 4
         go_wp2
         go_meet
         case rel => exact ⟨_, (true), (by first | rfl | (simp; done) | (simp [*]; done)), H', ⟨by have := HJ2.out; first | omega | exact Nat.le_refl _⟩, ⟨by (with_reducible repeat (first | refine blk_drewN ?_ _ | refine blk_drew ?_ | refine blk_alloc ?_ _)); exact BK261.out⟩, ⟨by (with_reducible repeat (first | refine blk_drewN ?_ _ | refine blk_drew ?_ | refine blk_alloc ?_ _)); exact BK262.out⟩, ⟨by repeat (first | (with_reducible first | exact HB.out | apply below_alloc | apply pw_below_drewN | apply below_drew1 | refine below_set ?_ GE261.out | refine below_set ?_ GE262.out) | exact HB.out)⟩⟩
        ·rw [if_neg c48] at H
         have c48b0 : (a0_2 == 60) = false := beq_eq_false_iff_ne.mpr c48
         have c48b1 : (a0_2 != 60) = true := bne_iff_ne.mpr c48
         (first | rw [c48b0] | (simp only [i64_w, i32_w]; rw [c48b0]) | skip)
         have H' := Aside0.mk H
         clear H
         have hnb51 := NB261_262.out
         have hnc51 := NB262_261.out
         have hcz52_0 := cz_ BK261 0 (.int .i64 a0_0)
         have hcz52_1 := cz_ BK261 1 (.int .i64 a0_1)
         have hcz52_2 := cz_ BK261 2 (.int .i64 a0_2)
         have hcz52_3 := cz_ BK261 3 (.slice A0_3 l0_3.length c0_3)
         have hcz52_4 := cz_ BK261 4 (.slice A0_4 l0_4.length c0_4)
         have hfz52_0 := blk_frozen BK261.out 0
         have hfz52_1 := blk_frozen BK261.out 1
         have hfz52_2 := blk_frozen BK261.out 2
         have hfz52_3 := blk_frozen BK261.out 3
         have hfz52_4 := blk_frozen BK261.out 4
         have hcz53_0 := cz_ BK262 0 (.int .i64 a1_0)
         have hcz53_1 := cz_ BK262 1 (.int .i64 a1_1)
         have hcz53_2 := cz_ BK262 2 (.int .i64 a1_2)
         have hcz53_3 := cz_ BK262 3 (.slice A1_3 l1_3.length c1_3)
         have hcz53_4 := cz_ BK262 4 (.slice A1_4 l1_4.length c1_4)
         have hfz53_0 := blk_frozen BK262.out 0
         have hfz53_1 := blk_frozen BK262.out 1
         have hfz53_2 := blk_frozen BK262.out 2
         have hfz53_3 := blk_frozen BK262.out 3
         have hfz53_4 := blk_frozen BK262.out 4
         go_wp2
         go_meet
         case rel => exact ⟨_, ((a1_2 == 60)), (by first | rfl | (simp; done) | (simp [*]; done)), H', ⟨by have := HJ2.out; first | omega | exact Nat.le_refl _⟩, ⟨by (with_reducible repeat (first | refine blk_drewN ?_ _ | refine blk_drew ?_ | refine blk_alloc ?_ _)); exact BK261.out⟩, ⟨by (with_reducible repeat (first | refine blk_drewN ?_ _ | refine blk_drew ?_ | refine blk_alloc ?_ _)); exact BK262.out⟩, ⟨by repeat (first | (with_reducible first | exact HB.out | apply below_alloc | apply pw_below_drewN | apply below_drew1 | refine below_set ?_ GE261.out | refine below_set ?_ GE262.out) | exact HB.out)⟩⟩
       case rest =>
        clear HC39
        try clear c1
        try clear c2
        try clear p2
        try clear c3
        try clear c4
        try clear c5
        try clear p6
        try clear c7
        try clear c9
        try clear c10
        try clear c14
        try clear c17
        try clear c22
        try clear c25
        try clear c26
        try clear c26b0
        try clear c26b1
        try clear c29
        try clear c29b0
        try clear c29b1
        try clear c30
        try clear c30b0
        try clear c30b1
        try clear c31
        try clear c40
        try clear c48
        try clear c48b0
        try clear c48b1
        try clear c49
        try clear c51
        try clear hcz11_0
        try clear hcz11_1
        try clear hcz11_2
        try clear hcz11_3
        try clear hcz11_4
        try clear hcz13_0
        try clear hcz13_1
        try clear hcz13_2
        try clear hcz13_3
        try clear hcz13_4
        try clear hcz15_0
        try clear hcz15_1
        try clear hcz15_2
        try clear hcz15_3
        try clear hcz15_4
        try clear hcz16_0
        try clear hcz16_1
        try clear hcz16_2
        try clear hcz16_3
        try clear hcz16_4
        try clear hcz18_0
        try clear hcz18_1
        try clear hcz18_2
        try clear hcz18_3
        try clear hcz18_4
        try clear hcz20_0
        try clear hcz20_1
        try clear hcz20_2
        try clear hcz20_3
        try clear hcz20_4
        try clear hcz23_0
        try clear hcz23_1
        try clear hcz23_2
        try clear hcz23_3
        try clear hcz23_4
        try clear hcz32_0
        try clear hcz32_1
        try clear hcz32_2
        try clear hcz32_3
        try clear hcz32_4
        try clear hcz33_0
        try clear hcz33_1
        try clear hcz33_2
        try clear hcz33_3
        try clear hcz33_4
        try clear hcz37_0
        try clear hcz37_1
        try clear hcz37_2
        try clear hcz37_3
        try clear hcz37_4
        try clear hcz38_0
        try clear hcz38_1
        try clear hcz38_2
        try clear hcz38_3
        try clear hcz38_4
        try clear hcz41_0
        try clear hcz41_1
        try clear hcz41_2
        try clear hcz41_3
        try clear hcz41_4
        try clear hcz42_0
        try clear hcz42_1
        try clear hcz42_2
        try clear hcz42_3
        try clear hcz42_4
        try clear hcz46_0
        try clear hcz46_1
        try clear hcz46_2
        try clear hcz46_3
        try clear hcz46_4
        try clear hcz47_0
        try clear hcz47_1
        try clear hcz47_2
        try clear hcz47_3
        try clear hcz47_4
        try clear hcz50_0
        try clear hcz50_1
        try clear hcz50_2
        try clear hcz50_3
        try clear hcz50_4
        try clear hcz52_0
        try clear hcz52_1
        try clear hcz52_2
        try clear hcz52_3
        try clear hcz52_4
        try clear hcz53_0
        try clear hcz53_1
        try clear hcz53_2
        try clear hcz53_3
        try clear hcz53_4
        try clear hfz11_0
        try clear hfz11_1
        try clear hfz11_2
        try clear hfz11_3
        try clear hfz11_4
        try clear hfz13_0
        try clear hfz13_1
        try clear hfz13_2
        try clear hfz13_3
        try clear hfz13_4
        try clear hfz15_0
        try clear hfz15_1
        try clear hfz15_2
        try clear hfz15_3
        try clear hfz15_4
        try clear hfz16_0
        try clear hfz16_1
        try clear hfz16_2
        try clear hfz16_3
        try clear hfz16_4
        try clear hfz18_0
        try clear hfz18_1
        try clear hfz18_2
        try clear hfz18_3
        try clear hfz18_4
        try clear hfz20_0
        try clear hfz20_1
        try clear hfz20_2
        try clear hfz20_3
        try clear hfz20_4
        try clear hfz23_0
        try clear hfz23_1
        try clear hfz23_2
        try clear hfz23_3
        try clear hfz23_4
        try clear hfz32_0
        try clear hfz32_1
        try clear hfz32_2
        try clear hfz32_3
        try clear hfz32_4
        try clear hfz33_0
        try clear hfz33_1
        try clear hfz33_2
        try clear hfz33_3
        try clear hfz33_4
        try clear hfz37_0
        try clear hfz37_1
        try clear hfz37_2
        try clear hfz37_3
        try clear hfz37_4
        try clear hfz38_0
        try clear hfz38_1
        try clear hfz38_2
        try clear hfz38_3
        try clear hfz38_4
        try clear hfz41_0
        try clear hfz41_1
        try clear hfz41_2
        try clear hfz41_3
        try clear hfz41_4
        try clear hfz42_0
        try clear hfz42_1
        try clear hfz42_2
        try clear hfz42_3
        try clear hfz42_4
        try clear hfz46_0
        try clear hfz46_1
        try clear hfz46_2
        try clear hfz46_3
        try clear hfz46_4
        try clear hfz47_0
        try clear hfz47_1
        try clear hfz47_2
        try clear hfz47_3
        try clear hfz47_4
        try clear hfz50_0
        try clear hfz50_1
        try clear hfz50_2
        try clear hfz50_3
        try clear hfz50_4
        try clear hfz52_0
        try clear hfz52_1
        try clear hfz52_2
        try clear hfz52_3
        try clear hfz52_4
        try clear hfz53_0
        try clear hfz53_1
        try clear hfz53_2
        try clear hfz53_3
        try clear hfz53_4
        try clear p2
        obtain ⟨kq, x54_38, rfl, HA, HJ38, BK261, BK262, HB⟩ := hcut
        cases kq with
        | zero => exact absurd HA.out (by simp [spec_Newer.j1])
        | succ kj38 =>
         have H := HA.out
         clear HA
         simp only [spec_Newer.j1] at H
         by_cases c54 : x54_38 = true
         ·subst c54
          rw [if_pos rfl] at H
          replace H := Option.bind_eq_some_iff.mp H
          obtain ⟨t271, A550, H⟩ := H
          have A55 := Aside0.mk A550
          clear A550
          obtain rfl := Option.some.inj H
          have hnb56 := NB261_262.out
          have hnc56 := NB262_261.out
          have hcz57_0 := cz_ BK261 0 (.int .i64 a0_0)
          have hcz57_1 := cz_ BK261 1 (.int .i64 a0_1)
          have hcz57_2 := cz_ BK261 2 (.int .i64 a0_2)
          have hcz57_3 := cz_ BK261 3 (.slice A0_3 l0_3.length c0_3)
          have hcz57_4 := cz_ BK261 4 (.slice A0_4 l0_4.length c0_4)
          have hfz57_0 := blk_frozen BK261.out 0
          have hfz57_1 := blk_frozen BK261.out 1
          have hfz57_2 := blk_frozen BK261.out 2
          have hfz57_3 := blk_frozen BK261.out 3
          have hfz57_4 := blk_frozen BK261.out 4
          have hcz58_0 := cz_ BK262 0 (.int .i64 a1_0)
          have hcz58_1 := cz_ BK262 1 (.int .i64 a1_1)
          have hcz58_2 := cz_ BK262 2 (.int .i64 a1_2)
          have hcz58_3 := cz_ BK262 3 (.slice A1_3 l1_3.length c1_3)
          have hcz58_4 := cz_ BK262 4 (.slice A1_4 l1_4.length c1_4)
          have hfz58_0 := blk_frozen BK262.out 0
          have hfz58_1 := blk_frozen BK262.out 1
          have hfz58_2 := blk_frozen BK262.out 2
          have hfz58_3 := blk_frozen BK262.out 3
          have hfz58_4 := blk_frozen BK262.out 4
          go_wp2_with (first | ((with_reducible refine gate_callee (f := 79) rfl ?_); refine gl_ (some 60) Try.func79 #[.int .i64 (wrap64 (a0_2 - a1_2))] ?_; (with_reducible refine (spec_l05Sign.calls (wrap64 (a0_2 - a1_2)) t271 _ A55.out).mono ?_); rintro e w' ⟨rfl, ⟨nd, rfl⟩⟩; refine ⟨_, rfl, ?_⟩))
          go_ret
          exact ⟨by first | rfl | (simp [errW_none, errW_some] <;> rfl) | (simp [*, errW_none, errW_some] <;> rfl), by repeat (first | (with_reducible first | exact HB.out | apply below_alloc | apply pw_below_drewN | apply below_drew1 | refine below_set ?_ GE261.out | refine below_set ?_ GE262.out) | exact HB.out)⟩
         ·replace c54 := Bool.eq_false_iff.mpr c54
          subst c54
          rw [if_neg (show ¬ (false = true) by decide)] at H
          by_cases c59 : (wrap64 (a0_2 - a1_2)) > 10
          ·rw [if_pos c59] at H
           have c59b0 : decide (10 < (wrap64 (a0_2 - a1_2))) = true := decide_eq_true c59
           clear c59
           replace H := Option.bind_eq_some_iff.mp H
           obtain ⟨t272, A600, H⟩ := H
           have A60 := Aside0.mk A600
           clear A600
           obtain rfl := Option.some.inj H
           have hnb61 := NB261_262.out
           have hnc61 := NB262_261.out
           have hcz62_0 := cz_ BK261 0 (.int .i64 a0_0)
           have hcz62_1 := cz_ BK261 1 (.int .i64 a0_1)
           have hcz62_2 := cz_ BK261 2 (.int .i64 a0_2)
           have hcz62_3 := cz_ BK261 3 (.slice A0_3 l0_3.length c0_3)
           have hcz62_4 := cz_ BK261 4 (.slice A0_4 l0_4.length c0_4)
           have hfz62_0 := blk_frozen BK261.out 0
           have hfz62_1 := blk_frozen BK261.out 1
           have hfz62_2 := blk_frozen BK261.out 2
           have hfz62_3 := blk_frozen BK261.out 3
           have hfz62_4 := blk_frozen BK261.out 4
           have hcz63_0 := cz_ BK262 0 (.int .i64 a1_0)
           have hcz63_1 := cz_ BK262 1 (.int .i64 a1_1)
           have hcz63_2 := cz_ BK262 2 (.int .i64 a1_2)
           have hcz63_3 := cz_ BK262 3 (.slice A1_3 l1_3.length c1_3)
           have hcz63_4 := cz_ BK262 4 (.slice A1_4 l1_4.length c1_4)
           have hfz63_0 := blk_frozen BK262.out 0
           have hfz63_1 := blk_frozen BK262.out 1
           have hfz63_2 := blk_frozen BK262.out 2
           have hfz63_3 := blk_frozen BK262.out 3
           have hfz63_4 := blk_frozen BK262.out 4
           go_wp2_with (first | ((with_reducible refine gate_callee (f := 79) rfl ?_); refine gl_ (some 80) Try.func79 #[.int .i64 (wrap64 (a1_2 - a0_2))] ?_; (with_reducible refine (spec_l05Sign.calls (wrap64 (a1_2 - a0_2)) t272 _ A60.out).mono ?_); rintro e w' ⟨rfl, ⟨nd, rfl⟩⟩; refine ⟨_, rfl, ?_⟩))
           go_ret
           exact ⟨by first | rfl | (simp [errW_none, errW_some] <;> rfl) | (simp [*, errW_none, errW_some] <;> rfl), by repeat (first | (with_reducible first | exact HB.out | apply below_alloc | apply pw_below_drewN | apply below_drew1 | refine below_set ?_ GE261.out | refine below_set ?_ GE262.out) | exact HB.out)⟩
          ·rw [if_neg c59] at H
           have c59b0 : decide (10 < (wrap64 (a0_2 - a1_2))) = false := decide_eq_false c59
           clear c59
           by_cases c64 : (wrap64 (a1_2 - a0_2)) > 10
           ·rw [if_pos c64] at H
            have c64b0 : decide (10 < (wrap64 (a1_2 - a0_2))) = true := decide_eq_true c64
            clear c64
            replace H := Option.bind_eq_some_iff.mp H
            obtain ⟨t273, A650, H⟩ := H
            have A65 := Aside0.mk A650
            clear A650
            obtain rfl := Option.some.inj H
            have hnb66 := NB261_262.out
            have hnc66 := NB262_261.out
            have hcz67_0 := cz_ BK261 0 (.int .i64 a0_0)
            have hcz67_1 := cz_ BK261 1 (.int .i64 a0_1)
            have hcz67_2 := cz_ BK261 2 (.int .i64 a0_2)
            have hcz67_3 := cz_ BK261 3 (.slice A0_3 l0_3.length c0_3)
            have hcz67_4 := cz_ BK261 4 (.slice A0_4 l0_4.length c0_4)
            have hfz67_0 := blk_frozen BK261.out 0
            have hfz67_1 := blk_frozen BK261.out 1
            have hfz67_2 := blk_frozen BK261.out 2
            have hfz67_3 := blk_frozen BK261.out 3
            have hfz67_4 := blk_frozen BK261.out 4
            have hcz68_0 := cz_ BK262 0 (.int .i64 a1_0)
            have hcz68_1 := cz_ BK262 1 (.int .i64 a1_1)
            have hcz68_2 := cz_ BK262 2 (.int .i64 a1_2)
            have hcz68_3 := cz_ BK262 3 (.slice A1_3 l1_3.length c1_3)
            have hcz68_4 := cz_ BK262 4 (.slice A1_4 l1_4.length c1_4)
            have hfz68_0 := blk_frozen BK262.out 0
            have hfz68_1 := blk_frozen BK262.out 1
            have hfz68_2 := blk_frozen BK262.out 2
            have hfz68_3 := blk_frozen BK262.out 3
            have hfz68_4 := blk_frozen BK262.out 4
            go_wp2_with (first | ((with_reducible refine gate_callee (f := 79) rfl ?_); refine gl_ (some 80) Try.func79 #[.int .i64 (wrap64 (a1_2 - a0_2))] ?_; (with_reducible refine (spec_l05Sign.calls (wrap64 (a1_2 - a0_2)) t273 _ A65.out).mono ?_); rintro e w' ⟨rfl, ⟨nd, rfl⟩⟩; refine ⟨_, rfl, ?_⟩))
            go_ret
            exact ⟨by first | rfl | (simp [errW_none, errW_some] <;> rfl) | (simp [*, errW_none, errW_some] <;> rfl), by repeat (first | (with_reducible first | exact HB.out | apply below_alloc | apply pw_below_drewN | apply below_drew1 | refine below_set ?_ GE261.out | refine below_set ?_ GE262.out) | exact HB.out)⟩
           ·rw [if_neg c64] at H
            have c64b0 : decide (10 < (wrap64 (a1_2 - a0_2))) = false := decide_eq_false c64
            clear c64
            obtain rfl := Option.some.inj H
            have hnb69 := NB261_262.out
            have hnc69 := NB262_261.out
            have hcz70_0 := cz_ BK261 0 (.int .i64 a0_0)
            have hcz70_1 := cz_ BK261 1 (.int .i64 a0_1)
            have hcz70_2 := cz_ BK261 2 (.int .i64 a0_2)
            have hcz70_3 := cz_ BK261 3 (.slice A0_3 l0_3.length c0_3)
            have hcz70_4 := cz_ BK261 4 (.slice A0_4 l0_4.length c0_4)
            have hfz70_0 := blk_frozen BK261.out 0
            have hfz70_1 := blk_frozen BK261.out 1
            have hfz70_2 := blk_frozen BK261.out 2
            have hfz70_3 := blk_frozen BK261.out 3
            have hfz70_4 := blk_frozen BK261.out 4
            have hcz71_0 := cz_ BK262 0 (.int .i64 a1_0)
            have hcz71_1 := cz_ BK262 1 (.int .i64 a1_1)
            have hcz71_2 := cz_ BK262 2 (.int .i64 a1_2)
            have hcz71_3 := cz_ BK262 3 (.slice A1_3 l1_3.length c1_3)
            have hcz71_4 := cz_ BK262 4 (.slice A1_4 l1_4.length c1_4)
            have hfz71_0 := blk_frozen BK262.out 0
            have hfz71_1 := blk_frozen BK262.out 1
            have hfz71_2 := blk_frozen BK262.out 2
            have hfz71_3 := blk_frozen BK262.out 3
            have hfz71_4 := blk_frozen BK262.out 4
            go_wp2
            go_ret
            exact ⟨by first | rfl | (simp [errW_none, errW_some] <;> rfl) | (simp [*, errW_none, errW_some] <;> rfl), by repeat (first | (with_reducible first | exact HB.out | apply below_alloc | apply pw_below_drewN | apply below_drew1 | refine below_set ?_ GE261.out | refine below_set ?_ GE262.out) | exact HB.out)⟩
     ·rw [if_neg c29] at H
      have c29b0 : (t266 == t267) = false := beq_eq_false_iff_ne.mpr c29
      have c29b1 : (t266 != t267) = true := bne_iff_ne.mpr c29
      replace H := Option.bind_eq_some_iff.mp H
      obtain ⟨t268, A720, H⟩ := H
      have A72 := Aside0.mk A720
      clear A720
      replace H := Option.bind_eq_some_iff.mp H
      obtain ⟨t269, A730, H⟩ := H
      have A73 := Aside0.mk A730
      clear A730
      replace H := Option.bind_eq_some_iff.mp H
      obtain ⟨t270, A740, H⟩ := H
      have A74 := Aside0.mk A740
      clear A740
      obtain rfl := Option.some.inj H
      have hnb75 := NB261_262.out
      have hnc75 := NB262_261.out
      have hcz76_0 := cz_ BK261 0 (.int .i64 a0_0)
      have hcz76_1 := cz_ BK261 1 (.int .i64 a0_1)
      have hcz76_2 := cz_ BK261 2 (.int .i64 a0_2)
      have hcz76_3 := cz_ BK261 3 (.slice A0_3 l0_3.length c0_3)
      have hcz76_4 := cz_ BK261 4 (.slice A0_4 l0_4.length c0_4)
      have hfz76_0 := blk_frozen BK261.out 0
      have hfz76_1 := blk_frozen BK261.out 1
      have hfz76_2 := blk_frozen BK261.out 2
      have hfz76_3 := blk_frozen BK261.out 3
      have hfz76_4 := blk_frozen BK261.out 4
      have hcz77_0 := cz_ BK262 0 (.int .i64 a1_0)
      have hcz77_1 := cz_ BK262 1 (.int .i64 a1_1)
      have hcz77_2 := cz_ BK262 2 (.int .i64 a1_2)
      have hcz77_3 := cz_ BK262 3 (.slice A1_3 l1_3.length c1_3)
      have hcz77_4 := cz_ BK262 4 (.slice A1_4 l1_4.length c1_4)
      have hfz77_0 := blk_frozen BK262.out 0
      have hfz77_1 := blk_frozen BK262.out 1
      have hfz77_2 := blk_frozen BK262.out 2
      have hfz77_3 := blk_frozen BK262.out 3
      have hfz77_4 := blk_frozen BK262.out 4
      try go_wp2
      replace BK261 := Aside0.mk (blk_drew BK261.out)
      replace BK262 := Aside0.mk (blk_drew BK262.out)
      replace HB := Aside0.mk (below_drew1 HB.out)
      refine start_ (n := 5) (S := fun w' => w'.cell? ⟨gb261, 0, none⟩ = some (.int .i64 a0_0) ∧ w'.cell? ⟨gb261, 1, none⟩ = some (.int .i64 a0_1) ∧ w'.cell? ⟨gb261, 2, none⟩ = some (.int .i64 a0_2) ∧ w'.cell? ⟨gb261, 3, none⟩ = some (.slice A0_3 l0_3.length c0_3) ∧ w'.cell? ⟨gb261, 4, none⟩ = some (.slice A0_4 l0_4.length c0_4) ∧ w'.cell? ⟨gb262, 0, none⟩ = some (.int .i64 a1_0) ∧ w'.cell? ⟨gb262, 1, none⟩ = some (.int .i64 a1_1) ∧ w'.cell? ⟨gb262, 2, none⟩ = some (.int .i64 a1_2) ∧ w'.cell? ⟨gb262, 3, none⟩ = some (.slice A1_3 l1_3.length c1_3) ∧ w'.cell? ⟨gb262, 4, none⟩ = some (.slice A1_4 l1_4.length c1_4)) (ds := []) ba8_0 (by kernel_rfl) rfl rfl ⟨(blk_cell BK261.out 0).trans rfl, (blk_cell BK261.out 1).trans rfl, (blk_cell BK261.out 2).trans rfl, (blk_cell BK261.out 3).trans rfl, (blk_cell BK261.out 4).trans rfl, (blk_cell BK262.out 0).trans rfl, (blk_cell BK262.out 1).trans rfl, (blk_cell BK262.out 2).trans rfl, (blk_cell BK262.out 3).trans rfl, (blk_cell BK262.out 4).trans rfl⟩ (fun hHeld => ?_)
      generalize wc.drew = w78 at BK261 BK262 HB hHeld ⊢
      refine take_ (i := 0) (N := some 31) (v := ?_) (a' := ?_) ba8_1 rfl rfl (by kernel_rfl) (fun _ _ _ h => h) (Or.inl ⟨by rfl, ?_⟩) hHeld ?_ ?_
      rotate_left; · rintro w' ⟨s0, s1, s2, s3, s4, s5, s6, s7, s8, s9⟩; go_simp; with_reducible rfl
      rotate_left; · simp only [Act.put, List.setIfInBounds_toArray, List.set_cons_zero, List.set_cons_succ, i64_w, i32_w]; rfl
      refine take_ (i := 2) (N := some 33) (v := ?_) (a' := ?_) ba8_2 rfl rfl (by kernel_rfl) (fun _ _ _ h => h) (Or.inl ⟨by rfl, ?_⟩) hHeld ?_ ?_
      rotate_left; · rintro w' ⟨s0, s1, s2, s3, s4, s5, s6, s7, s8, s9⟩; go_simp; with_reducible rfl
      rotate_left; · simp only [Act.put, List.setIfInBounds_toArray, List.set_cons_zero, List.set_cons_succ, i64_w, i32_w]; rfl
      refine one_ (i := 1) (N := some 32) ba8_3 rfl rfl (by kernel_rfl) (by decide) (fun K hK => ?_)
      refine gz_ Try.func25 #[.agg #[.int .i64 a0_0, .int .i64 a0_1, .int .i64 a0_2, .slice A0_3 l0_3.length c0_3, .slice A0_4 l0_4.length c0_4]] ?_
      with_reducible refine (spec_LsaSum.calls kj2 a0_0 a0_1 a0_2 _ _ l0_3 _ _ l0_4 t266 _ ?side1 ?side2 ?side3 ?side4 A27.out).mono ?_
      (case side1 => exact cb_ HR0_3 HB)
      (case side2 => exact HC0_3.out)
      (case side3 => exact cb_ HR0_4 HB)
      (case side4 => exact HC0_4.out)
      rintro e w79 ⟨rfl, hb⟩
      refine ⟨_, rfl, ?_⟩
      replace BK261 := Aside0.mk (bb_ BK261 hb)
      replace BK262 := Aside0.mk (bb_ BK262 hb)
      replace HB := Aside0.mk (bt_ HB hb)
      (try clear hb)
      (try clear hb2)
      (try clear hk)
      (try clear hi)
      refine hK.out _ _ ⟨(blk_cell BK261.out 0).trans rfl, (blk_cell BK261.out 1).trans rfl, (blk_cell BK261.out 2).trans rfl, (blk_cell BK261.out 3).trans rfl, (blk_cell BK261.out 4).trans rfl, (blk_cell BK262.out 0).trans rfl, (blk_cell BK262.out 1).trans rfl, (blk_cell BK262.out 2).trans rfl, (blk_cell BK262.out 3).trans rfl, (blk_cell BK262.out 4).trans rfl⟩ (fun hHeld => ?_)
      clear hK K
      refine nz_ 32 ?_
      refine one_ (i := 3) (N := some 34) ba8_4 rfl rfl (by kernel_rfl) (by decide) (fun K hK => ?_)
      refine gz_ Try.func25 #[.agg #[.int .i64 a1_0, .int .i64 a1_1, .int .i64 a1_2, .slice A1_3 l1_3.length c1_3, .slice A1_4 l1_4.length c1_4]] ?_
      with_reducible refine (spec_LsaSum.calls kj2 a1_0 a1_1 a1_2 _ _ l1_3 _ _ l1_4 t267 _ ?side1 ?side2 ?side3 ?side4 A28.out).mono ?_
      (case side1 => exact cb_ HR1_3 HB)
      (case side2 => exact HC1_3.out)
      (case side3 => exact cb_ HR1_4 HB)
      (case side4 => exact HC1_4.out)
      rintro e w80 ⟨rfl, hb⟩
      refine ⟨_, rfl, ?_⟩
      replace BK261 := Aside0.mk (bb_ BK261 hb)
      replace BK262 := Aside0.mk (bb_ BK262 hb)
      replace HB := Aside0.mk (bt_ HB hb)
      (try clear hb)
      (try clear hb2)
      (try clear hk)
      (try clear hi)
      refine hK.out _ _ ⟨(blk_cell BK261.out 0).trans rfl, (blk_cell BK261.out 1).trans rfl, (blk_cell BK261.out 2).trans rfl, (blk_cell BK261.out 3).trans rfl, (blk_cell BK261.out 4).trans rfl, (blk_cell BK262.out 0).trans rfl, (blk_cell BK262.out 1).trans rfl, (blk_cell BK262.out 2).trans rfl, (blk_cell BK262.out 3).trans rfl, (blk_cell BK262.out 4).trans rfl⟩ (fun hHeld => ?_)
      clear hK K
      refine nz_ 34 ?_
      refine pure_ (i := 4) (N := some 35) (v := ?_) (a' := ?_) ba8_5 rfl rfl (by kernel_rfl) (fun _ _ _ h => h) (Or.inl ⟨by rfl, ?_⟩) ?_ ?_
      rotate_left; · intro w'; go_simp; with_reducible rfl
      rotate_left; · simp only [Act.put, List.setIfInBounds_toArray, List.set_cons_zero, List.set_cons_succ, i64_w, i32_w]; rfl
      refine done_ (by kernel_rfl) ?_
      try go_wp2
      replace BK261 := Aside0.mk (blk_drew BK261.out)
      replace BK262 := Aside0.mk (blk_drew BK262.out)
      replace HB := Aside0.mk (below_drew1 HB.out)
      refine start_ (n := 7) (S := fun w' => w'.cell? ⟨gb261, 0, none⟩ = some (.int .i64 a0_0) ∧ w'.cell? ⟨gb261, 1, none⟩ = some (.int .i64 a0_1) ∧ w'.cell? ⟨gb261, 2, none⟩ = some (.int .i64 a0_2) ∧ w'.cell? ⟨gb261, 3, none⟩ = some (.slice A0_3 l0_3.length c0_3) ∧ w'.cell? ⟨gb261, 4, none⟩ = some (.slice A0_4 l0_4.length c0_4) ∧ w'.cell? ⟨gb262, 0, none⟩ = some (.int .i64 a1_0) ∧ w'.cell? ⟨gb262, 1, none⟩ = some (.int .i64 a1_1) ∧ w'.cell? ⟨gb262, 2, none⟩ = some (.int .i64 a1_2) ∧ w'.cell? ⟨gb262, 3, none⟩ = some (.slice A1_3 l1_3.length c1_3) ∧ w'.cell? ⟨gb262, 4, none⟩ = some (.slice A1_4 l1_4.length c1_4)) (ds := []) ba8_6 (by kernel_rfl) rfl rfl ⟨(blk_cell BK261.out 0).trans rfl, (blk_cell BK261.out 1).trans rfl, (blk_cell BK261.out 2).trans rfl, (blk_cell BK261.out 3).trans rfl, (blk_cell BK261.out 4).trans rfl, (blk_cell BK262.out 0).trans rfl, (blk_cell BK262.out 1).trans rfl, (blk_cell BK262.out 2).trans rfl, (blk_cell BK262.out 3).trans rfl, (blk_cell BK262.out 4).trans rfl⟩ (fun hHeld => ?_)
      generalize w80.drew = w81 at BK261 BK262 HB hHeld ⊢
      refine take_ (i := 0) (N := some 36) (v := ?_) (a' := ?_) ba8_7 rfl rfl (by kernel_rfl) (fun _ _ _ h => h) (Or.inl ⟨by rfl, ?_⟩) hHeld ?_ ?_
      rotate_left; · rintro w' ⟨s0, s1, s2, s3, s4, s5, s6, s7, s8, s9⟩; go_simp; with_reducible rfl
      rotate_left; · simp only [Act.put, List.setIfInBounds_toArray, List.set_cons_zero, List.set_cons_succ, i64_w, i32_w]; rfl
      refine take_ (i := 2) (N := some 38) (v := ?_) (a' := ?_) ba8_8 rfl rfl (by kernel_rfl) (fun _ _ _ h => h) (Or.inl ⟨by rfl, ?_⟩) hHeld ?_ ?_
      rotate_left; · rintro w' ⟨s0, s1, s2, s3, s4, s5, s6, s7, s8, s9⟩; go_simp; with_reducible rfl
      rotate_left; · simp only [Act.put, List.setIfInBounds_toArray, List.set_cons_zero, List.set_cons_succ, i64_w, i32_w]; rfl
      refine one_ (i := 1) (N := some 37) ba8_9 rfl rfl (by kernel_rfl) (by decide) (fun K hK => ?_)
      refine gz_ Try.func25 #[.agg #[.int .i64 a0_0, .int .i64 a0_1, .int .i64 a0_2, .slice A0_3 l0_3.length c0_3, .slice A0_4 l0_4.length c0_4]] ?_
      with_reducible refine (spec_LsaSum.calls kj2 a0_0 a0_1 a0_2 _ _ l0_3 _ _ l0_4 t268 _ ?side1 ?side2 ?side3 ?side4 A72.out).mono ?_
      (case side1 => exact cb_ HR0_3 HB)
      (case side2 => exact HC0_3.out)
      (case side3 => exact cb_ HR0_4 HB)
      (case side4 => exact HC0_4.out)
      rintro e w82 ⟨rfl, hb⟩
      refine ⟨_, rfl, ?_⟩
      replace BK261 := Aside0.mk (bb_ BK261 hb)
      replace BK262 := Aside0.mk (bb_ BK262 hb)
      replace HB := Aside0.mk (bt_ HB hb)
      (try clear hb)
      (try clear hb2)
      (try clear hk)
      (try clear hi)
      refine hK.out _ _ ⟨(blk_cell BK261.out 0).trans rfl, (blk_cell BK261.out 1).trans rfl, (blk_cell BK261.out 2).trans rfl, (blk_cell BK261.out 3).trans rfl, (blk_cell BK261.out 4).trans rfl, (blk_cell BK262.out 0).trans rfl, (blk_cell BK262.out 1).trans rfl, (blk_cell BK262.out 2).trans rfl, (blk_cell BK262.out 3).trans rfl, (blk_cell BK262.out 4).trans rfl⟩ (fun hHeld => ?_)
      clear hK K
      refine nz_ 37 ?_
      refine one_ (i := 3) (N := some 39) ba8_10 rfl rfl (by kernel_rfl) (by decide) (fun K hK => ?_)
      refine gz_ Try.func25 #[.agg #[.int .i64 a1_0, .int .i64 a1_1, .int .i64 a1_2, .slice A1_3 l1_3.length c1_3, .slice A1_4 l1_4.length c1_4]] ?_
      with_reducible refine (spec_LsaSum.calls kj2 a1_0 a1_1 a1_2 _ _ l1_3 _ _ l1_4 t269 _ ?side1 ?side2 ?side3 ?side4 A73.out).mono ?_
      (case side1 => exact cb_ HR1_3 HB)
      (case side2 => exact HC1_3.out)
      (case side3 => exact cb_ HR1_4 HB)
      (case side4 => exact HC1_4.out)
      rintro e w83 ⟨rfl, hb⟩
      refine ⟨_, rfl, ?_⟩
      replace BK261 := Aside0.mk (bb_ BK261 hb)
      replace BK262 := Aside0.mk (bb_ BK262 hb)
      replace HB := Aside0.mk (bt_ HB hb)
      (try clear hb)
      (try clear hb2)
      (try clear hk)
      (try clear hi)
      refine hK.out _ _ ⟨(blk_cell BK261.out 0).trans rfl, (blk_cell BK261.out 1).trans rfl, (blk_cell BK261.out 2).trans rfl, (blk_cell BK261.out 3).trans rfl, (blk_cell BK261.out 4).trans rfl, (blk_cell BK262.out 0).trans rfl, (blk_cell BK262.out 1).trans rfl, (blk_cell BK262.out 2).trans rfl, (blk_cell BK262.out 3).trans rfl, (blk_cell BK262.out 4).trans rfl⟩ (fun hHeld => ?_)
      clear hK K
      refine nz_ 39 ?_
      refine pure_ (i := 4) (N := some 40) (v := ?_) (a' := ?_) ba8_11 rfl rfl (by kernel_rfl) (fun _ _ _ h => h) (Or.inl ⟨by rfl, ?_⟩) ?_ ?_
      rotate_left; · intro w'; go_simp; with_reducible rfl
      rotate_left; · simp only [Act.put, List.setIfInBounds_toArray, List.set_cons_zero, List.set_cons_succ, i64_w, i32_w]; rfl
      refine one_ (i := 5) (N := some 41) ba8_12 rfl rfl (by kernel_rfl) (by decide) (fun K hK => ?_)
      refine gz_ Try.func79 #[.int .i64 (wrap64 (t268 - t269))] ?_
      with_reducible refine (spec_l05Sign.calls (wrap64 (t268 - t269)) t270 _ A74.out).mono ?_
      rintro e w' ⟨rfl, ⟨nd, rfl⟩⟩
      refine ⟨_, rfl, ?_⟩
      refine hK.out _ _ ⟨(blk_cell BK261.out 0).trans rfl, (blk_cell BK261.out 1).trans rfl, (blk_cell BK261.out 2).trans rfl, (blk_cell BK261.out 3).trans rfl, (blk_cell BK261.out 4).trans rfl, (blk_cell BK262.out 0).trans rfl, (blk_cell BK262.out 1).trans rfl, (blk_cell BK262.out 2).trans rfl, (blk_cell BK262.out 3).trans rfl, (blk_cell BK262.out 4).trans rfl⟩ (fun hHeld => ?_)
      clear hK K
      refine nz_ 41 ?_
      refine pure_ (i := 6) (N := some 4) (v := ?_) (a' := ?_) ba8_13 rfl rfl (by kernel_rfl) (fun _ _ _ h => h) (Or.inl ⟨by rfl, ?_⟩) ?_ ?_
      rotate_left; · intro w'; go_simp; with_reducible rfl
      rotate_left; · simp only [Act.put, List.setIfInBounds_toArray, List.set_cons_zero, List.set_cons_succ, i64_w, i32_w]; rfl
      refine done_ (by kernel_rfl) ?_
      try go_wp2
      go_ret
      exact ⟨by first | rfl | (simp [errW_none, errW_some] <;> rfl) | (simp [*, errW_none, errW_some] <;> rfl), by repeat (first | (with_reducible first | exact HB.out | apply below_alloc | apply pw_below_drewN | apply below_drew1 | refine below_set ?_ GE261.out | refine below_set ?_ GE262.out) | exact HB.out)⟩
    ·rw [if_neg c26] at H
     have c26b0 : (a0_1 == a1_1) = false := beq_eq_false_iff_ne.mpr c26
     have c26b1 : (a0_1 != a1_1) = true := bne_iff_ne.mpr c26
     replace H := Option.bind_eq_some_iff.mp H
     obtain ⟨t265, A840, H⟩ := H
     have A84 := Aside0.mk A840
     clear A840
     obtain rfl := Option.some.inj H
     have hnb85 := NB261_262.out
     have hnc85 := NB262_261.out
     have hcz86_0 := cz_ BK261 0 (.int .i64 a0_0)
     have hcz86_1 := cz_ BK261 1 (.int .i64 a0_1)
     have hcz86_2 := cz_ BK261 2 (.int .i64 a0_2)
     have hcz86_3 := cz_ BK261 3 (.slice A0_3 l0_3.length c0_3)
     have hcz86_4 := cz_ BK261 4 (.slice A0_4 l0_4.length c0_4)
     have hfz86_0 := blk_frozen BK261.out 0
     have hfz86_1 := blk_frozen BK261.out 1
     have hfz86_2 := blk_frozen BK261.out 2
     have hfz86_3 := blk_frozen BK261.out 3
     have hfz86_4 := blk_frozen BK261.out 4
     have hcz87_0 := cz_ BK262 0 (.int .i64 a1_0)
     have hcz87_1 := cz_ BK262 1 (.int .i64 a1_1)
     have hcz87_2 := cz_ BK262 2 (.int .i64 a1_2)
     have hcz87_3 := cz_ BK262 3 (.slice A1_3 l1_3.length c1_3)
     have hcz87_4 := cz_ BK262 4 (.slice A1_4 l1_4.length c1_4)
     have hfz87_0 := blk_frozen BK262.out 0
     have hfz87_1 := blk_frozen BK262.out 1
     have hfz87_2 := blk_frozen BK262.out 2
     have hfz87_3 := blk_frozen BK262.out 3
     have hfz87_4 := blk_frozen BK262.out 4
     go_wp2_with (first | ((with_reducible refine gate_callee (f := 79) rfl ?_); refine gl_ (some 30) Try.func79 #[.int .i64 (wrap64 (a0_1 - a1_1))] ?_; (with_reducible refine (spec_l05Sign.calls (wrap64 (a0_1 - a1_1)) t265 _ A84.out).mono ?_); rintro e w' ⟨rfl, ⟨nd, rfl⟩⟩; refine ⟨_, rfl, ?_⟩))
     go_ret
     exact ⟨by first | rfl | (simp [errW_none, errW_some] <;> rfl) | (simp [*, errW_none, errW_some] <;> rfl), by repeat (first | (with_reducible first | exact HB.out | apply below_alloc | apply pw_below_drewN | apply below_drew1 | refine below_set ?_ GE261.out | refine below_set ?_ GE262.out) | exact HB.out)⟩

end Go.Proofs.Ytiikcfaodkiakaa.QFnExactNewer
