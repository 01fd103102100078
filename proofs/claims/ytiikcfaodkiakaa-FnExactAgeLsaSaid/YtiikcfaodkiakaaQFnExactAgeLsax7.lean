/- Contracts of functions that the law reaches: what each call returns and what it leaves in memory. Made by this session over the print of the kit. -/
import Derived.Test.YtiikcfaodkiakaaQFnExactAgeLsax0
import Derived.Test.YtiikcfaodkiakaaQFnExactAgeLsax3
import Derived.Test.YtiikcfaodkiakaaQFnExactAgeLsax5
import Derived.Test.YtiikcfaodkiakaaQFnExactAgeLsax6
namespace Go.Proofs.Ytiikcfaodkiakaa.QFnExactAgeLsa
open Go.RowKit Go.Proofs.YtiikcfaodkiakaaU.PrintWords Go.Proofs.YtiikcfaodkiakaaU.PrintLast Go.Proofs.YtiikcfaodkiakaaU.PrintMore
attribute [local go_sem] max2_int min2_int max_two min_two max_three min_three max_four min_four   -- for this text's walks alone
set_option linter.unusedVariables false
set_option linter.unusedSimpArgs false

/-! ### spec_AgeLsa: function 39 -/
def spec_AgeLsa.j0 : Nat → Int → Bool → Int → Int → Int → List (S70) → List (S74) → Int → Int → Int → List (S70) → List (S74) → Option (Int × Int × Int × (List (S70)) × (List (S74)) × Bool)
 | 0, _, _, _, _, _, _, _, _, _, _, _, _ => none
 | k + 1, x1, x16, x208000, x208001, x208002, x208003, x208004, x219000, x219001, x219002, x219003, x219004 => if x16 = true then (some (x219000, x219001, x219002, x219003, x219004, false)) else (if (wrap64 (x208002 + x1)) > 60 then (some (x219000, x219001, 60, x219003, x219004, true)) else (some (x219000, x219001, wrap64 (x208002 + x1), x219003, x219004, true)))
def spec_AgeLsa.f (k : Nat) (a0_0 : Int) (a0_1 : Int) (a0_2 : Int) (l0_3 : List (S70)) (l0_4 : List (S74)) (a1 : Int) : Option (Int × Int × Int × (List (S70)) × (List (S74)) × Bool) := (spec_l05Copy.f k a0_0 a0_1 a0_2 l0_3 l0_4).bind fun bt209 => ((spec_LsaOk.f k a0_0 a0_1 a0_2 l0_3 l0_4).bind fun t219 => (if t219 = true then ((spec_l01In.f a1 0 60).bind fun t220 => (spec_AgeLsa.j0 k a1 (!t220) a0_0 a0_1 a0_2 l0_3 l0_4 bt209.1 bt209.2.1 bt209.2.2.1 bt209.2.2.2.1 bt209.2.2.2.2)) else (spec_AgeLsa.j0 k a1 true a0_0 a0_1 a0_2 l0_3 l0_4 bt209.1 bt209.2.1 bt209.2.2.1 bt209.2.2.2.1 bt209.2.2.2.2)))
theorem spec_AgeLsa.mono_l : ∀ k, (∀ y0 y1 y2 y3 y4 y5 y6 y7 y8 y9 y10 y11, LeO (spec_AgeLsa.j0 k y0 y1 y2 y3 y4 y5 y6 y7 y8 y9 y10 y11) (spec_AgeLsa.j0 (k + 1) y0 y1 y2 y3 y4 y5 y6 y7 y8 y9 y10 y11))
 | 0 => fun _ _ _ _ _ _ _ _ _ _ _ _ r h => by simp [spec_AgeLsa.j0] at h
 | k + 1 => by
  have ih0 := spec_AgeLsa.mono_l k
  ·intro y0 y1 y2 y3 y4 y5 y6 y7 y8 y9 y10 y11
   unfold spec_AgeLsa.j0
   repeat' first
   | (with_reducible exact ih0 _ _ _ _ _ _ _ _ _ _ _ _)
   | (with_reducible exact spec_LsaOk.mono _ _ _ _ _ _)
   | (with_reducible exact spec_l05Copy.mono _ _ _ _ _ _)
   | (with_reducible exact LeO.refl _)
   | (with_reducible exact LeO.none _)
   | (with_reducible refine LeO.ite ?_ ?_)
   | (with_reducible refine LeO.bind ?_ (fun _ => ?_))
   | exact ih0 _ _ _ _ _ _ _ _ _ _ _ _
   | exact spec_LsaOk.mono _ _ _ _ _ _
   | exact spec_l05Copy.mono _ _ _ _ _ _
   | exact LeO.none _
   | refine LeO.ite ?_ ?_
   | refine LeO.bind ?_ (fun _ => ?_)
theorem spec_AgeLsa.mono : ∀ a0 a1 a2 a3 a4 a5 k, LeO (spec_AgeLsa.f k a0 a1 a2 a3 a4 a5) (spec_AgeLsa.f (k + 1) a0 a1 a2 a3 a4 a5) := by
 intro a0 a1 a2 a3 a4 a5 k
 have ih0 := spec_AgeLsa.mono_l k
 unfold spec_AgeLsa.f
 repeat' first
   | (with_reducible exact ih0 _ _ _ _ _ _ _ _ _ _ _ _)
   | (with_reducible exact spec_LsaOk.mono _ _ _ _ _ _)
   | (with_reducible exact spec_l05Copy.mono _ _ _ _ _ _)
   | (with_reducible exact LeO.refl _)
   | (with_reducible exact LeO.none _)
   | (with_reducible refine LeO.ite ?_ ?_)
   | (with_reducible refine LeO.bind ?_ (fun _ => ?_))
   | exact ih0 _ _ _ _ _ _ _ _ _ _ _ _
   | exact spec_LsaOk.mono _ _ _ _ _ _
   | exact spec_l05Copy.mono _ _ _ _ _ _
   | exact LeO.none _
   | refine LeO.ite ?_ ?_
   | refine LeO.bind ?_ (fun _ => ?_)
set_option maxHeartbeats 8000000 in
set_option maxRecDepth 100000 in
theorem spec_AgeLsa.calls (k : Nat) (a0_0 : Int) (a0_1 : Int) (a0_2 : Int) (A0_3 : Option Addr) (c0_3 : Nat) (l0_3 : List (S70)) (A0_4 : Option Addr) (c0_4 : Nat) (l0_4 : List (S74)) (a1 : Int) (r1 : Int) (r2 : Int) (r3 : Int) (r4 : List (S70)) (r5 : List (S74)) (r6 : Bool) (w : World) (hr0_3 : Kd.C k70 w A0_3 l0_3.length l0_3) (hc0_3 : l0_3.length ≤ c0_3) (hr0_4 : Kd.C k74 w A0_4 l0_4.length l0_4) (hc0_4 : l0_4.length ≤ c0_4) (h : spec_AgeLsa.f k a0_0 a0_1 a0_2 l0_3 l0_4 a1 = some (r1, r2, r3, r4, r5, r6)) :
  Calls Try.prog 39 #[.agg #[.int .i64 a0_0, .int .i64 a0_1, .int .i64 a0_2, .slice A0_3 l0_3.length c0_3, .slice A0_4 l0_4.length c0_4], .int .i64 a1] w fun e w' => ∃ v3_ v4_ : Value, e = .returned (.tuple #[.agg #[.int .i64 r1, .int .i64 r2, .int .i64 r3, v3_, v4_], .bool r6]) ∧ Kd.R k70 70 w' w.heap.size (fun _ => True) v3_ r4 ∧ Kd.R k74 74 w' w.heap.size (fun _ => True) v4_ r5 ∧ Below w.heap.size w w' := by
 have hu31 := Try.underlying31
 have HR0_3 := Aside0.mk hr0_3
 have HC0_3 := Aside0.mk hc0_3
 clear hr0_3 hc0_3
 have HR0_4 := Aside0.mk hr0_4
 have HC0_4 := Aside0.mk hc0_4
 clear hr0_4 hc0_4
 have HB := Aside0.mk (Below.refl w.heap.size w)
 have H : ((spec_l05Copy.f k a0_0 a0_1 a0_2 l0_3 l0_4).bind fun bt209 => ((spec_LsaOk.f k a0_0 a0_1 a0_2 l0_3 l0_4).bind fun t219 => (if t219 = true then ((spec_l01In.f a1 0 60).bind fun t220 => (spec_AgeLsa.j0 k a1 (!t220) a0_0 a0_1 a0_2 l0_3 l0_4 bt209.1 bt209.2.1 bt209.2.2.1 bt209.2.2.2.1 bt209.2.2.2.2)) else (spec_AgeLsa.j0 k a1 true a0_0 a0_1 a0_2 l0_3 l0_4 bt209.1 bt209.2.1 bt209.2.2.1 bt209.2.2.2.1 bt209.2.2.2.2)))) = some (r1, r2, r3, r4, r5, r6) := h
 clear h
 replace H := Option.bind_eq_some_iff.mp H
 obtain ⟨⟨t209, t210, t211, t212, t215⟩, A30, H⟩ := H
 have A3 := Aside0.mk A30
 clear A30
 have HC4 := Aside0.mk H
 clear H
 go_enter Try.func39, Try.ntmps39
 go_upto_region 2 with (first | ((with_reducible refine gate_dst (N := 2) rfl ?_); refine box_event ?hg (N := 2) ?hd (cs := #[.int .i64 a0_0, .int .i64 a0_1, .int .i64 a0_2, .slice A0_3 l0_3.length c0_3, .slice A0_4 l0_4.length c0_4]) (t := 31) ?hr ?_; (case hd => rfl); (case hg => rfl); (case hr => first | (go_simp; done) | (go_simp; rfl)); intro gb207 hg w5 hbox hb; have BK207 := Aside0.mk hbox; have GW207 := ge_ HB hg; have GE207 := ge_ HB hg; replace HB := Aside0.mk (bt_ HB hb); clear hb hbox hg) | ((with_reducible refine gate_dst (N := 4) rfl ?_); refine box_event ?hg (N := 4) ?hd (cs := #[.int .i64 0, .int .i64 0, .int .i64 0, .slice none 0 0, .slice none 0 0]) (t := 31) ?hr ?_; (case hd => rfl); (case hg => rfl); (case hr => first | (go_simp; done) | (go_simp; rfl)); intro gb208 hg w6 hbox hb; have BK208 := Aside0.mk hbox; have GW208 := ge_ HB hg; have GE208 := ge_ HB hg; have NB207_208 := nl_ BK207 hg; have NB208_207 := ng_ BK207 hg; replace HB := Aside0.mk (bt_ HB hb); replace BK207 := Aside0.mk (bb_ BK207 hb); clear hb hbox hg; have hnb7 := NB207_208.out; have hnc7 := NB208_207.out; have hcz8_0 := cz_ BK207 0 (.int .i64 a0_0); have hcz8_1 := cz_ BK207 1 (.int .i64 a0_1); have hcz8_2 := cz_ BK207 2 (.int .i64 a0_2); have hcz8_3 := cz_ BK207 3 (.slice A0_3 l0_3.length c0_3); have hcz8_4 := cz_ BK207 4 (.slice A0_4 l0_4.length c0_4); have hfz8_0 := blk_frozen BK207.out 0; have hfz8_1 := blk_frozen BK207.out 1; have hfz8_2 := blk_frozen BK207.out 2; have hfz8_3 := blk_frozen BK207.out 3; have hfz8_4 := blk_frozen BK207.out 4) | ((with_reducible refine gate_callee (f := 64) rfl ?_); refine gl_ (some 8) Try.func64 #[.agg #[.int .i64 a0_0, .int .i64 a0_1, .int .i64 a0_2, .slice A0_3 l0_3.length c0_3, .slice A0_4 l0_4.length c0_4]] ?_; (with_reducible refine (spec_l05Copy.calls k a0_0 a0_1 a0_2 _ _ l0_3 _ _ l0_4 t209 t210 t211 t212 t215 _ ?side1 ?side2 ?side3 ?side4 A3.out).mono ?_); (case side1 => exact cb_ HR0_3 HB); (case side2 => exact HC0_3.out); (case side3 => exact cb_ HR0_4 HB); (case side4 => exact HC0_4.out); rintro e w9 ⟨v213, v216, rfl, ho0, ho1, hb⟩; refine ⟨_, rfl, ?_⟩; have HO214 := Aside0.mk (Kd.R_lower ho0 (bz_ HB)); have HO217 := Aside0.mk (Kd.R_lower ho1 (bz_ HB)); replace BK207 := Aside0.mk (bb_ BK207 hb); replace BK208 := Aside0.mk (bb_ BK208 hb); replace HB := Aside0.mk (bt_ HB hb); (try clear hb); (try clear hb2); (try clear hk); (try clear hi); (try clear ho0); (try clear ho1)) | ((with_reducible refine gate_dst (N := 6) rfl ?_); refine box_event ?hg (N := 6) ?hd (cs := #[.int .i64 0, .int .i64 0, .int .i64 0, .slice none 0 0, .slice none 0 0]) (t := 31) ?hr ?_; (case hd => rfl); (case hg => rfl); (case hr => first | (go_simp; done) | (go_simp; rfl)); intro gb218 hg w10 hbox hb; have BK218 := Aside0.mk hbox; have GW218 := ge_ HB hg; have GE218 := ge_ HB hg; have NB207_218 := nl_ BK207 hg; have NB218_207 := ng_ BK207 hg; have NB208_218 := nl_ BK208 hg; have NB218_208 := ng_ BK208 hg; replace HO214 := rb_ HO214 hb; replace HO217 := rb_ HO217 hb; replace HB := Aside0.mk (bt_ HB hb); replace BK207 := Aside0.mk (bb_ BK207 hb); replace BK208 := Aside0.mk (bb_ BK208 hb); clear hb hbox hg; have hnb11 := NB218_207.out; have hnc11 := NB207_218.out; have hnb12 := NB218_208.out; have hnc12 := NB208_218.out; have hcz13_0 := cz_ BK218 0 (.int .i64 0); have hcz13_1 := cz_ BK218 1 (.int .i64 0); have hcz13_2 := cz_ BK218 2 (.int .i64 0); have hcz13_3 := cz_ BK218 3 (.slice none 0 0); have hcz13_4 := cz_ BK218 4 (.slice none 0 0); have hfz13_0 := blk_frozen BK218.out 0; have hfz13_1 := blk_frozen BK218.out 1; have hfz13_2 := blk_frozen BK218.out 2; have hfz13_3 := blk_frozen BK218.out 3; have hfz13_4 := blk_frozen BK218.out 4; obtain ⟨Ao14, co14, eo14⟩ := Kd.R_slice HO214.out; subst eo14; obtain ⟨Ao15, co15, eo15⟩ := Kd.R_slice HO217.out; subst eo15))
 (try simp only [Act.put, List.setIfInBounds_toArray, List.set_cons_zero, List.set_cons_succ])
 go_cut [16] (fun v16 wc => ∃ (kq : Nat) (x16_3 : Bool), v16 = .bool x16_3 ∧ Aside0 (spec_AgeLsa.j0 kq a1 x16_3 a0_0 a0_1 a0_2 l0_3 l0_4 t209 t210 t211 t212 t215 = some (r1, r2, r3, r4, r5, r6)) ∧ Aside0 (kq ≤ k) ∧ Aside0 (Kd.R k70 70 wc w.heap.size (fun _ => True) (.slice Ao14 t212.length co14) t212) ∧ Aside0 (Kd.R k74 74 wc w.heap.size (fun _ => True) (.slice Ao15 t215.length co15) t215) ∧ Aside0 (wc.heap[gb207]? = some (.cells #[.int .i64 a0_0, .int .i64 a0_1, .int .i64 a0_2, (.slice A0_3 l0_3.length c0_3), (.slice A0_4 l0_4.length c0_4)] 31 (0, 0))) ∧ Aside0 (wc.heap[gb208]? = some (.cells #[.int .i64 0, .int .i64 0, .int .i64 0, (.slice none 0 0), (.slice none 0 0)] 31 (0, 0))) ∧ Aside0 (wc.heap[gb218]? = some (.cells #[.int .i64 t209, .int .i64 t210, .int .i64 t211, (.slice Ao14 t212.length co14), (.slice Ao15 t215.length co15)] 31 (0, 0))) ∧ Aside0 (Below w.heap.size w wc))
 case first =>
  have H := HC4.out
  clear HC4
  replace H := Option.bind_eq_some_iff.mp H
  obtain ⟨t219, A160, H⟩ := H
  have A16 := Aside0.mk A160
  clear A160
  by_cases c17 : t219 = true
  ·subst c17
   rw [if_pos rfl] at H
   replace H := Option.bind_eq_some_iff.mp H
   obtain ⟨t220, A180, H⟩ := H
   have A18 := Aside0.mk A180
   clear A180
   have H' := Aside0.mk H
   clear H
   have hnb19 := NB207_208.out
   have hnc19 := NB208_207.out
   have hnb20 := NB207_218.out
   have hnc20 := NB218_207.out
   have hcz21_0 := cz_ BK207 0 (.int .i64 a0_0)
   have hcz21_1 := cz_ BK207 1 (.int .i64 a0_1)
   have hcz21_2 := cz_ BK207 2 (.int .i64 a0_2)
   have hcz21_3 := cz_ BK207 3 (.slice A0_3 l0_3.length c0_3)
   have hcz21_4 := cz_ BK207 4 (.slice A0_4 l0_4.length c0_4)
   have hfz21_0 := blk_frozen BK207.out 0
   have hfz21_1 := blk_frozen BK207.out 1
   have hfz21_2 := blk_frozen BK207.out 2
   have hfz21_3 := blk_frozen BK207.out 3
   have hfz21_4 := blk_frozen BK207.out 4
   go_wp2_with (first | ((with_reducible refine gate_callee (f := 14) rfl ?_); refine gl_ (some 10) Try.func14 #[.agg #[.int .i64 a0_0, .int .i64 a0_1, .int .i64 a0_2, .slice A0_3 l0_3.length c0_3, .slice A0_4 l0_4.length c0_4]] ?_; (with_reducible refine (spec_LsaOk.calls k a0_0 a0_1 a0_2 _ _ l0_3 _ _ l0_4 true _ ?side1 ?side2 ?side3 ?side4 A16.out).mono ?_); (case side1 => exact Kd.C_below HR0_3.out (by repeat (first | (with_reducible first | exact HB.out | apply below_alloc | apply pw_below_drewN | apply below_drew1 | refine below_set ?_ GE207.out | refine below_set ?_ GE208.out | refine below_set ?_ GE218.out) | exact HB.out))); (case side2 => exact HC0_3.out); (case side3 => exact Kd.C_below HR0_4.out (by repeat (first | (with_reducible first | exact HB.out | apply below_alloc | apply pw_below_drewN | apply below_drew1 | refine below_set ?_ GE207.out | refine below_set ?_ GE208.out | refine below_set ?_ GE218.out) | exact HB.out))); (case side4 => exact HC0_4.out); rintro e w22 ⟨rfl, hb⟩; refine ⟨_, rfl, ?_⟩; replace HO214 := rs_ HO214 BK218 hb; replace HO217 := rs_ HO217 BK218 hb; replace BK207 := bf_ BK207 NB207_218 hb; replace BK208 := bf_ BK208 NB208_218 hb; replace BK218 := Aside0.mk (blk_below (g := gb218) (o := .cells #[.int .i64 t209, .int .i64 t210, .int .i64 t211, .slice Ao14 t212.length co14, .slice Ao15 t215.length co15] 31 (0, 0)) (by (with_reducible repeat (first | refine blk_drewN ?_ _ | refine blk_drew ?_ | refine blk_alloc ?_ _)); refine blk_put (cs := #[.int .i64 t209, .int .i64 t210, .int .i64 t211, .slice Ao14 t212.length co14, .slice none 0 0]) ?_ 4 _ rfl; (with_reducible repeat (first | refine blk_drewN ?_ _ | refine blk_drew ?_ | refine blk_alloc ?_ _)); refine blk_put (cs := #[.int .i64 t209, .int .i64 t210, .int .i64 t211, .slice none 0 0, .slice none 0 0]) ?_ 3 _ rfl; (with_reducible repeat (first | refine blk_drewN ?_ _ | refine blk_drew ?_ | refine blk_alloc ?_ _)); refine blk_put (cs := #[.int .i64 t209, .int .i64 t210, .int .i64 0, .slice none 0 0, .slice none 0 0]) ?_ 2 _ rfl; (with_reducible repeat (first | refine blk_drewN ?_ _ | refine blk_drew ?_ | refine blk_alloc ?_ _)); refine blk_put (cs := #[.int .i64 t209, .int .i64 0, .int .i64 0, .slice none 0 0, .slice none 0 0]) ?_ 1 _ rfl; (with_reducible repeat (first | refine blk_drewN ?_ _ | refine blk_drew ?_ | refine blk_alloc ?_ _)); refine blk_put (cs := #[.int .i64 0, .int .i64 0, .int .i64 0, .slice none 0 0, .slice none 0 0]) ?_ 0 _ rfl; (with_reducible repeat (first | refine blk_drewN ?_ _ | refine blk_drew ?_ | refine blk_alloc ?_ _)); exact BK218.out) hb); replace HB := Aside0.mk (bt_ HB hb); (try clear hb); (try clear hb2); (try clear hk); (try clear hi)) | (go_at_call 52; (with_reducible refine (spec_l01In.calls a1 0 60 t220 _ A18.out).mono ?_); rintro e w' ⟨rfl, ⟨nd, rfl⟩⟩))
   go_meet
   case rel => exact ⟨_, (!t220), (by first | rfl | (simp; done) | (simp [*]; done)), H', ⟨by first | omega | exact Nat.le_refl _⟩, ⟨by (with_reducible repeat (first | apply Kd.R_alloc | apply Kd.R_drewN | apply Kd.R_drew)); exact HO214.out⟩, ⟨by (with_reducible repeat (first | apply Kd.R_alloc | apply Kd.R_drewN | apply Kd.R_drew)); exact HO217.out⟩, ⟨by (with_reducible repeat (first | refine blk_drewN ?_ _ | refine blk_drew ?_ | refine blk_alloc ?_ _)); exact BK207.out⟩, ⟨by (with_reducible repeat (first | refine blk_drewN ?_ _ | refine blk_drew ?_ | refine blk_alloc ?_ _)); exact BK208.out⟩, ⟨by (with_reducible repeat (first | refine blk_drewN ?_ _ | refine blk_drew ?_ | refine blk_alloc ?_ _)); exact BK218.out⟩, ⟨by repeat (first | (with_reducible first | exact HB.out | apply below_alloc | apply pw_below_drewN | apply below_drew1 | refine below_set ?_ GE207.out | refine below_set ?_ GE208.out | refine below_set ?_ GE218.out) | exact HB.out)⟩⟩
  ·replace c17 := Bool.eq_false_iff.mpr c17
   subst c17
   rw [if_neg (show ¬ (false = true) by decide)] at H
   have H' := Aside0.mk H
   clear H
   have hnb23 := NB207_208.out
   have hnc23 := NB208_207.out
   have hnb24 := NB207_218.out
   have hnc24 := NB218_207.out
   have hcz25_0 := cz_ BK207 0 (.int .i64 a0_0)
   have hcz25_1 := cz_ BK207 1 (.int .i64 a0_1)
   have hcz25_2 := cz_ BK207 2 (.int .i64 a0_2)
   have hcz25_3 := cz_ BK207 3 (.slice A0_3 l0_3.length c0_3)
   have hcz25_4 := cz_ BK207 4 (.slice A0_4 l0_4.length c0_4)
   have hfz25_0 := blk_frozen BK207.out 0
   have hfz25_1 := blk_frozen BK207.out 1
   have hfz25_2 := blk_frozen BK207.out 2
   have hfz25_3 := blk_frozen BK207.out 3
   have hfz25_4 := blk_frozen BK207.out 4
   go_wp2_with (first | ((with_reducible refine gate_callee (f := 14) rfl ?_); refine gl_ (some 10) Try.func14 #[.agg #[.int .i64 a0_0, .int .i64 a0_1, .int .i64 a0_2, .slice A0_3 l0_3.length c0_3, .slice A0_4 l0_4.length c0_4]] ?_; (with_reducible refine (spec_LsaOk.calls k a0_0 a0_1 a0_2 _ _ l0_3 _ _ l0_4 false _ ?side1 ?side2 ?side3 ?side4 A16.out).mono ?_); (case side1 => exact Kd.C_below HR0_3.out (by repeat (first | (with_reducible first | exact HB.out | apply below_alloc | apply pw_below_drewN | apply below_drew1 | refine below_set ?_ GE207.out | refine below_set ?_ GE208.out | refine below_set ?_ GE218.out) | exact HB.out))); (case side2 => exact HC0_3.out); (case side3 => exact Kd.C_below HR0_4.out (by repeat (first | (with_reducible first | exact HB.out | apply below_alloc | apply pw_below_drewN | apply below_drew1 | refine below_set ?_ GE207.out | refine below_set ?_ GE208.out | refine below_set ?_ GE218.out) | exact HB.out))); (case side4 => exact HC0_4.out); rintro e w26 ⟨rfl, hb⟩; refine ⟨_, rfl, ?_⟩; replace HO214 := rs_ HO214 BK218 hb; replace HO217 := rs_ HO217 BK218 hb; replace BK207 := bf_ BK207 NB207_218 hb; replace BK208 := bf_ BK208 NB208_218 hb; replace BK218 := Aside0.mk (blk_below (g := gb218) (o := .cells #[.int .i64 t209, .int .i64 t210, .int .i64 t211, .slice Ao14 t212.length co14, .slice Ao15 t215.length co15] 31 (0, 0)) (by (with_reducible repeat (first | refine blk_drewN ?_ _ | refine blk_drew ?_ | refine blk_alloc ?_ _)); refine blk_put (cs := #[.int .i64 t209, .int .i64 t210, .int .i64 t211, .slice Ao14 t212.length co14, .slice none 0 0]) ?_ 4 _ rfl; (with_reducible repeat (first | refine blk_drewN ?_ _ | refine blk_drew ?_ | refine blk_alloc ?_ _)); refine blk_put (cs := #[.int .i64 t209, .int .i64 t210, .int .i64 t211, .slice none 0 0, .slice none 0 0]) ?_ 3 _ rfl; (with_reducible repeat (first | refine blk_drewN ?_ _ | refine blk_drew ?_ | refine blk_alloc ?_ _)); refine blk_put (cs := #[.int .i64 t209, .int .i64 t210, .int .i64 0, .slice none 0 0, .slice none 0 0]) ?_ 2 _ rfl; (with_reducible repeat (first | refine blk_drewN ?_ _ | refine blk_drew ?_ | refine blk_alloc ?_ _)); refine blk_put (cs := #[.int .i64 t209, .int .i64 0, .int .i64 0, .slice none 0 0, .slice none 0 0]) ?_ 1 _ rfl; (with_reducible repeat (first | refine blk_drewN ?_ _ | refine blk_drew ?_ | refine blk_alloc ?_ _)); refine blk_put (cs := #[.int .i64 0, .int .i64 0, .int .i64 0, .slice none 0 0, .slice none 0 0]) ?_ 0 _ rfl; (with_reducible repeat (first | refine blk_drewN ?_ _ | refine blk_drew ?_ | refine blk_alloc ?_ _)); exact BK218.out) hb); replace HB := Aside0.mk (bt_ HB hb); (try clear hb); (try clear hb2); (try clear hk); (try clear hi)))
   go_meet
   case rel => exact ⟨_, (true), (by first | rfl | (simp; done) | (simp [*]; done)), H', ⟨by first | omega | exact Nat.le_refl _⟩, ⟨by (with_reducible repeat (first | apply Kd.R_alloc | apply Kd.R_drewN | apply Kd.R_drew)); exact HO214.out⟩, ⟨by (with_reducible repeat (first | apply Kd.R_alloc | apply Kd.R_drewN | apply Kd.R_drew)); exact HO217.out⟩, ⟨by (with_reducible repeat (first | refine blk_drewN ?_ _ | refine blk_drew ?_ | refine blk_alloc ?_ _)); exact BK207.out⟩, ⟨by (with_reducible repeat (first | refine blk_drewN ?_ _ | refine blk_drew ?_ | refine blk_alloc ?_ _)); exact BK208.out⟩, ⟨by (with_reducible repeat (first | refine blk_drewN ?_ _ | refine blk_drew ?_ | refine blk_alloc ?_ _)); exact BK218.out⟩, ⟨by repeat (first | (with_reducible first | exact HB.out | apply below_alloc | apply pw_below_drewN | apply below_drew1 | refine below_set ?_ GE207.out | refine below_set ?_ GE208.out | refine below_set ?_ GE218.out) | exact HB.out)⟩⟩
 case rest =>
  clear HC4
  try clear c1
  try clear c2
  try clear p2
  try clear c3
  try clear c6
  try clear c7
  try clear c11
  try clear c12
  try clear c14
  try clear c17
  try clear c19
  try clear c20
  try clear c23
  try clear c24
  try clear hcz13_0
  try clear hcz13_1
  try clear hcz13_2
  try clear hcz13_3
  try clear hcz13_4
  try clear hcz21_0
  try clear hcz21_1
  try clear hcz21_2
  try clear hcz21_3
  try clear hcz21_4
  try clear hcz25_0
  try clear hcz25_1
  try clear hcz25_2
  try clear hcz25_3
  try clear hcz25_4
  try clear hcz8_0
  try clear hcz8_1
  try clear hcz8_2
  try clear hcz8_3
  try clear hcz8_4
  try clear hfz13_0
  try clear hfz13_1
  try clear hfz13_2
  try clear hfz13_3
  try clear hfz13_4
  try clear hfz21_0
  try clear hfz21_1
  try clear hfz21_2
  try clear hfz21_3
  try clear hfz21_4
  try clear hfz25_0
  try clear hfz25_1
  try clear hfz25_2
  try clear hfz25_3
  try clear hfz25_4
  try clear hfz8_0
  try clear hfz8_1
  try clear hfz8_2
  try clear hfz8_3
  try clear hfz8_4
  obtain ⟨kq, x16_3, rfl, HA, HJ3, HO_219003, HO_219004, BK207, BK208, BK218, HB⟩ := hcut
  cases kq with
  | zero => exact absurd HA.out (by simp [spec_AgeLsa.j0])
  | succ kj3 =>
   have H := HA.out
   clear HA
   simp only [spec_AgeLsa.j0] at H
   by_cases c27 : x16_3 = true
   ·subst c27
    rw [if_pos rfl] at H
    simp only [Option.some.injEq, Prod.mk.injEq] at H
    obtain ⟨rfl, rfl, rfl, rfl, rfl, rfl⟩ := H
    have hnb28 := NB218_207.out
    have hnc28 := NB207_218.out
    have hnb29 := NB218_208.out
    have hnc29 := NB208_218.out
    have hcz30_0 := cz_ BK218 0 (.int .i64 t209)
    have hcz30_1 := cz_ BK218 1 (.int .i64 t210)
    have hcz30_2 := cz_ BK218 2 (.int .i64 t211)
    have hcz30_3 := cz_ BK218 3 (.slice Ao14 t212.length co14)
    have hcz30_4 := cz_ BK218 4 (.slice Ao15 t215.length co15)
    have hfz30_0 := blk_frozen BK218.out 0
    have hfz30_1 := blk_frozen BK218.out 1
    have hfz30_2 := blk_frozen BK218.out 2
    have hfz30_3 := blk_frozen BK218.out 3
    have hfz30_4 := blk_frozen BK218.out 4
    have hnb31 := NB208_207.out
    have hnc31 := NB207_208.out
    have hcz32_0 := cz_ BK208 0 (.int .i64 0)
    have hcz32_1 := cz_ BK208 1 (.int .i64 0)
    have hcz32_2 := cz_ BK208 2 (.int .i64 0)
    have hcz32_3 := cz_ BK208 3 (.slice none 0 0)
    have hcz32_4 := cz_ BK208 4 (.slice none 0 0)
    have hfz32_0 := blk_frozen BK208.out 0
    have hfz32_1 := blk_frozen BK208.out 1
    have hfz32_2 := blk_frozen BK208.out 2
    have hfz32_3 := blk_frozen BK208.out 3
    have hfz32_4 := blk_frozen BK208.out 4
    go_wp2
    refine bodyPost_ret (results_ct rfl _ _ gb208 31 #[.int .i64 t209, .int .i64 t210, .int .i64 t211, .slice Ao14 t212.length co14, .slice Ao15 t215.length co15] (0, 0) _ rfl (by (with_reducible repeat (first | refine blk_drewN ?_ _ | refine blk_drew ?_ | refine blk_alloc ?_ _)); refine blk_put (cs := #[.int .i64 t209, .int .i64 t210, .int .i64 t211, .slice Ao14 t212.length co14, .slice none 0 0]) ?_ 4 _ rfl; (with_reducible repeat (first | refine blk_drewN ?_ _ | refine blk_drew ?_ | refine blk_alloc ?_ _)); refine blk_put (cs := #[.int .i64 t209, .int .i64 t210, .int .i64 t211, .slice none 0 0, .slice none 0 0]) ?_ 3 _ rfl; (with_reducible repeat (first | refine blk_drewN ?_ _ | refine blk_drew ?_ | refine blk_alloc ?_ _)); refine blk_put (cs := #[.int .i64 t209, .int .i64 t210, .int .i64 0, .slice none 0 0, .slice none 0 0]) ?_ 2 _ rfl; (with_reducible repeat (first | refine blk_drewN ?_ _ | refine blk_drew ?_ | refine blk_alloc ?_ _)); refine blk_put (cs := #[.int .i64 t209, .int .i64 0, .int .i64 0, .slice none 0 0, .slice none 0 0]) ?_ 1 _ rfl; (with_reducible repeat (first | refine blk_drewN ?_ _ | refine blk_drew ?_ | refine blk_alloc ?_ _)); refine blk_put (cs := #[.int .i64 0, .int .i64 0, .int .i64 0, .slice none 0 0, .slice none 0 0]) ?_ 0 _ rfl; (with_reducible repeat (first | refine blk_drewN ?_ _ | refine blk_drew ?_ | refine blk_alloc ?_ _)); exact BK208.out) Try.underlying31 rfl (by kernel_rfl)) rfl ?_
    exact ⟨_, _, by first | rfl | (simp [errW_none, errW_some] <;> rfl) | (simp [*, errW_none, errW_some] <;> rfl), by (with_reducible repeat (first | apply Kd.R_alloc | apply Kd.R_drewN | apply Kd.R_drew)); exact Kd.R_mono (Kd.R_far (p := ⟨gb208, 4, none⟩) (Kd.R_far (p := ⟨gb208, 3, none⟩) (Kd.R_far (p := ⟨gb208, 2, none⟩) (Kd.R_far (p := ⟨gb208, 1, none⟩) (Kd.R_far (p := ⟨gb208, 0, none⟩) (Kd.R_types HO_219003.out BK208.out (by decide)) (fun _ hk => hk.2) (.int .i64 t209)) (fun _ hk => hk.2) (.int .i64 t210)) (fun _ hk => hk.2) (.int .i64 t211)) (fun _ hk => hk.2) (.slice Ao14 t212.length co14)) (fun _ hk => hk.2) (.slice Ao15 t215.length co15)) (fun _ hk => trivial), by (with_reducible repeat (first | apply Kd.R_alloc | apply Kd.R_drewN | apply Kd.R_drew)); exact Kd.R_mono (Kd.R_far (p := ⟨gb208, 4, none⟩) (Kd.R_far (p := ⟨gb208, 3, none⟩) (Kd.R_far (p := ⟨gb208, 2, none⟩) (Kd.R_far (p := ⟨gb208, 1, none⟩) (Kd.R_far (p := ⟨gb208, 0, none⟩) (Kd.R_types HO_219004.out BK208.out (by decide)) (fun _ hk => hk.2) (.int .i64 t209)) (fun _ hk => hk.2) (.int .i64 t210)) (fun _ hk => hk.2) (.int .i64 t211)) (fun _ hk => hk.2) (.slice Ao14 t212.length co14)) (fun _ hk => hk.2) (.slice Ao15 t215.length co15)) (fun _ hk => trivial), by repeat (first | (with_reducible first | exact HB.out | apply below_alloc | apply pw_below_drewN | apply below_drew1 | refine below_set ?_ GE207.out | refine below_set ?_ GE208.out | refine below_set ?_ GE218.out) | exact HB.out)⟩
   ·replace c27 := Bool.eq_false_iff.mpr c27
    subst c27
    rw [if_neg (show ¬ (false = true) by decide)] at H
    by_cases c33 : (wrap64 (a0_2 + a1)) > 60
    ·rw [if_pos c33] at H
     have c33b0 : decide (60 < (wrap64 (a0_2 + a1))) = true := decide_eq_true c33
     clear c33
     simp only [Option.some.injEq, Prod.mk.injEq] at H
     obtain ⟨rfl, rfl, rfl, rfl, rfl, rfl⟩ := H
     have hnb34 := NB207_208.out
     have hnc34 := NB208_207.out
     have hnb35 := NB207_218.out
     have hnc35 := NB218_207.out
     have hcz36_0 := cz_ BK207 0 (.int .i64 a0_0)
     have hcz36_1 := cz_ BK207 1 (.int .i64 a0_1)
     have hcz36_2 := cz_ BK207 2 (.int .i64 a0_2)
     have hcz36_3 := cz_ BK207 3 (.slice A0_3 l0_3.length c0_3)
     have hcz36_4 := cz_ BK207 4 (.slice A0_4 l0_4.length c0_4)
     have hfz36_0 := blk_frozen BK207.out 0
     have hfz36_1 := blk_frozen BK207.out 1
     have hfz36_2 := blk_frozen BK207.out 2
     have hfz36_3 := blk_frozen BK207.out 3
     have hfz36_4 := blk_frozen BK207.out 4
     have hnb37 := NB218_208.out
     have hnc37 := NB208_218.out
     have hcz38_0 := cz_ BK218 0 (.int .i64 t209)
     have hcz38_1 := cz_ BK218 1 (.int .i64 t210)
     have hcz38_2 := cz_ BK218 2 (.int .i64 t211)
     have hcz38_3 := cz_ BK218 3 (.slice Ao14 t212.length co14)
     have hcz38_4 := cz_ BK218 4 (.slice Ao15 t215.length co15)
     have hfz38_0 := blk_frozen BK218.out 0
     have hfz38_1 := blk_frozen BK218.out 1
     have hfz38_2 := blk_frozen BK218.out 2
     have hfz38_3 := blk_frozen BK218.out 3
     have hfz38_4 := blk_frozen BK218.out 4
     have hcz39_0 := cz_ BK208 0 (.int .i64 0)
     have hcz39_1 := cz_ BK208 1 (.int .i64 0)
     have hcz39_2 := cz_ BK208 2 (.int .i64 0)
     have hcz39_3 := cz_ BK208 3 (.slice none 0 0)
     have hcz39_4 := cz_ BK208 4 (.slice none 0 0)
     have hfz39_0 := blk_frozen BK208.out 0
     have hfz39_1 := blk_frozen BK208.out 1
     have hfz39_2 := blk_frozen BK208.out 2
     have hfz39_3 := blk_frozen BK208.out 3
     have hfz39_4 := blk_frozen BK208.out 4
     go_wp2
     refine bodyPost_ret (results_ct rfl _ _ gb208 31 #[.int .i64 t209, .int .i64 t210, .int .i64 60, .slice Ao14 t212.length co14, .slice Ao15 t215.length co15] (0, 0) _ rfl (by (with_reducible repeat (first | refine blk_drewN ?_ _ | refine blk_drew ?_ | refine blk_alloc ?_ _)); refine blk_put (cs := #[.int .i64 t209, .int .i64 t210, .int .i64 60, .slice Ao14 t212.length co14, .slice none 0 0]) ?_ 4 _ rfl; (with_reducible repeat (first | refine blk_drewN ?_ _ | refine blk_drew ?_ | refine blk_alloc ?_ _)); refine blk_put (cs := #[.int .i64 t209, .int .i64 t210, .int .i64 60, .slice none 0 0, .slice none 0 0]) ?_ 3 _ rfl; (with_reducible repeat (first | refine blk_drewN ?_ _ | refine blk_drew ?_ | refine blk_alloc ?_ _)); refine blk_put (cs := #[.int .i64 t209, .int .i64 t210, .int .i64 0, .slice none 0 0, .slice none 0 0]) ?_ 2 _ rfl; (with_reducible repeat (first | refine blk_drewN ?_ _ | refine blk_drew ?_ | refine blk_alloc ?_ _)); refine blk_put (cs := #[.int .i64 t209, .int .i64 0, .int .i64 0, .slice none 0 0, .slice none 0 0]) ?_ 1 _ rfl; (with_reducible repeat (first | refine blk_drewN ?_ _ | refine blk_drew ?_ | refine blk_alloc ?_ _)); refine blk_put (cs := #[.int .i64 0, .int .i64 0, .int .i64 0, .slice none 0 0, .slice none 0 0]) ?_ 0 _ rfl; (with_reducible repeat (first | refine blk_drewN ?_ _ | refine blk_drew ?_ | refine blk_alloc ?_ _)); refine blk_far ?_ NB208_218.out _; (with_reducible repeat (first | refine blk_drewN ?_ _ | refine blk_drew ?_ | refine blk_alloc ?_ _)); refine blk_far ?_ NB208_218.out _; (with_reducible repeat (first | refine blk_drewN ?_ _ | refine blk_drew ?_ | refine blk_alloc ?_ _)); exact BK208.out) Try.underlying31 rfl (by kernel_rfl)) rfl ?_
     exact ⟨_, _, by first | rfl | (simp [errW_none, errW_some] <;> rfl) | (simp [*, errW_none, errW_some] <;> rfl), by (with_reducible repeat (first | apply Kd.R_alloc | apply Kd.R_drewN | apply Kd.R_drew)); exact Kd.R_mono (Kd.R_far (p := ⟨gb208, 4, none⟩) (Kd.R_far (p := ⟨gb208, 3, none⟩) (Kd.R_far (p := ⟨gb208, 2, none⟩) (Kd.R_far (p := ⟨gb208, 1, none⟩) (Kd.R_far (p := ⟨gb208, 0, none⟩) (Kd.R_far (p := ⟨gb218, 2, none⟩) (Kd.R_far (p := ⟨gb218, 2, none⟩) (Kd.R_types (Kd.R_types HO_219003.out BK218.out (by decide)) BK208.out (by decide)) (fun _ hk => hk.1.2) (.int .i64 (wrap64 (a0_2 + a1)))) (fun _ hk => hk.1.2) (.int .i64 60)) (fun _ hk => hk.2) (.int .i64 t209)) (fun _ hk => hk.2) (.int .i64 t210)) (fun _ hk => hk.2) (.int .i64 60)) (fun _ hk => hk.2) (.slice Ao14 t212.length co14)) (fun _ hk => hk.2) (.slice Ao15 t215.length co15)) (fun _ hk => trivial), by (with_reducible repeat (first | apply Kd.R_alloc | apply Kd.R_drewN | apply Kd.R_drew)); exact Kd.R_mono (Kd.R_far (p := ⟨gb208, 4, none⟩) (Kd.R_far (p := ⟨gb208, 3, none⟩) (Kd.R_far (p := ⟨gb208, 2, none⟩) (Kd.R_far (p := ⟨gb208, 1, none⟩) (Kd.R_far (p := ⟨gb208, 0, none⟩) (Kd.R_far (p := ⟨gb218, 2, none⟩) (Kd.R_far (p := ⟨gb218, 2, none⟩) (Kd.R_types (Kd.R_types HO_219004.out BK218.out (by decide)) BK208.out (by decide)) (fun _ hk => hk.1.2) (.int .i64 (wrap64 (a0_2 + a1)))) (fun _ hk => hk.1.2) (.int .i64 60)) (fun _ hk => hk.2) (.int .i64 t209)) (fun _ hk => hk.2) (.int .i64 t210)) (fun _ hk => hk.2) (.int .i64 60)) (fun _ hk => hk.2) (.slice Ao14 t212.length co14)) (fun _ hk => hk.2) (.slice Ao15 t215.length co15)) (fun _ hk => trivial), by repeat (first | (with_reducible first | exact HB.out | apply below_alloc | apply pw_below_drewN | apply below_drew1 | refine below_set ?_ GE207.out | refine below_set ?_ GE208.out | refine below_set ?_ GE218.out) | exact HB.out)⟩
    ·rw [if_neg c33] at H
     have c33b0 : decide (60 < (wrap64 (a0_2 + a1))) = false := decide_eq_false c33
     clear c33
     simp only [Option.some.injEq, Prod.mk.injEq] at H
     obtain ⟨rfl, rfl, rfl, rfl, rfl, rfl⟩ := H
     have hnb40 := NB207_208.out
     have hnc40 := NB208_207.out
     have hnb41 := NB207_218.out
     have hnc41 := NB218_207.out
     have hcz42_0 := cz_ BK207 0 (.int .i64 a0_0)
     have hcz42_1 := cz_ BK207 1 (.int .i64 a0_1)
     have hcz42_2 := cz_ BK207 2 (.int .i64 a0_2)
     have hcz42_3 := cz_ BK207 3 (.slice A0_3 l0_3.length c0_3)
     have hcz42_4 := cz_ BK207 4 (.slice A0_4 l0_4.length c0_4)
     have hfz42_0 := blk_frozen BK207.out 0
     have hfz42_1 := blk_frozen BK207.out 1
     have hfz42_2 := blk_frozen BK207.out 2
     have hfz42_3 := blk_frozen BK207.out 3
     have hfz42_4 := blk_frozen BK207.out 4
     have hnb43 := NB218_208.out
     have hnc43 := NB208_218.out
     have hcz44_0 := cz_ BK218 0 (.int .i64 t209)
     have hcz44_1 := cz_ BK218 1 (.int .i64 t210)
     have hcz44_2 := cz_ BK218 2 (.int .i64 t211)
     have hcz44_3 := cz_ BK218 3 (.slice Ao14 t212.length co14)
     have hcz44_4 := cz_ BK218 4 (.slice Ao15 t215.length co15)
     have hfz44_0 := blk_frozen BK218.out 0
     have hfz44_1 := blk_frozen BK218.out 1
     have hfz44_2 := blk_frozen BK218.out 2
     have hfz44_3 := blk_frozen BK218.out 3
     have hfz44_4 := blk_frozen BK218.out 4
     have hcz45_0 := cz_ BK208 0 (.int .i64 0)
     have hcz45_1 := cz_ BK208 1 (.int .i64 0)
     have hcz45_2 := cz_ BK208 2 (.int .i64 0)
     have hcz45_3 := cz_ BK208 3 (.slice none 0 0)
     have hcz45_4 := cz_ BK208 4 (.slice none 0 0)
     have hfz45_0 := blk_frozen BK208.out 0
     have hfz45_1 := blk_frozen BK208.out 1
     have hfz45_2 := blk_frozen BK208.out 2
     have hfz45_3 := blk_frozen BK208.out 3
     have hfz45_4 := blk_frozen BK208.out 4
     go_wp2
     refine bodyPost_ret (results_ct rfl _ _ gb208 31 #[.int .i64 t209, .int .i64 t210, .int .i64 (wrap64 (a0_2 + a1)), .slice Ao14 t212.length co14, .slice Ao15 t215.length co15] (0, 0) _ rfl (by (with_reducible repeat (first | refine blk_drewN ?_ _ | refine blk_drew ?_ | refine blk_alloc ?_ _)); refine blk_put (cs := #[.int .i64 t209, .int .i64 t210, .int .i64 (wrap64 (a0_2 + a1)), .slice Ao14 t212.length co14, .slice none 0 0]) ?_ 4 _ rfl; (with_reducible repeat (first | refine blk_drewN ?_ _ | refine blk_drew ?_ | refine blk_alloc ?_ _)); refine blk_put (cs := #[.int .i64 t209, .int .i64 t210, .int .i64 (wrap64 (a0_2 + a1)), .slice none 0 0, .slice none 0 0]) ?_ 3 _ rfl; (with_reducible repeat (first | refine blk_drewN ?_ _ | refine blk_drew ?_ | refine blk_alloc ?_ _)); refine blk_put (cs := #[.int .i64 t209, .int .i64 t210, .int .i64 0, .slice none 0 0, .slice none 0 0]) ?_ 2 _ rfl; (with_reducible repeat (first | refine blk_drewN ?_ _ | refine blk_drew ?_ | refine blk_alloc ?_ _)); refine blk_put (cs := #[.int .i64 t209, .int .i64 0, .int .i64 0, .slice none 0 0, .slice none 0 0]) ?_ 1 _ rfl; (with_reducible repeat (first | refine blk_drewN ?_ _ | refine blk_drew ?_ | refine blk_alloc ?_ _)); refine blk_put (cs := #[.int .i64 0, .int .i64 0, .int .i64 0, .slice none 0 0, .slice none 0 0]) ?_ 0 _ rfl; (with_reducible repeat (first | refine blk_drewN ?_ _ | refine blk_drew ?_ | refine blk_alloc ?_ _)); refine blk_far ?_ NB208_218.out _; (with_reducible repeat (first | refine blk_drewN ?_ _ | refine blk_drew ?_ | refine blk_alloc ?_ _)); exact BK208.out) Try.underlying31 rfl (by kernel_rfl)) rfl ?_
     exact ⟨_, _, by first | rfl | (simp [errW_none, errW_some] <;> rfl) | (simp [*, errW_none, errW_some] <;> rfl), by (with_reducible repeat (first | apply Kd.R_alloc | apply Kd.R_drewN | apply Kd.R_drew)); exact Kd.R_mono (Kd.R_far (p := ⟨gb208, 4, none⟩) (Kd.R_far (p := ⟨gb208, 3, none⟩) (Kd.R_far (p := ⟨gb208, 2, none⟩) (Kd.R_far (p := ⟨gb208, 1, none⟩) (Kd.R_far (p := ⟨gb208, 0, none⟩) (Kd.R_far (p := ⟨gb218, 2, none⟩) (Kd.R_types (Kd.R_types HO_219003.out BK218.out (by decide)) BK208.out (by decide)) (fun _ hk => hk.1.2) (.int .i64 (wrap64 (a0_2 + a1)))) (fun _ hk => hk.2) (.int .i64 t209)) (fun _ hk => hk.2) (.int .i64 t210)) (fun _ hk => hk.2) (.int .i64 (wrap64 (a0_2 + a1)))) (fun _ hk => hk.2) (.slice Ao14 t212.length co14)) (fun _ hk => hk.2) (.slice Ao15 t215.length co15)) (fun _ hk => trivial), by (with_reducible repeat (first | apply Kd.R_alloc | apply Kd.R_drewN | apply Kd.R_drew)); exact Kd.R_mono (Kd.R_far (p := ⟨gb208, 4, none⟩) (Kd.R_far (p := ⟨gb208, 3, none⟩) (Kd.R_far (p := ⟨gb208, 2, none⟩) (Kd.R_far (p := ⟨gb208, 1, none⟩) (Kd.R_far (p := ⟨gb208, 0, none⟩) (Kd.R_far (p := ⟨gb218, 2, none⟩) (Kd.R_types (Kd.R_types HO_219004.out BK218.out (by decide)) BK208.out (by decide)) (fun _ hk => hk.1.2) (.int .i64 (wrap64 (a0_2 + a1)))) (fun _ hk => hk.2) (.int .i64 t209)) (fun _ hk => hk.2) (.int .i64 t210)) (fun _ hk => hk.2) (.int .i64 (wrap64 (a0_2 + a1)))) (fun _ hk => hk.2) (.slice Ao14 t212.length co14)) (fun _ hk => hk.2) (.slice Ao15 t215.length co15)) (fun _ hk => trivial), by repeat (first | (with_reducible first | exact HB.out | apply below_alloc | apply pw_below_drewN | apply below_drew1 | refine below_set ?_ GE207.out | refine below_set ?_ GE208.out | refine below_set ?_ GE218.out) | exact HB.out)⟩

/-! ### impl_within: function 55 -/
def impl_within.f (a0 : Int) (a1 : Int) (a2 : Int) : Option (Bool) := if a0 ≥ a1 then (some (decide (a0 ≤ a2))) else (some false)
set_option maxHeartbeats 8000000 in
set_option maxRecDepth 100000 in
theorem impl_within.calls (a0 : Int) (a1 : Int) (a2 : Int) (r : Bool) (w : World) (h : impl_within.f a0 a1 a2 = some r) :
  Calls Try.prog 55 #[.int .i64 a0, .int .i64 a1, .int .i64 a2] w fun e w' => e = .returned (.bool r) ∧ Drawn0 w w' := by
 have H : (if a0 ≥ a1 then (some (decide (a0 ≤ a2))) else (some false)) = some r := h
 clear h
 by_cases c4 : a0 ≥ a1
 ·rw [if_pos c4] at H
  have c4b0 : decide (a1 ≤ a0) = true := decide_eq_true c4
  clear c4
  obtain rfl := Option.some.inj H
  go_enter Try.func55, Try.ntmps55
  go_wp2
  go_ret
  exact ⟨by first | rfl | (simp; done) | (simp [*]; done), by repeat (first | exact Drawn0.refl _ | apply Drawn0.step)⟩
 ·rw [if_neg c4] at H
  have c4b0 : decide (a1 ≤ a0) = false := decide_eq_false c4
  clear c4
  obtain rfl := Option.some.inj H
  go_enter Try.func55, Try.ntmps55
  go_wp2
  go_ret
  exact ⟨by first | rfl | (simp; done) | (simp [*]; done), by repeat (first | exact Drawn0.refl _ | apply Drawn0.step)⟩

end Go.Proofs.Ytiikcfaodkiakaa.QFnExactAgeLsa
