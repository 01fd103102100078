/- Contracts of functions that the law reaches: what each call returns and what it leaves in memory. Made by this session over the print of the kit. -/
import Derived.Test.YtiikcfaodkiakaaQFnExactPutLsax0
import Derived.Test.YtiikcfaodkiakaaQFnExactPutLsax5
import Derived.Test.YtiikcfaodkiakaaQFnExactPutLsax6
import Derived.Test.YtiikcfaodkiakaaQFnExactPutLsax7
namespace Go.Proofs.Ytiikcfaodkiakaa.QFnExactPutLsa
open Go.RowKit Go.Proofs.YtiikcfaodkiakaaU.PrintWords Go.Proofs.YtiikcfaodkiakaaU.PrintLast Go.Proofs.YtiikcfaodkiakaaU.PrintMore
attribute [local go_sem] max2_int min2_int max_two min_two max_three min_three max_four min_four   -- for this text's walks alone
set_option linter.unusedVariables false
set_option linter.unusedSimpArgs false
def ba8_0 : Array Bool := #[false, false, false, false, false, false, false, false, false, false, false, false]
def ba8_1 : Array Bool := #[false, false, true, false, false, false, false, false, false, false, false, false]
def ba8_2 : Array Bool := #[true, false, true, false, false, false, false, false, false, false, false, false]
def ba8_3 : Array Bool := #[true, false, true, true, false, false, false, false, false, false, false, false]
def ba8_4 : Array Bool := #[true, false, true, true, true, false, false, false, false, false, false, false]
def ba8_5 : Array Bool := #[true, false, true, true, true, false, false, true, false, false, false, false]
def ba8_6 : Array Bool := #[true, true, true, true, true, true, false, true, false, false, false, false]
def ba8_7 : Array Bool := #[true, true, true, true, true, false, false, true, false, false, false, false]
def ba8_8 : Array Bool := #[true, false, true, true, true, true, false, true, false, false, false, false]
def ba8_9 : Array Bool := #[true, true, true, true, true, true, true, true, false, false, false, false]
def ba8_10 : Array Bool := #[true, true, true, true, true, true, true, true, true, false, false, false]
def ba8_11 : Array Bool := #[true, true, true, true, true, true, true, true, true, true, false, false]
def ba8_12 : Array Bool := #[true, true, true, true, true, true, true, true, true, true, true, false]
def ba8_13 : Array Bool := #[true, true, true, true, true, true, true, true, true, true, true, true]

/-! ### spec_LsaSum: function 25 -/
def spec_LsaSum.l0 : Nat → Int → List Int → Int → Option (Int)
 | 0, _, _, _ => none
 | k + 1, x3, x4, x5 => if x5 < (x4.length : Int) then (if 0 ≤ x5 then (spec_LsaSum.l0 k (Int.tmod (wrap64 ((wrap64 ((wrap64 (257 * x3)) + (wrap64 (rd x4 x5)))) + 1)) 1000003) x4 (wrap64 (x5 + 1))) else (none)) else (some x3)
def spec_LsaSum.f (k : Nat) (a0_0 : Int) (a0_1 : Int) (a0_2 : Int) (l0_3 : List (S70)) (l0_4 : List (S74)) : Option (Int) := (spec_LsaOk.f k a0_0 a0_1 a0_2 l0_3 l0_4).bind fun t270 => (if t270 = true then ((spec_LsaBytes.f k a0_0 a0_1 a0_2 l0_3 l0_4).bind fun t271 => (spec_LsaSum.l0 k 1 t271 0)) else (some (-1)))
theorem spec_LsaSum.mono_l : ∀ k, (∀ y0 y1 y2, LeO (spec_LsaSum.l0 k y0 y1 y2) (spec_LsaSum.l0 (k + 1) y0 y1 y2))
 | 0 => fun _ _ _ r h => by simp [spec_LsaSum.l0] at h
 | k + 1 => by
  have ih0 := spec_LsaSum.mono_l k
  ·intro y0 y1 y2
   unfold spec_LsaSum.l0
   repeat' first
   | (with_reducible exact ih0 _ _ _)
   | (with_reducible exact spec_LsaBytes.mono _ _ _ _ _ _)
   | (with_reducible exact spec_LsaOk.mono _ _ _ _ _ _)
   | (with_reducible exact LeO.refl _)
   | (with_reducible exact LeO.none _)
   | (with_reducible refine LeO.ite ?_ ?_)
   | (with_reducible refine LeO.bind ?_ (fun _ => ?_))
   | exact ih0 _ _ _
   | exact spec_LsaBytes.mono _ _ _ _ _ _
   | exact spec_LsaOk.mono _ _ _ _ _ _
   | exact LeO.none _
   | refine LeO.ite ?_ ?_
   | refine LeO.bind ?_ (fun _ => ?_)
theorem spec_LsaSum.mono : ∀ a0 a1 a2 a3 a4 k, LeO (spec_LsaSum.f k a0 a1 a2 a3 a4) (spec_LsaSum.f (k + 1) a0 a1 a2 a3 a4) := by
 intro a0 a1 a2 a3 a4 k
 have ih0 := spec_LsaSum.mono_l k
 unfold spec_LsaSum.f
 repeat' first
   | (with_reducible exact ih0 _ _ _)
   | (with_reducible exact spec_LsaBytes.mono _ _ _ _ _ _)
   | (with_reducible exact spec_LsaOk.mono _ _ _ _ _ _)
   | (with_reducible exact LeO.refl _)
   | (with_reducible exact LeO.none _)
   | (with_reducible refine LeO.ite ?_ ?_)
   | (with_reducible refine LeO.bind ?_ (fun _ => ?_))
   | exact ih0 _ _ _
   | exact spec_LsaBytes.mono _ _ _ _ _ _
   | exact spec_LsaOk.mono _ _ _ _ _ _
   | exact LeO.none _
   | refine LeO.ite ?_ ?_
   | refine LeO.bind ?_ (fun _ => ?_)
set_option maxHeartbeats 8000000 in
set_option maxRecDepth 100000 in
theorem spec_LsaSum.calls (k : Nat) (a0_0 : Int) (a0_1 : Int) (a0_2 : Int) (A0_3 : Option Addr) (c0_3 : Nat) (l0_3 : List (S70)) (A0_4 : Option Addr) (c0_4 : Nat) (l0_4 : List (S74)) (r : Int) (w : World) (hr0_3 : Kd.C k70 w A0_3 l0_3.length l0_3) (hc0_3 : l0_3.length ≤ c0_3) (hr0_4 : Kd.C k74 w A0_4 l0_4.length l0_4) (hc0_4 : l0_4.length ≤ c0_4) (h : spec_LsaSum.f k a0_0 a0_1 a0_2 l0_3 l0_4 = some r) :
  Calls Try.prog 25 #[.agg #[.int .i64 a0_0, .int .i64 a0_1, .int .i64 a0_2, .slice A0_3 l0_3.length c0_3, .slice A0_4 l0_4.length c0_4]] w fun e w' => e = .returned (.int .i64 r) ∧ Below w.heap.size w w' := by
 have hu31 := Try.underlying31
 have HR0_3 := Aside0.mk hr0_3
 have HC0_3 := Aside0.mk hc0_3
 clear hr0_3 hc0_3
 have HR0_4 := Aside0.mk hr0_4
 have HC0_4 := Aside0.mk hc0_4
 clear hr0_4 hc0_4
 have HB := Aside0.mk (Below.refl w.heap.size w)
 have H : ((spec_LsaOk.f k a0_0 a0_1 a0_2 l0_3 l0_4).bind fun t270 => (if t270 = true then ((spec_LsaBytes.f k a0_0 a0_1 a0_2 l0_3 l0_4).bind fun t271 => (spec_LsaSum.l0 k 1 t271 0)) else (some (-1)))) = some r := h
 clear h
 replace H := Option.bind_eq_some_iff.mp H
 obtain ⟨t270, A20, H⟩ := H
 have A2 := Aside0.mk A20
 clear A20
 by_cases c3 : t270 = true
 ·subst c3
  rw [if_pos rfl] at H
  replace H := Option.bind_eq_some_iff.mp H
  obtain ⟨t271, A40, H⟩ := H
  have A4 := Aside0.mk A40
  clear A40
  have H' := Aside0.mk H
  clear H
  go_enter Try.func25, Try.ntmps25
  go_wp2_with (first | ((with_reducible refine gate_dst (N := 1) rfl ?_); refine box_event ?hg (N := 1) ?hd (cs := #[.int .i64 a0_0, .int .i64 a0_1, .int .i64 a0_2, .slice A0_3 l0_3.length c0_3, .slice A0_4 l0_4.length c0_4]) (t := 31) ?hr ?_; (case hd => rfl); (case hg => rfl); (case hr => first | (go_simp; done) | (go_simp; rfl)); intro gb269 hg w5 hbox hb; have BK269 := Aside0.mk hbox; have GW269 := ge_ HB hg; have GE269 := ge_ HB hg; replace HB := Aside0.mk (bt_ HB hb); clear hb hbox hg; have hcz6_0 := cz_ BK269 0 (.int .i64 a0_0); have hcz6_1 := cz_ BK269 1 (.int .i64 a0_1); have hcz6_2 := cz_ BK269 2 (.int .i64 a0_2); have hcz6_3 := cz_ BK269 3 (.slice A0_3 l0_3.length c0_3); have hcz6_4 := cz_ BK269 4 (.slice A0_4 l0_4.length c0_4); have hfz6_0 := blk_frozen BK269.out 0; have hfz6_1 := blk_frozen BK269.out 1; have hfz6_2 := blk_frozen BK269.out 2; have hfz6_3 := blk_frozen BK269.out 3; have hfz6_4 := blk_frozen BK269.out 4) | ((with_reducible refine gate_callee (f := 14) rfl ?_); refine gl_ (some 7) Try.func14 #[.agg #[.int .i64 a0_0, .int .i64 a0_1, .int .i64 a0_2, .slice A0_3 l0_3.length c0_3, .slice A0_4 l0_4.length c0_4]] ?_; (with_reducible refine (spec_LsaOk.calls k a0_0 a0_1 a0_2 _ _ l0_3 _ _ l0_4 true _ ?side1 ?side2 ?side3 ?side4 A2.out).mono ?_); (case side1 => exact cb_ HR0_3 HB); (case side2 => exact HC0_3.out); (case side3 => exact cb_ HR0_4 HB); (case side4 => exact HC0_4.out); rintro e w7 ⟨rfl, hb⟩; refine ⟨_, rfl, ?_⟩; replace BK269 := Aside0.mk (bb_ BK269 hb); replace HB := Aside0.mk (bt_ HB hb); (try clear hb); (try clear hb2); (try clear hk); (try clear hi); have hcz8_0 := cz_ BK269 0 (.int .i64 a0_0); have hcz8_1 := cz_ BK269 1 (.int .i64 a0_1); have hcz8_2 := cz_ BK269 2 (.int .i64 a0_2); have hcz8_3 := cz_ BK269 3 (.slice A0_3 l0_3.length c0_3); have hcz8_4 := cz_ BK269 4 (.slice A0_4 l0_4.length c0_4); have hfz8_0 := blk_frozen BK269.out 0; have hfz8_1 := blk_frozen BK269.out 1; have hfz8_2 := blk_frozen BK269.out 2; have hfz8_3 := blk_frozen BK269.out 3; have hfz8_4 := blk_frozen BK269.out 4) | ((with_reducible refine gate_callee (f := 41) rfl ?_); refine gl_ (some 10) Try.func41 #[.agg #[.int .i64 a0_0, .int .i64 a0_1, .int .i64 a0_2, .slice A0_3 l0_3.length c0_3, .slice A0_4 l0_4.length c0_4]] ?_; (with_reducible refine (spec_LsaBytes.calls k a0_0 a0_1 a0_2 _ _ l0_3 _ _ l0_4 t271 _ ?side1 ?side2 ?side3 ?side4 A4.out).mono ?_); (case side1 => exact cb_ HR0_3 HB); (case side2 => exact HC0_3.out); (case side3 => exact cb_ HR0_4 HB); (case side4 => exact HC0_4.out); rintro e w9 ⟨v272, rfl, ho0, hb⟩; refine ⟨_, rfl, ?_⟩; have HO273 := Aside0.mk (Kd.R_lower ho0 (bz_ HB)); replace BK269 := Aside0.mk (bb_ BK269 hb); replace HB := Aside0.mk (bt_ HB hb); (try clear hb); (try clear hb2); (try clear hk); (try clear hi); (try clear ho0)))
  go_loopg [3, 5] k (fun kq v3 v5 w' => ∃ (x3_1 : Int) (x5_1 : Int), v3 = .int .i64 x3_1 ∧ v5 = .int .i64 x5_1 ∧ Aside0 (spec_LsaSum.l0 kq x3_1 t271 x5_1 = some r) ∧ Aside0 (kq ≤ k) ∧ Aside0 (Kd.R (Kd.int .u8) 5 w' w.heap.size (fun _ => True) v272 t271) ∧ Aside0 (w'.heap[gb269]? = some (.cells #[.int .i64 a0_0, .int .i64 a0_1, .int .i64 a0_2, (.slice A0_3 l0_3.length c0_3), (.slice A0_4 l0_4.length c0_4)] 31 (0, 0))) ∧ Aside0 (Below w.heap.size w w'))
  case atStart => exact ⟨(1), (0), (by first | rfl | (simp; done) | (simp [*]; done)), (by first | rfl | (simp; done) | (simp [*]; done)), H', ⟨Nat.le_refl _⟩, ⟨by (with_reducible repeat (first | apply Kd.R_alloc | apply Kd.R_drewN | apply Kd.R_drew)); exact HO273.out⟩, ⟨by (with_reducible repeat (first | refine blk_drewN ?_ _ | refine blk_drew ?_ | refine blk_alloc ?_ _)); exact BK269.out⟩, ⟨by repeat (first | (with_reducible first | exact HB.out | apply below_alloc | apply pw_below_drewN | apply below_drew1 | refine below_set ?_ GE269.out) | exact HB.out)⟩⟩
  case round =>
   clear H'
   try clear c1
   try clear c2
   try clear p2
   try clear c3
   try clear c4
   try clear hcz6_0
   try clear hcz6_1
   try clear hcz6_2
   try clear hcz6_3
   try clear hcz6_4
   try clear hcz8_0
   try clear hcz8_1
   try clear hcz8_2
   try clear hcz8_3
   try clear hcz8_4
   try clear hfz6_0
   try clear hfz6_1
   try clear hfz6_2
   try clear hfz6_3
   try clear hfz6_4
   try clear hfz8_0
   try clear hfz8_1
   try clear hfz8_2
   try clear hfz8_3
   try clear hfz8_4
   obtain ⟨x3_1, x5_1, rfl, rfl, HA, HK1, HO_4, BK269, HB⟩ := hrel
   cases gk with
   | zero => exact absurd HA.out (by simp [spec_LsaSum.l0])
   | succ k1 =>
    have H := HA.out
    clear HA
    simp only [spec_LsaSum.l0] at H
    by_cases c10 : x5_1 < (t271.length : Int)
    ·rw [if_pos c10] at H
     have c10b0 : decide (x5_1 < (t271.length : Int)) = true := decide_eq_true c10
     clear c10
     by_cases c11 : 0 ≤ x5_1
     ·rw [if_pos c11] at H
      have c11b0 : decide (0 ≤ x5_1) = true := decide_eq_true c11
      clear c11
      have H' := Aside0.mk H
      clear H
      obtain ⟨Ao12, co12, eo12⟩ := Kd.R_slice HO_4.out
      subst eo12
      have p274 : 0 ≤ (x5_1 : Int) := of_decide_eq_true (by first | (with_reducible assumption) | assumption)
      have q274 : x5_1 < (t271.length : Int) := of_decide_eq_true (by first | (with_reducible assumption) | assumption)
      obtain ⟨ad274, e274, hx274_0⟩ := Kd.at_int (Kd.R_reads' HO_4.out).2.2 x5_1 p274 q274
      cases e274
      replace p274 := eq_true p274
      replace q274 := eq_true q274
      go_wp2
      go_roundg k1
      case measure => have := HK1.out; omega
      case rel => exact ⟨(Int.tmod (wrap64 ((wrap64 ((wrap64 (257 * x3_1)) + (wrap64 (rd t271 x5_1)))) + 1)) 1000003), (wrap64 (x5_1 + 1)), (by first | rfl | (simp; done) | (simp [*]; done)), (by first | rfl | (simp; done) | (simp [*]; done)), H', ⟨by have := HK1.out; omega⟩, ⟨by (with_reducible repeat (first | apply Kd.R_alloc | apply Kd.R_drewN | apply Kd.R_drew)); exact HO_4.out⟩, ⟨by (with_reducible repeat (first | refine blk_drewN ?_ _ | refine blk_drew ?_ | refine blk_alloc ?_ _)); exact BK269.out⟩, ⟨by repeat (first | (with_reducible first | exact HB.out | apply below_alloc | apply pw_below_drewN | apply below_drew1 | refine below_set ?_ GE269.out) | exact HB.out)⟩⟩
     ·rw [if_neg c11] at H
      exact absurd H (by simp)
    ·rw [if_neg c10] at H
     have c10b0 : decide (x5_1 < (t271.length : Int)) = false := decide_eq_false c10
     clear c10
     obtain rfl := Option.some.inj H
     obtain ⟨Ao13, co13, eo13⟩ := Kd.R_slice HO_4.out
     subst eo13
     go_wp2
     go_ret
     exact ⟨by first | rfl | (simp [errW_none, errW_some] <;> rfl) | (simp [*, errW_none, errW_some] <;> rfl), by repeat (first | (with_reducible first | exact HB.out | apply below_alloc | apply pw_below_drewN | apply below_drew1 | refine below_set ?_ GE269.out) | exact HB.out)⟩
 ·replace c3 := Bool.eq_false_iff.mpr c3
  subst c3
  rw [if_neg (show ¬ (false = true) by decide)] at H
  obtain rfl := Option.some.inj H
  go_enter Try.func25, Try.ntmps25
  go_wp2_with (first | ((with_reducible refine gate_dst (N := 1) rfl ?_); refine box_event ?hg (N := 1) ?hd (cs := #[.int .i64 a0_0, .int .i64 a0_1, .int .i64 a0_2, .slice A0_3 l0_3.length c0_3, .slice A0_4 l0_4.length c0_4]) (t := 31) ?hr ?_; (case hd => rfl); (case hg => rfl); (case hr => first | (go_simp; done) | (go_simp; rfl)); intro gb269 hg w14 hbox hb; have BK269 := Aside0.mk hbox; have GW269 := ge_ HB hg; have GE269 := ge_ HB hg; replace HB := Aside0.mk (bt_ HB hb); clear hb hbox hg; have hcz15_0 := cz_ BK269 0 (.int .i64 a0_0); have hcz15_1 := cz_ BK269 1 (.int .i64 a0_1); have hcz15_2 := cz_ BK269 2 (.int .i64 a0_2); have hcz15_3 := cz_ BK269 3 (.slice A0_3 l0_3.length c0_3); have hcz15_4 := cz_ BK269 4 (.slice A0_4 l0_4.length c0_4); have hfz15_0 := blk_frozen BK269.out 0; have hfz15_1 := blk_frozen BK269.out 1; have hfz15_2 := blk_frozen BK269.out 2; have hfz15_3 := blk_frozen BK269.out 3; have hfz15_4 := blk_frozen BK269.out 4) | ((with_reducible refine gate_callee (f := 14) rfl ?_); refine gl_ (some 7) Try.func14 #[.agg #[.int .i64 a0_0, .int .i64 a0_1, .int .i64 a0_2, .slice A0_3 l0_3.length c0_3, .slice A0_4 l0_4.length c0_4]] ?_; (with_reducible refine (spec_LsaOk.calls k a0_0 a0_1 a0_2 _ _ l0_3 _ _ l0_4 false _ ?side1 ?side2 ?side3 ?side4 A2.out).mono ?_); (case side1 => exact cb_ HR0_3 HB); (case side2 => exact HC0_3.out); (case side3 => exact cb_ HR0_4 HB); (case side4 => exact HC0_4.out); rintro e w16 ⟨rfl, hb⟩; refine ⟨_, rfl, ?_⟩; replace BK269 := Aside0.mk (bb_ BK269 hb); replace HB := Aside0.mk (bt_ HB hb); (try clear hb); (try clear hb2); (try clear hk); (try clear hi)))
  go_ret
  exact ⟨by first | rfl | (simp [errW_none, errW_some] <;> rfl) | (simp [*, errW_none, errW_some] <;> rfl), by repeat (first | (with_reducible first | exact HB.out | apply below_alloc | apply pw_below_drewN | apply below_drew1 | refine below_set ?_ GE269.out) | exact HB.out)⟩

/-! ### spec_PutLsa: function 46 -/
def spec_PutLsa.f (k : Nat) (a0_0 : Int) (a0_1 : Int) (a0_2 : Int) (l0_3 : List (S70)) (l0_4 : List (S74)) : Option (List Int) := (spec_LsaOk.f k a0_0 a0_1 a0_2 l0_3 l0_4).bind fun t276 => (if t276 = true then ((spec_LsaBytes.f k a0_0 a0_1 a0_2 l0_3 l0_4).bind fun t277 => ((some (([(a0_2) % 256] : List Int) : List Int)).bind fun y280 => (if t277.length + y280.length < 140737488355328 then ((spec_LsaSum.f k a0_0 a0_1 a0_2 l0_3 l0_4).bind fun t286 => ((spec_l05Wide.f k t286 3).bind fun t287 => ((spec_l01Join.f k (t277 ++ y280) t287).bind fun t290 => (some t290)))) else (none)))) else (some ([] : List Int)))
theorem spec_PutLsa.mono : ∀ a0 a1 a2 a3 a4 k, LeO (spec_PutLsa.f k a0 a1 a2 a3 a4) (spec_PutLsa.f (k + 1) a0 a1 a2 a3 a4) := by
 intro a0 a1 a2 a3 a4 k
 unfold spec_PutLsa.f
 repeat' first
   | (with_reducible exact spec_LsaBytes.mono _ _ _ _ _ _)
   | (with_reducible exact spec_LsaOk.mono _ _ _ _ _ _)
   | (with_reducible exact spec_LsaSum.mono _ _ _ _ _ _)
   | (with_reducible exact spec_l01Join.mono _ _ _)
   | (with_reducible exact spec_l05Wide.mono _ _ _)
   | (with_reducible exact LeO.refl _)
   | (with_reducible exact LeO.none _)
   | (with_reducible refine LeO.ite ?_ ?_)
   | (with_reducible refine LeO.bind ?_ (fun _ => ?_))
   | exact spec_LsaBytes.mono _ _ _ _ _ _
   | exact spec_LsaOk.mono _ _ _ _ _ _
   | exact spec_LsaSum.mono _ _ _ _ _ _
   | exact spec_l01Join.mono _ _ _
   | exact spec_l05Wide.mono _ _ _
   | exact LeO.none _
   | refine LeO.ite ?_ ?_
   | refine LeO.bind ?_ (fun _ => ?_)
def spec_PutLsa.T3 : Bool × List (List Nat × List Nat) := (true, [([], []), ([0], [0]), ([], []), ([2], [2]), ([3], [3]), ([4], [4]), ([1, 5, 1], [1, 5]), ([], []), ([7, 6], [7]), ([8, 8], [8]), ([6, 9, 9], [6, 9]), ([10, 10, 0, 1, 2, 3, 4, 5, 6, 7, 8, 9, 10], [10])])
def spec_PutLsa.B3 : List Nat := [0, 1, 0, 4, 12, 28, 63, 0, 255, 511, 1023, 2047]
theorem spec_PutLsa.tab3 : rtab .any (opsOf Try.f46 3) = spec_PutLsa.T3 := by kernel_rfl
theorem spec_PutLsa.bits3 : waitsOk spec_PutLsa.T3.2 spec_PutLsa.B3 = true := by kernel_rfl
set_option maxHeartbeats 8000000 in
set_option maxRecDepth 100000 in
theorem spec_PutLsa.calls (k : Nat) (a0_0 : Int) (a0_1 : Int) (a0_2 : Int) (A0_3 : Option Addr) (c0_3 : Nat) (l0_3 : List (S70)) (A0_4 : Option Addr) (c0_4 : Nat) (l0_4 : List (S74)) (r : List Int) (w : World) (hr0_3 : Kd.C k70 w A0_3 l0_3.length l0_3) (hc0_3 : l0_3.length ≤ c0_3) (hr0_4 : Kd.C k74 w A0_4 l0_4.length l0_4) (hc0_4 : l0_4.length ≤ c0_4) (h : spec_PutLsa.f k a0_0 a0_1 a0_2 l0_3 l0_4 = some r) :
  Calls Try.prog 46 #[.agg #[.int .i64 a0_0, .int .i64 a0_1, .int .i64 a0_2, .slice A0_3 l0_3.length c0_3, .slice A0_4 l0_4.length c0_4]] w fun e w' => ∃ v0_ : Value, e = .returned (v0_) ∧ Kd.R (Kd.int .u8) 5 w' w.heap.size (fun _ => True) v0_ r ∧ Below w.heap.size w w' := by
 have hu31 := Try.underlying31
 have HR0_3 := Aside0.mk hr0_3
 have HC0_3 := Aside0.mk hc0_3
 clear hr0_3 hc0_3
 have HR0_4 := Aside0.mk hr0_4
 have HC0_4 := Aside0.mk hc0_4
 clear hr0_4 hc0_4
 have HB := Aside0.mk (Below.refl w.heap.size w)
 have H : ((spec_LsaOk.f k a0_0 a0_1 a0_2 l0_3 l0_4).bind fun t276 => (if t276 = true then ((spec_LsaBytes.f k a0_0 a0_1 a0_2 l0_3 l0_4).bind fun t277 => ((some (([(a0_2) % 256] : List Int) : List Int)).bind fun y280 => (if t277.length + y280.length < 140737488355328 then ((spec_LsaSum.f k a0_0 a0_1 a0_2 l0_3 l0_4).bind fun t286 => ((spec_l05Wide.f k t286 3).bind fun t287 => ((spec_l01Join.f k (t277 ++ y280) t287).bind fun t290 => (some t290)))) else (none)))) else (some ([] : List Int)))) = some r := h
 clear h
 replace H := Option.bind_eq_some_iff.mp H
 obtain ⟨t276, A20, H⟩ := H
 have A2 := Aside0.mk A20
 clear A20
 by_cases c3 : t276 = true
 ·subst c3
  rw [if_pos rfl] at H
  replace H := Option.bind_eq_some_iff.mp H
  obtain ⟨t277, A40, H⟩ := H
  have A4 := Aside0.mk A40
  clear A40
  obtain ⟨y280, hy280⟩ : ∃ y_ : List Int, y_ = (([(a0_2) % 256] : List Int)) := ⟨_, rfl⟩
  replace H : (if t277.length + y280.length < 140737488355328 then ((spec_LsaSum.f k a0_0 a0_1 a0_2 l0_3 l0_4).bind fun t286 => ((spec_l05Wide.f k t286 3).bind fun t287 => ((spec_l01Join.f k (t277 ++ y280) t287).bind fun t290 => (some t290)))) else (none)) = some r := by first | (rw [hy280]; with_reducible exact H) | (have H2_ := (Option.bind_some _ _).symm.trans H; rw [hy280]; with_reducible exact H2_) | (have H2_ := (Option.bind_some _ _).symm.trans H; with_reducible exact H2_) | with_reducible exact H | (rw [hy280]; exact H) | exact H
  have Ny280 := Aside0.mk hy280
  clear hy280
  by_cases c5 : t277.length + y280.length < 140737488355328
  ·rw [if_pos c5] at H
   have LMc5 := Aside0.mk c5
   clear c5
   obtain ⟨y283, hy283⟩ : ∃ y_ : List Int, y_ = (t277 ++ y280) := ⟨_, rfl⟩
   replace H : ((spec_LsaSum.f k a0_0 a0_1 a0_2 l0_3 l0_4).bind fun t286 => ((spec_l05Wide.f k t286 3).bind fun t287 => ((spec_l01Join.f k y283 t287).bind fun t290 => (some t290)))) = some r := by first | (rw [hy283]; with_reducible exact H) | (have H2_ := (Option.bind_some _ _).symm.trans H; rw [hy283]; with_reducible exact H2_) | (have H2_ := (Option.bind_some _ _).symm.trans H; with_reducible exact H2_) | with_reducible exact H | (rw [hy283]; exact H) | exact H
   have Ny283 := Aside0.mk hy283
   clear hy283
   replace H := Option.bind_eq_some_iff.mp H
   obtain ⟨t286, A60, H⟩ := H
   have A6 := Aside0.mk A60
   clear A60
   replace H := Option.bind_eq_some_iff.mp H
   obtain ⟨t287, A70, H⟩ := H
   have A7 := Aside0.mk A70
   clear A70
   replace H := Option.bind_eq_some_iff.mp H
   obtain ⟨t290, A80, H⟩ := H
   have A8 := Aside0.mk A80
   clear A80
   obtain rfl := Option.some.inj H
   go_enter Try.func46, Try.ntmps46
   try go_wp2_with (first | ((with_reducible refine gate_dst (N := 1) rfl ?_); refine box_event ?hg (N := 1) ?hd (cs := #[.int .i64 a0_0, .int .i64 a0_1, .int .i64 a0_2, .slice A0_3 l0_3.length c0_3, .slice A0_4 l0_4.length c0_4]) (t := 31) ?hr ?_; (case hd => rfl); (case hg => rfl); (case hr => first | (go_simp; done) | (go_simp; rfl)); intro gb275 hg w9 hbox hb; have BK275 := Aside0.mk hbox; have GW275 := ge_ HB hg; have GE275 := ge_ HB hg; replace HB := Aside0.mk (bt_ HB hb); clear hb hbox hg; have hcz10_0 := cz_ BK275 0 (.int .i64 a0_0); have hcz10_1 := cz_ BK275 1 (.int .i64 a0_1); have hcz10_2 := cz_ BK275 2 (.int .i64 a0_2); have hcz10_3 := cz_ BK275 3 (.slice A0_3 l0_3.length c0_3); have hcz10_4 := cz_ BK275 4 (.slice A0_4 l0_4.length c0_4); have hfz10_0 := blk_frozen BK275.out 0; have hfz10_1 := blk_frozen BK275.out 1; have hfz10_2 := blk_frozen BK275.out 2; have hfz10_3 := blk_frozen BK275.out 3; have hfz10_4 := blk_frozen BK275.out 4) | ((with_reducible refine gate_callee (f := 14) rfl ?_); refine gl_ (some 4) Try.func14 #[.agg #[.int .i64 a0_0, .int .i64 a0_1, .int .i64 a0_2, .slice A0_3 l0_3.length c0_3, .slice A0_4 l0_4.length c0_4]] ?_; (with_reducible refine (spec_LsaOk.calls k a0_0 a0_1 a0_2 _ _ l0_3 _ _ l0_4 true _ ?side1 ?side2 ?side3 ?side4 A2.out).mono ?_); (case side1 => exact cb_ HR0_3 HB); (case side2 => exact HC0_3.out); (case side3 => exact cb_ HR0_4 HB); (case side4 => exact HC0_4.out); rintro e w11 ⟨rfl, hb⟩; refine ⟨_, rfl, ?_⟩; replace BK275 := Aside0.mk (bb_ BK275 hb); replace HB := Aside0.mk (bt_ HB hb); (try clear hb); (try clear hb2); (try clear hk); (try clear hi)))
   replace BK275 := Aside0.mk (blk_drew BK275.out)
   replace HB := Aside0.mk (below_drew1 HB.out)
   refine start_ (n := 12) (S := fun w' => w'.cell? ⟨gb275, 0, none⟩ = some (.int .i64 a0_0) ∧ w'.cell? ⟨gb275, 1, none⟩ = some (.int .i64 a0_1) ∧ w'.cell? ⟨gb275, 2, none⟩ = some (.int .i64 a0_2) ∧ w'.cell? ⟨gb275, 3, none⟩ = some (.slice A0_3 l0_3.length c0_3) ∧ w'.cell? ⟨gb275, 4, none⟩ = some (.slice A0_4 l0_4.length c0_4)) (ds := []) ba8_0 (by kernel_rfl) rfl rfl ⟨(blk_cell BK275.out 0).trans rfl, (blk_cell BK275.out 1).trans rfl, (blk_cell BK275.out 2).trans rfl, (blk_cell BK275.out 3).trans rfl, (blk_cell BK275.out 4).trans rfl⟩ (fun hHeld => ?_); refine with_tabW spec_PutLsa.tab3 spec_PutLsa.bits3 (fun HT_ HW_ => ?_)
   generalize w11.drew = w12 at BK275 HB hHeld ⊢
   refine pz_ 2 8 ba8_1 HT_ ?_
   refine pt_ 0 6 ba8_2 HT_ HW_ hHeld ?_
   refine pt_ 3 9 ba8_3 HT_ HW_ hHeld ?_
   refine pz_ 4 10 ba8_4 HT_ ?_
   refine pt_ 7 13 ba8_5 HT_ HW_ hHeld ?_
   refine join_ (σ := Value × Value) 5 ba8_6 (fun s_ => [(7, s_.1), (11, s_.2)]) (fun s_ w' => (w'.cell? ⟨gb275, 0, none⟩ = some (.int .i64 a0_0) ∧ w'.cell? ⟨gb275, 1, none⟩ = some (.int .i64 a0_1) ∧ w'.cell? ⟨gb275, 2, none⟩ = some (.int .i64 a0_2) ∧ w'.cell? ⟨gb275, 3, none⟩ = some (.slice A0_3 l0_3.length c0_3) ∧ w'.cell? ⟨gb275, 4, none⟩ = some (.slice A0_4 l0_4.length c0_4)) ∧ (Kd.R (Kd.int .u8) 5 w' w.heap.size (fun k_ => some k_ ≠ (s_.2 : Value).ownBlock) s_.1 t277) ∧ (Kd.R (Kd.int .u8) 5 w' w.heap.size (fun k_ => some k_ ≠ (s_.1 : Value).ownBlock) s_.2 y280) ∧ (w'.heap[gb275]? = some (.cells #[.int .i64 a0_0, .int .i64 a0_1, .int .i64 a0_2, .slice A0_3 l0_3.length c0_3, .slice A0_4 l0_4.length c0_4] 31 (0, 0))) ∧ (Below w.heap.size w w')) ?_ ?_
   rotate_left
   ·intro hCont
    refine two_ (i := 1) (j := 5) (Ni := some 7) (Nj := some 11) ba8_7 ba8_8 rfl rfl rfl rfl (two_of HT_.out (by kernel_rfl)) (by decide) (by decide) (fun K hK => ?_) (fun K hK => ?_)
    ·skip
     refine gz_ Try.func41 #[.agg #[.int .i64 a0_0, .int .i64 a0_1, .int .i64 a0_2, .slice A0_3 l0_3.length c0_3, .slice A0_4 l0_4.length c0_4]] ?_
     with_reducible refine (spec_LsaBytes.calls k a0_0 a0_1 a0_2 _ _ l0_3 _ _ l0_4 t277 _ ?side1 ?side2 ?side3 ?side4 A4.out).mono ?_
     (case side1 => exact cb_ HR0_3 HB)
     (case side2 => exact HC0_3.out)
     (case side3 => exact cb_ HR0_4 HB)
     (case side4 => exact HC0_4.out)
     rintro e w13 ⟨v278, rfl, ho0, hb⟩
     refine ⟨_, rfl, ?_⟩
     have HO279 := Aside0.mk (Kd.R_lower ho0 (bz_ HB))
     replace BK275 := Aside0.mk (bb_ BK275 hb)
     replace HB := Aside0.mk (bt_ HB hb)
     (try clear hb)
     (try clear hb2)
     (try clear hk)
     (try clear hi)
     (try clear ho0)
     refine hK.out _ _ ⟨(blk_cell BK275.out 0).trans rfl, (blk_cell BK275.out 1).trans rfl, (blk_cell BK275.out 2).trans rfl, (blk_cell BK275.out 3).trans rfl, (blk_cell BK275.out 4).trans rfl⟩ (fun hHeld => ?_)
     clear hK K
     refine nz_ 7 ?_
     refine one_ (i := 5) (N := some 11) ba8_6 rfl rfl (one_of HT_.out (by kernel_rfl)) (by decide) (fun K hK => ?_)
     refine Kd.R_lit_step (Kd.int .u8) _ 5 ?hg (N := 11) ?hd (xs := ([(a0_2) % 256] : List Int)) (inner := [.int .u8 ((a0_2) % 256)]) (ok := fun _ => True) (okp := fun _ => True) ?hr ?hp (fun _ hk => hk) trivial (Below.refl _ _) (Nat.le_refl _) (by simp) ?_; (case hd => rfl); (case hg => rfl); (case hr => first | (go_simp; done) | (go_simp; rfl)); (case hp => exact (Reps.one (show Kd.M (Kd.int .u8) _ _ _ ((a0_2) % 256) [.int .u8 ((a0_2) % 256)] from rfl) (Reps.none _ _)))
     intro v281 w14 ho15 hb hg_ hnew_
     clear hg_ hnew_
     (first | rw [← Ny280.out] at ho15 | (simp only [Int.reduceToNat] at ho15; rw [← Ny280.out] at ho15))
     have HO282 := Aside0.mk (Kd.R_lower (Kd.R_new' ho15 (Kd.R_lt (hd_ HO279))) (bz_ HB))
     replace HO279 := Aside0.mk (Kd.R_elder' (hd_ HO279) (Kd.R_base ho15) hb)
     replace BK275 := Aside0.mk (bb_ BK275 hb)
     replace HB := Aside0.mk (bt_ HB hb)
     clear hb ho15
     refine hK.out _ _ ⟨(blk_cell BK275.out 0).trans rfl, (blk_cell BK275.out 1).trans rfl, (blk_cell BK275.out 2).trans rfl, (blk_cell BK275.out 3).trans rfl, (blk_cell BK275.out 4).trans rfl⟩ (fun hHeld => ?_)
     clear hK K
     refine nz_ 11 ?_
     exact norm_ (by simp only [putAll, Act.put, List.setIfInBounds_toArray, List.set_cons_zero, List.set_cons_succ]) (hCont (v278, v281) _ ⟨hHeld, (by (with_reducible repeat (first | apply Kd.R_alloc | apply Kd.R_drewN | apply Kd.R_drew)); exact Kd.R_mono HO279.out (fun _ hk => hk.2)), (by (with_reducible repeat (first | apply Kd.R_alloc | apply Kd.R_drewN | apply Kd.R_drew)); exact Kd.R_mono HO282.out (fun _ hk => hk.2)), (by (with_reducible repeat (first | refine blk_drewN ?_ _ | refine blk_drew ?_ | refine blk_alloc ?_ _)); exact BK275.out), (by repeat (first | (with_reducible first | exact HB.out | apply below_alloc | apply pw_below_drewN | apply below_drew1 | refine below_set ?_ GE275.out) | exact HB.out))⟩)
    ·skip
     refine Kd.R_lit_step (Kd.int .u8) _ 5 ?hg (N := 11) ?hd (xs := ([(a0_2) % 256] : List Int)) (inner := [.int .u8 ((a0_2) % 256)]) (ok := fun _ => True) (okp := fun _ => True) ?hr ?hp (fun _ hk => hk) trivial (Below.refl _ _) (Nat.le_refl _) (by simp) ?_; (case hd => rfl); (case hg => rfl); (case hr => first | (go_simp; done) | (go_simp; rfl)); (case hp => exact (Reps.one (show Kd.M (Kd.int .u8) _ _ _ ((a0_2) % 256) [.int .u8 ((a0_2) % 256)] from rfl) (Reps.none _ _)))
     intro v281 w13 ho14 hb hg_ hnew_
     clear hg_ hnew_
     (first | rw [← Ny280.out] at ho14 | (simp only [Int.reduceToNat] at ho14; rw [← Ny280.out] at ho14))
     have HO282 := Aside0.mk (Kd.R_lower ho14 (bz_ HB))
     replace BK275 := Aside0.mk (bb_ BK275 hb)
     replace HB := Aside0.mk (bt_ HB hb)
     clear hb ho14
     refine hK.out _ _ ⟨(blk_cell BK275.out 0).trans rfl, (blk_cell BK275.out 1).trans rfl, (blk_cell BK275.out 2).trans rfl, (blk_cell BK275.out 3).trans rfl, (blk_cell BK275.out 4).trans rfl⟩ (fun hHeld => ?_)
     clear hK K
     refine nz_ 11 ?_
     refine one_ (i := 1) (N := some 7) ba8_6 rfl rfl (one_of HT_.out (by kernel_rfl)) (by decide) (fun K hK => ?_)
     refine gz_ Try.func41 #[.agg #[.int .i64 a0_0, .int .i64 a0_1, .int .i64 a0_2, .slice A0_3 l0_3.length c0_3, .slice A0_4 l0_4.length c0_4]] ?_
     with_reducible refine (spec_LsaBytes.calls k a0_0 a0_1 a0_2 _ _ l0_3 _ _ l0_4 t277 _ ?side1 ?side2 ?side3 ?side4 A4.out).mono ?_
     (case side1 => exact cb_ HR0_3 HB)
     (case side2 => exact HC0_3.out)
     (case side3 => exact cb_ HR0_4 HB)
     (case side4 => exact HC0_4.out)
     rintro e w15 ⟨v278, rfl, ho0, hb⟩
     refine ⟨_, rfl, ?_⟩
     have HO279 := Aside0.mk (Kd.R_lower (Kd.R_new' ho0 (Kd.R_lt (hd_ HO282))) (bz_ HB))
     replace HO282 := Aside0.mk (Kd.R_elder' (hd_ HO282) (Kd.R_base ho0) hb)
     replace BK275 := Aside0.mk (bb_ BK275 hb)
     replace HB := Aside0.mk (bt_ HB hb)
     (try clear hb)
     (try clear hb2)
     (try clear hk)
     (try clear hi)
     (try clear ho0)
     refine hK.out _ _ ⟨(blk_cell BK275.out 0).trans rfl, (blk_cell BK275.out 1).trans rfl, (blk_cell BK275.out 2).trans rfl, (blk_cell BK275.out 3).trans rfl, (blk_cell BK275.out 4).trans rfl⟩ (fun hHeld => ?_)
     clear hK K
     refine nz_ 7 ?_
     exact norm_ (by simp only [putAll, Act.put, List.setIfInBounds_toArray, List.set_cons_zero, List.set_cons_succ]) (hCont (v278, v281) _ ⟨hHeld, (by (with_reducible repeat (first | apply Kd.R_alloc | apply Kd.R_drewN | apply Kd.R_drew)); exact Kd.R_mono HO279.out (fun _ hk => hk.2)), (by (with_reducible repeat (first | apply Kd.R_alloc | apply Kd.R_drewN | apply Kd.R_drew)); exact Kd.R_mono HO282.out (fun _ hk => hk.2)), (by (with_reducible repeat (first | refine blk_drewN ?_ _ | refine blk_drew ?_ | refine blk_alloc ?_ _)); exact BK275.out), (by repeat (first | (with_reducible first | exact HB.out | apply below_alloc | apply pw_below_drewN | apply below_drew1 | refine below_set ?_ GE275.out) | exact HB.out))⟩)
   rintro ⟨v278, v281⟩ w16 ⟨hS_, h0_, h1_, h2_, h3_⟩
   have HO279 : Aside0 (Kd.R (Kd.int .u8) 5 w16 w.heap.size (fun k_ => some k_ ≠ (v281 : Value).ownBlock) v278 t277) := ⟨h0_⟩
   have HO282 : Aside0 (Kd.R (Kd.int .u8) 5 w16 w.heap.size (fun k_ => some k_ ≠ (v278 : Value).ownBlock) v281 y280) := ⟨h1_⟩
   replace BK275 : Aside0 (w16.heap[gb275]? = some (.cells #[.int .i64 a0_0, .int .i64 a0_1, .int .i64 a0_2, .slice A0_3 l0_3.length c0_3, .slice A0_4 l0_4.length c0_4] 31 (0, 0))) := ⟨h2_⟩
   replace HB : Aside0 (Below w.heap.size w w16) := ⟨h3_⟩
   clear h0_ h1_ h2_ h3_
   have hHeld : w16.cell? ⟨gb275, 0, none⟩ = some (.int .i64 a0_0) ∧ w16.cell? ⟨gb275, 1, none⟩ = some (.int .i64 a0_1) ∧ w16.cell? ⟨gb275, 2, none⟩ = some (.int .i64 a0_2) ∧ w16.cell? ⟨gb275, 3, none⟩ = some (.slice A0_3 l0_3.length c0_3) ∧ w16.cell? ⟨gb275, 4, none⟩ = some (.slice A0_4 l0_4.length c0_4) := hS_
   obtain ⟨Ao18, co18, eo18⟩ := Kd.R_slice HO282.out
   (first | subst eo18 | (injection eo18 with f1_ f2_ f3_; have f4_ := f1_.symm; have f5_ := f3_.symm; clear f1_ f2_ f3_; subst f4_; subst f5_))
   refine norm_ (a' := ?_) ?_ ?_
   rotate_left; · simp only [putAll, Act.put, List.setIfInBounds_toArray, List.set_cons_zero, List.set_cons_succ]; rfl
   refine one_ (i := 6) (N := some 12) ba8_9 rfl rfl (one_of HT_.out (by kernel_rfl)) (by decide) (fun K hK => ?_)
   refine Kd.R_append_rows_step (Kd.int .u8) (w0 := w) w.heap.size (by rfl) (.tmp 7) (.tmp 11) 62 5 (.int .u8 0) 1 rfl Try.underlying62 info5 rfl (by decide) (by omega) v278 t277 y280 _ _ _ (fun k_ => some k_ ≠ (.slice Ao18 y280.length co18 : Value).ownBlock) (fun _ => False) rfl rfl ?aO ?aR (fun _ _ h => h) (fun _ h => h.elim) ?aF ?aB ?aS ?aL ?_
   (case aR => exact rc_ HO282)
   (case aB => exact (by repeat (first | (with_reducible first | exact HB.out | apply below_alloc | apply pw_below_drewN | apply below_drew1 | refine below_set ?_ GE275.out) | exact HB.out)))
   (case aF => exact (fun k_ hk => Kd.fresh' (Kd.R_lt (hd_ HO282)) k_ hk))
   (case aO => exact (hd_ HO279))
   (case aS => exact (bz_ HB))
   (case aL => have := LMc5.out; omega)
   intro v284 w17 ho hb hg hat
   rw [← Ny283.out] at ho
   have HO285 := Aside0.mk ho
   replace BK275 := Aside0.mk (blk_grown (g := gb275) (o := .cells #[.int .i64 a0_0, .int .i64 a0_1, .int .i64 a0_2, .slice A0_3 l0_3.length c0_3, .slice A0_4 l0_4.length c0_4] 31 (0, 0)) (by (with_reducible repeat (first | refine blk_drewN ?_ _ | refine blk_drew ?_ | refine blk_alloc ?_ _)); exact BK275.out) hg (Kd.R_ne HO279.out BK275.out (by decide)))
   replace HO282 := Aside0.mk (Kd.R_after (ok := (fun _ => True)) (by (with_reducible repeat (first | apply Kd.R_alloc | apply Kd.R_drewN | apply Kd.R_drew)); exact Kd.R_mono HO282.out (fun _ hk => by first | exact ⟨trivial, hk⟩ | grind)) hg hat)
   replace HB := Aside0.mk (hb)
   clear HO279
   clear ho hb hg hat
   refine hK.out _ _ ⟨(blk_cell BK275.out 0).trans rfl, (blk_cell BK275.out 1).trans rfl, (blk_cell BK275.out 2).trans rfl, (blk_cell BK275.out 3).trans rfl, (blk_cell BK275.out 4).trans rfl⟩ (fun hHeld => ?_)
   clear hK K
   refine nz_ 12 ?_
   refine one_ (i := 8) (N := some 14) ba8_10 rfl rfl (one_of HT_.out (by kernel_rfl)) (by decide) (fun K hK => ?_)
   refine gz_ Try.func25 #[.agg #[.int .i64 a0_0, .int .i64 a0_1, .int .i64 a0_2, .slice A0_3 l0_3.length c0_3, .slice A0_4 l0_4.length c0_4]] ?_
   with_reducible refine (spec_LsaSum.calls k a0_0 a0_1 a0_2 _ _ l0_3 _ _ l0_4 t286 _ ?side1 ?side2 ?side3 ?side4 A6.out).mono ?_
   (case side1 => exact cb_ HR0_3 HB)
   (case side2 => exact HC0_3.out)
   (case side3 => exact cb_ HR0_4 HB)
   (case side4 => exact HC0_4.out)
   rintro e w19 ⟨rfl, hb⟩
   refine ⟨_, rfl, ?_⟩
   replace HO282 := rb_ HO282 hb
   replace HO285 := rb_ HO285 hb
   replace BK275 := Aside0.mk (bb_ BK275 hb)
   replace HB := Aside0.mk (bt_ HB hb)
   (try clear hb)
   (try clear hb2)
   (try clear hk)
   (try clear hi)
   refine hK.out _ _ ⟨(blk_cell BK275.out 0).trans rfl, (blk_cell BK275.out 1).trans rfl, (blk_cell BK275.out 2).trans rfl, (blk_cell BK275.out 3).trans rfl, (blk_cell BK275.out 4).trans rfl⟩ (fun hHeld => ?_)
   clear hK K
   refine nz_ 14 ?_
   refine one_ (i := 9) (N := some 15) ba8_11 rfl rfl (one_of HT_.out (by kernel_rfl)) (by decide) (fun K hK => ?_)
   refine gz_ Try.func76 #[.int .i64 t286, .int .i64 3] ?_
   with_reducible refine (spec_l05Wide.calls k t286 3 t287 _ A7.out).mono ?_
   rintro e w20 ⟨v288, rfl, ho0, hb⟩
   refine ⟨_, rfl, ?_⟩
   have HO289 := Aside0.mk (Kd.R_lower (Kd.R_new' (Kd.R_new' ho0 (Kd.R_lt (hd_ HO282))) (Kd.R_lt (hd_ HO285))) (bz_ HB))
   replace HO282 := Aside0.mk (Kd.R_elder' (hd_ HO282) (Kd.R_base ho0) hb)
   replace HO285 := Aside0.mk (Kd.R_elder' (hd_ HO285) (Kd.R_base ho0) hb)
   replace BK275 := Aside0.mk (bb_ BK275 hb)
   replace HB := Aside0.mk (bt_ HB hb)
   (try clear hb)
   (try clear hb2)
   (try clear hk)
   (try clear hi)
   (try clear ho0)
   obtain ⟨Ao21, co21, eo21⟩ := Kd.R_slice HO285.out
   (first | subst eo21 | (injection eo21 with f1_ f2_ f3_; have f4_ := f1_.symm; have f5_ := f3_.symm; clear f1_ f2_ f3_; subst f4_; subst f5_))
   obtain ⟨Ao22, co22, eo22⟩ := Kd.R_slice HO289.out
   (first | subst eo22 | (injection eo22 with f1_ f2_ f3_; have f4_ := f1_.symm; have f5_ := f3_.symm; clear f1_ f2_ f3_; subst f4_; subst f5_))
   refine hK.out _ _ ⟨(blk_cell BK275.out 0).trans rfl, (blk_cell BK275.out 1).trans rfl, (blk_cell BK275.out 2).trans rfl, (blk_cell BK275.out 3).trans rfl, (blk_cell BK275.out 4).trans rfl⟩ (fun hHeld => ?_)
   clear hK K
   refine nz_ 15 ?_
   refine one_ (i := 10) (N := some 16) ba8_12 rfl rfl (one_of HT_.out (by kernel_rfl)) (by decide) (fun K hK => ?_)
   refine gz_ Try.func75 #[.slice Ao21 y283.length co21, .slice Ao22 t287.length co22] ?_
   with_reducible refine (spec_l01Join.calls k _ _ y283 _ _ t287 t290 _ ?side1 ?side2 ?side3 ?side4 A8.out).mono ?_
   (case side1 => exact rc_ HO285)
   (case side2 => exact (Kd.R_reads' HO285.out).2.1)
   (case side3 => exact rc_ HO289)
   (case side4 => exact (Kd.R_reads' HO289.out).2.1)
   rintro e w23 ⟨v291, rfl, ho0, hb⟩
   refine ⟨_, rfl, ?_⟩
   have HO292 := Aside0.mk (Kd.R_lower (Kd.R_new' (Kd.R_new' (Kd.R_new' ho0 (Kd.R_lt (hd_ HO282))) (Kd.R_lt (hd_ HO285))) (Kd.R_lt (hd_ HO289))) (bz_ HB))
   replace HO282 := Aside0.mk (Kd.R_elder' (hd_ HO282) (Kd.R_base ho0) hb)
   replace HO285 := Aside0.mk (Kd.R_elder' (hd_ HO285) (Kd.R_base ho0) hb)
   replace HO289 := Aside0.mk (Kd.R_elder' (hd_ HO289) (Kd.R_base ho0) hb)
   replace BK275 := Aside0.mk (bb_ BK275 hb)
   replace HB := Aside0.mk (bt_ HB hb)
   (try clear hb)
   (try clear hb2)
   (try clear hk)
   (try clear hi)
   (try clear ho0)
   refine hK.out _ _ ⟨(blk_cell BK275.out 0).trans rfl, (blk_cell BK275.out 1).trans rfl, (blk_cell BK275.out 2).trans rfl, (blk_cell BK275.out 3).trans rfl, (blk_cell BK275.out 4).trans rfl⟩ (fun hHeld => ?_)
   clear hK K
   refine nz_ 16 ?_
   refine pz_ 11 2 ba8_13 HT_ ?_
   refine done_ (done_of HT_.out (by kernel_rfl)) ?_
   try go_wp2
   go_ret
   exact ⟨_, by first | rfl | (simp [errW_none, errW_some] <;> rfl) | (simp [*, errW_none, errW_some] <;> rfl), by (with_reducible repeat (first | apply Kd.R_alloc | apply Kd.R_drewN | apply Kd.R_drew)); exact Kd.R_mono HO292.out (fun _ hk => trivial), by repeat (first | (with_reducible first | exact HB.out | apply below_alloc | apply pw_below_drewN | apply below_drew1 | refine below_set ?_ GE275.out) | exact HB.out)⟩
  ·rw [if_neg c5] at H
   exact absurd H (by simp)
 ·replace c3 := Bool.eq_false_iff.mpr c3
  subst c3
  rw [if_neg (show ¬ (false = true) by decide)] at H
  obtain rfl := Option.some.inj H
  go_enter Try.func46, Try.ntmps46
  go_wp2_with (first | ((with_reducible refine gate_dst (N := 1) rfl ?_); refine box_event ?hg (N := 1) ?hd (cs := #[.int .i64 a0_0, .int .i64 a0_1, .int .i64 a0_2, .slice A0_3 l0_3.length c0_3, .slice A0_4 l0_4.length c0_4]) (t := 31) ?hr ?_; (case hd => rfl); (case hg => rfl); (case hr => first | (go_simp; done) | (go_simp; rfl)); intro gb275 hg w24 hbox hb; have BK275 := Aside0.mk hbox; have GW275 := ge_ HB hg; have GE275 := ge_ HB hg; replace HB := Aside0.mk (bt_ HB hb); clear hb hbox hg; have hcz25_0 := cz_ BK275 0 (.int .i64 a0_0); have hcz25_1 := cz_ BK275 1 (.int .i64 a0_1); have hcz25_2 := cz_ BK275 2 (.int .i64 a0_2); have hcz25_3 := cz_ BK275 3 (.slice A0_3 l0_3.length c0_3); have hcz25_4 := cz_ BK275 4 (.slice A0_4 l0_4.length c0_4); have hfz25_0 := blk_frozen BK275.out 0; have hfz25_1 := blk_frozen BK275.out 1; have hfz25_2 := blk_frozen BK275.out 2; have hfz25_3 := blk_frozen BK275.out 3; have hfz25_4 := blk_frozen BK275.out 4) | ((with_reducible refine gate_callee (f := 14) rfl ?_); refine gl_ (some 4) Try.func14 #[.agg #[.int .i64 a0_0, .int .i64 a0_1, .int .i64 a0_2, .slice A0_3 l0_3.length c0_3, .slice A0_4 l0_4.length c0_4]] ?_; (with_reducible refine (spec_LsaOk.calls k a0_0 a0_1 a0_2 _ _ l0_3 _ _ l0_4 false _ ?side1 ?side2 ?side3 ?side4 A2.out).mono ?_); (case side1 => exact cb_ HR0_3 HB); (case side2 => exact HC0_3.out); (case side3 => exact cb_ HR0_4 HB); (case side4 => exact HC0_4.out); rintro e w26 ⟨rfl, hb⟩; refine ⟨_, rfl, ?_⟩; replace BK275 := Aside0.mk (bb_ BK275 hb); replace HB := Aside0.mk (bt_ HB hb); (try clear hb); (try clear hb2); (try clear hk); (try clear hi)))
  go_ret
  exact ⟨_, by first | rfl | (simp [errW_none, errW_some] <;> rfl) | (simp [*, errW_none, errW_some] <;> rfl), by first | exact Kd.R_nil _ _ _ _ _ | exact Kd.N_nil _ _ _ _ _ | exact Kd.V_nil _ _ _ _ _ | exact Kd.Q_nil _ _ _ _ _ | exact Kd.S_nil _ _ _ _ _, by repeat (first | (with_reducible first | exact HB.out | apply below_alloc | apply pw_below_drewN | apply below_drew1 | refine below_set ?_ GE275.out) | exact HB.out)⟩

/-! ### impl_within: function 55 -/
def impl_within.f (a0 : Int) (a1 : Int) (a2 : Int) : Option (Bool) := if a0 ≥ a1 then (some (decide (a0 ≤ a2))) else (some false)
set_option maxHeartbeats 8000000 in
set_option maxRecDepth 100000 in
theorem impl_within.calls (a0 : Int) (a1 : Int) (a2 : Int) (r : Bool) (w : World) (h : impl_within.f a0 a1 a2 = some r) :
  Calls Try.prog 55 #[.int .i64 a0, .int .i64 a1, .int .i64 a2] w fun e w' => e = .returned (.bool r) ∧ Drawn0 w w' := by
 have H : (if a0 ≥ a1 then (some (decide (a0 ≤ a2))) else (some false)) = some r := h
 clear h
 by_cases c4 : a0 ≥ a1
 ·rw [if_pos c4] at H
  have c4b0 : decide (a1 ≤ a0) = true := decide_eq_true c4
  clear c4
  obtain rfl := Option.some.inj H
  go_enter Try.func55, Try.ntmps55
  go_wp2
  go_ret
  exact ⟨by first | rfl | (simp; done) | (simp [*]; done), by repeat (first | exact Drawn0.refl _ | apply Drawn0.step)⟩
 ·rw [if_neg c4] at H
  have c4b0 : decide (a1 ≤ a0) = false := decide_eq_false c4
  clear c4
  obtain rfl := Option.some.inj H
  go_enter Try.func55, Try.ntmps55
  go_wp2
  go_ret
  exact ⟨by first | rfl | (simp; done) | (simp [*]; done), by repeat (first | exact Drawn0.refl _ | apply Drawn0.step)⟩

end Go.Proofs.Ytiikcfaodkiakaa.QFnExactPutLsa
