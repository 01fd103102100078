/- Contracts of functions that the law reaches: what each call returns and what it leaves in memory. Made by this session over the print of the kit. -/
import Derived.Test.YthmahcohcphljaaQFnHopsx0
import Derived.Test.YthmahcohcphljaaQFnHopsx1
import Derived.Test.YthmahcohcphljaaQFnHopsx2
import Derived.Test.YthmahcohcphljaaQFnHopsx3
import Derived.Test.YthmahcohcphljaaQFnHopsx6
import Derived.Test.YthmahcohcphljaaQFnHopsx10
import Derived.Test.YthmahcohcphljaaQFnHopsx11
import Derived.Test.YthmahcohcphljaaQFnHopsx13
namespace Go.Proofs.Ythmahcohcphljaa.QFnHops
open Go.RowKit Go.Proofs.YthmahcohcphljaaP.PrintWords Go.Proofs.YthmahcohcphljaaP.PrintLast Go.Proofs.YthmahcohcphljaaP.PrintMore
attribute [local go_sem] max2_int min2_int max_two min_two max_three min_three max_four min_four   -- for this text's walks alone
set_option linter.unusedVariables false
set_option linter.unusedSimpArgs false

/-! ### spec_HopTable: function 31 -/
mutual
def spec_HopTable.j0 : Nat → Int → List (List Int) → Bool → Int → List (S76) → Option ((List (List Int)))
 | 0, _, _, _, _, _ => none
 | k + 1, x1, x5, x16, x451000, x451001 => if x16 = true then (some ([] : List (List Int))) else (spec_HopTable.l0 k x1 x5 0 x451000 x451001)
def spec_HopTable.l0 : Nat → Int → List (List Int) → Int → Int → List (S76) → Option ((List (List Int)))
 | 0, _, _, _, _, _ => none
 | k + 1, x1, x5, x6, x451000, x451001 => if x6 < x451000 then ((spec_HopsTo.f k x451000 x451001 x1 x6).bind fun t456 => (if x5.length < 5864062014805 then (spec_HopTable.l0 k x1 (x5 ++ [t456]) (wrap64 (x6 + 1)) x451000 x451001) else (none))) else (some x5)
end
def spec_HopTable.f (k : Nat) (a0_0 : Int) (l0_1 : List (S76)) (a1 : Int) : Option ((List (List Int))) := (some (([] : List (List Int)) : List (List Int))).bind fun y451 => ((spec_GraphOk.f k a0_0 l0_1).bind fun t454 => (if t454 = true then ((spec_l03Node.f a0_0 l0_1 a1).bind fun t455 => (spec_HopTable.j0 k a1 y451 (!t455) a0_0 l0_1)) else (spec_HopTable.j0 k a1 y451 true a0_0 l0_1)))
theorem spec_HopTable.mono_l : ∀ k, (∀ y0 y1 y2 y3 y4, LeO (spec_HopTable.j0 k y0 y1 y2 y3 y4) (spec_HopTable.j0 (k + 1) y0 y1 y2 y3 y4)) ∧ (∀ y0 y1 y2 y3 y4, LeO (spec_HopTable.l0 k y0 y1 y2 y3 y4) (spec_HopTable.l0 (k + 1) y0 y1 y2 y3 y4))
 | 0 => ⟨fun _ _ _ _ _ r h => by simp [spec_HopTable.j0] at h, fun _ _ _ _ _ r h => by simp [spec_HopTable.l0] at h⟩
 | k + 1 => by
  obtain ⟨ih0, ih1⟩ := spec_HopTable.mono_l k
  refine ⟨?_, ?_⟩
  ·intro y0 y1 y2 y3 y4
   unfold spec_HopTable.j0
   repeat' first
   | (with_reducible exact ih0 _ _ _ _ _)
   | (with_reducible exact ih1 _ _ _ _ _)
   | (with_reducible exact spec_GraphOk.mono _ _ _)
   | (with_reducible exact spec_HopsTo.mono _ _ _ _ _)
   | (with_reducible exact LeO.refl _)
   | (with_reducible exact LeO.none _)
   | (with_reducible refine LeO.ite ?_ ?_)
   | (with_reducible refine LeO.bind ?_ (fun _ => ?_))
   | exact ih0 _ _ _ _ _
   | exact ih1 _ _ _ _ _
   | exact spec_GraphOk.mono _ _ _
   | exact spec_HopsTo.mono _ _ _ _ _
   | exact LeO.none _
   | refine LeO.ite ?_ ?_
   | refine LeO.bind ?_ (fun _ => ?_)
  ·intro y0 y1 y2 y3 y4
   unfold spec_HopTable.l0
   repeat' first
   | (with_reducible exact ih0 _ _ _ _ _)
   | (with_reducible exact ih1 _ _ _ _ _)
   | (with_reducible exact spec_GraphOk.mono _ _ _)
   | (with_reducible exact spec_HopsTo.mono _ _ _ _ _)
   | (with_reducible exact LeO.refl _)
   | (with_reducible exact LeO.none _)
   | (with_reducible refine LeO.ite ?_ ?_)
   | (with_reducible refine LeO.bind ?_ (fun _ => ?_))
   | exact ih0 _ _ _ _ _
   | exact ih1 _ _ _ _ _
   | exact spec_GraphOk.mono _ _ _
   | exact spec_HopsTo.mono _ _ _ _ _
   | exact LeO.none _
   | refine LeO.ite ?_ ?_
   | refine LeO.bind ?_ (fun _ => ?_)
theorem spec_HopTable.mono : ∀ a0 a1 a2 k, LeO (spec_HopTable.f k a0 a1 a2) (spec_HopTable.f (k + 1) a0 a1 a2) := by
 intro a0 a1 a2 k
 obtain ⟨ih0, ih1⟩ := spec_HopTable.mono_l k
 unfold spec_HopTable.f
 repeat' first
   | (with_reducible exact ih0 _ _ _ _ _)
   | (with_reducible exact ih1 _ _ _ _ _)
   | (with_reducible exact spec_GraphOk.mono _ _ _)
   | (with_reducible exact spec_HopsTo.mono _ _ _ _ _)
   | (with_reducible exact LeO.refl _)
   | (with_reducible exact LeO.none _)
   | (with_reducible refine LeO.ite ?_ ?_)
   | (with_reducible refine LeO.bind ?_ (fun _ => ?_))
   | exact ih0 _ _ _ _ _
   | exact ih1 _ _ _ _ _
   | exact spec_GraphOk.mono _ _ _
   | exact spec_HopsTo.mono _ _ _ _ _
   | exact LeO.none _
   | refine LeO.ite ?_ ?_
   | refine LeO.bind ?_ (fun _ => ?_)
set_option maxHeartbeats 8000000 in
set_option maxRecDepth 100000 in
theorem spec_HopTable.calls (k : Nat) (a0_0 : Int) (A0_1 : Option Addr) (c0_1 : Nat) (l0_1 : List (S76)) (a1 : Int) (r : List (List Int)) (w : World) (hr0_1 : Kd.C k76 w A0_1 l0_1.length l0_1) (hc0_1 : l0_1.length ≤ c0_1) (h : spec_HopTable.f k a0_0 l0_1 a1 = some r) :
  Calls Try.prog 31 #[.agg #[.int .i64 a0_0, .slice A0_1 l0_1.length c0_1], .int .i64 a1] w fun e w' => ∃ v0_ : Value, e = .returned (v0_) ∧ Kd.S (Kd.slice 3 (Kd.int .i64)) 26 w' w.heap.size (fun _ => True) v0_ r ∧ Below w.heap.size w w' := by
 have hu30 := Try.underlying30
 have HR0_1 := Aside0.mk hr0_1
 have HC0_1 := Aside0.mk hc0_1
 clear hr0_1 hc0_1
 have HB := Aside0.mk (Below.refl w.heap.size w)
 have H : ((some (([] : List (List Int)) : List (List Int))).bind fun y451 => ((spec_GraphOk.f k a0_0 l0_1).bind fun t454 => (if t454 = true then ((spec_l03Node.f a0_0 l0_1 a1).bind fun t455 => (spec_HopTable.j0 k a1 y451 (!t455) a0_0 l0_1)) else (spec_HopTable.j0 k a1 y451 true a0_0 l0_1)))) = some r := h
 clear h
 obtain ⟨y451, hy451⟩ : ∃ y_ : List (List Int), y_ = (([] : List (List Int))) := ⟨_, rfl⟩
 replace H : ((spec_GraphOk.f k a0_0 l0_1).bind fun t454 => (if t454 = true then ((spec_l03Node.f a0_0 l0_1 a1).bind fun t455 => (spec_HopTable.j0 k a1 y451 (!t455) a0_0 l0_1)) else (spec_HopTable.j0 k a1 y451 true a0_0 l0_1))) = some r := by first | (rw [hy451]; with_reducible exact H) | (have H2_ := (Option.bind_some _ _).symm.trans H; rw [hy451]; with_reducible exact H2_) | (have H2_ := (Option.bind_some _ _).symm.trans H; with_reducible exact H2_) | with_reducible exact H | (rw [hy451]; exact H) | exact H
 have Ny451 := Aside0.mk hy451
 clear hy451
 have HC3 := Aside0.mk H
 clear H
 go_enter Try.func31, Try.ntmps31
 go_upto_region 2 with (first | ((with_reducible refine gate_dst (N := 2) rfl ?_); refine box_event ?hg (N := 2) ?hd (cs := #[.int .i64 a0_0, .slice A0_1 l0_1.length c0_1]) (t := 30) ?hr ?_; (case hd => rfl); (case hg => rfl); (case hr => first | (go_simp; done) | (go_simp; rfl)); intro gb450 hg w4 hbox hb; have BK450 := Aside0.mk hbox; have GW450 := ge_ HB hg; have GE450 := ge_ HB hg; replace HB := at_ HB hb; clear hb hbox hg) | ((with_reducible refine gate_dst (N := 7) rfl ?_); refine Kd.S_lit (Kd.slice 3 (Kd.int .i64)) _ 26 ?hg (N := 7) ?hd (xs := ([] : List (List Int))) (inner := []) (ok := fun _ => True) (okp := fun _ => True) ?hr ?hp (fun _ hk => hk) trivial (Below.refl _ _) (Nat.le_refl _) (by simp) ?_; (case hd => rfl); (case hg => rfl); (case hr => first | (go_simp; done) | (go_simp; rfl)); (case hp => exact (Reps.none _ _)); intro v452 w5 ho6 hb hg_ hnew_; clear hg_ hnew_; (first | rw [← Ny451.out] at ho6 | (simp only [Int.reduceToNat] at ho6; rw [← Ny451.out] at ho6)); have HO453 := Aside0.mk (Kd.S_lower ho6 (bz_ HB)); replace BK450 := ab_ BK450 hb; replace HB := at_ HB hb; clear hb ho6))
 (try simp only [Act.put, List.setIfInBounds_toArray, List.set_cons_zero, List.set_cons_succ])
 go_cut [16] (fun v16 wc => ∃ (kq : Nat) (x16_2 : Bool), v16 = .bool x16_2 ∧ Aside0 (spec_HopTable.j0 kq a1 y451 x16_2 a0_0 l0_1 = some r) ∧ Aside0 (kq ≤ k) ∧ Aside0 (Kd.S (Kd.slice 3 (Kd.int .i64)) 26 wc w.heap.size (fun _ => True) v452 y451) ∧ Aside0 (wc.heap[gb450]? = some (.cells #[.int .i64 a0_0, (.slice A0_1 l0_1.length c0_1)] 30 (0, 0))) ∧ Aside0 (Below w.heap.size w wc))
 case first =>
  have H := HC3.out
  clear HC3
  replace H := Option.bind_eq_some_iff.mp H
  obtain ⟨t454, A70, H⟩ := H
  have A7 := Aside0.mk A70
  clear A70
  by_cases c8 : t454 = true
  rotate_left
  ·replace c8 := Bool.eq_false_iff.mpr c8
   subst c8
   rw [if_neg (show ¬ (false = true) by decide)] at H
   have H' := Aside0.mk H
   clear H
   have hcz14_0 := cz_ BK450 0 (.int .i64 a0_0)
   have hcz14_1 := cz_ BK450 1 (.slice A0_1 l0_1.length c0_1)
   have hfz14_0 := blk_frozen BK450.out 0
   have hfz14_1 := blk_frozen BK450.out 1
   go_wp2_with ((with_reducible refine gate_callee (f := 25) rfl ?_); refine gl_ (some 9) Try.func25 #[.agg #[.int .i64 a0_0, .slice A0_1 l0_1.length c0_1]] ?_; (with_reducible refine (spec_GraphOk.calls k a0_0 _ _ l0_1 false _ ?side1 ?side2 A7.out).mono ?_); (case side1 => exact cb_ HR0_1 HB); (case side2 => exact HC0_1.out); rintro e w15 ⟨rfl, hb⟩; refine ⟨_, rfl, ?_⟩; replace HO453 := Aside0.mk (Kd.S_below (by (with_reducible repeat (first | apply Kd.S_alloc | apply Kd.S_drewN | apply Kd.S_drew)); exact HO453.out) hb); replace BK450 := ab_ BK450 hb; replace HB := at_ HB hb; (try clear hb); (try clear hb2); (try clear hk); (try clear hi))
   go_meet
   case rel => exact ⟨_, (true), (by first | rfl | (simp; done) | (simp [*]; done)), H', ⟨by first | omega | exact Nat.le_refl _⟩, ⟨by (with_reducible repeat (first | apply Kd.S_alloc | apply Kd.S_drewN | apply Kd.S_drew)); exact HO453.out⟩, ⟨bx_ BK450⟩, ⟨bw115_⟩⟩
  subst c8
  rw [if_pos rfl] at H
  replace H := Option.bind_eq_some_iff.mp H
  obtain ⟨t455, A90, H⟩ := H
  have A9 := Aside0.mk A90
  clear A90
  have H' := Aside0.mk H
  clear H
  have hcz10_0 := cz_ BK450 0 (.int .i64 a0_0)
  have hcz10_1 := cz_ BK450 1 (.slice A0_1 l0_1.length c0_1)
  have hfz10_0 := blk_frozen BK450.out 0
  have hfz10_1 := blk_frozen BK450.out 1
  go_wp2_with (first | ((with_reducible refine gate_callee (f := 25) rfl ?_); refine gl_ (some 9) Try.func25 #[.agg #[.int .i64 a0_0, .slice A0_1 l0_1.length c0_1]] ?_; (with_reducible refine (spec_GraphOk.calls k a0_0 _ _ l0_1 true _ ?side1 ?side2 A7.out).mono ?_); (case side1 => exact cb_ HR0_1 HB); (case side2 => exact HC0_1.out); rintro e w11 ⟨rfl, hb⟩; refine ⟨_, rfl, ?_⟩; replace HO453 := Aside0.mk (Kd.S_below (by (with_reducible repeat (first | apply Kd.S_alloc | apply Kd.S_drewN | apply Kd.S_drew)); exact HO453.out) hb); replace BK450 := ab_ BK450 hb; replace HB := at_ HB hb; (try clear hb); (try clear hb2); (try clear hk); (try clear hi); have hcz12_0 := cz_ BK450 0 (.int .i64 a0_0); have hcz12_1 := cz_ BK450 1 (.slice A0_1 l0_1.length c0_1); have hfz12_0 := blk_frozen BK450.out 0; have hfz12_1 := blk_frozen BK450.out 1) | (go_at_call 45; (with_reducible refine (spec_l03Node.calls a0_0 _ _ l0_1 a1 t455 _ ?side1 ?side2 A9.out).mono ?_); (case side1 => exact cb_ HR0_1 HB); (case side2 => exact HC0_1.out); rintro e w13 ⟨rfl, hb⟩; replace HO453 := Aside0.mk (Kd.S_below (by (with_reducible repeat (first | apply Kd.S_alloc | apply Kd.S_drewN | apply Kd.S_drew)); exact HO453.out) hb); replace BK450 := ab_ BK450 hb; replace HB := at_ HB hb; (try clear hb); (try clear hb2); (try clear hk); (try clear hi)))
  go_meet
  case rel => exact ⟨_, (!t455), (by first | rfl | (simp; done) | (simp [*]; done)), H', ⟨by first | omega | exact Nat.le_refl _⟩, ⟨by (with_reducible repeat (first | apply Kd.S_alloc | apply Kd.S_drewN | apply Kd.S_drew)); exact HO453.out⟩, ⟨bx_ BK450⟩, ⟨bw115_⟩⟩
 case rest =>
  clear HC3
  try clear c2
  try clear p2
  try clear c3
  try clear c8
  try clear hcz10_0
  try clear hcz10_1
  try clear hcz12_0
  try clear hcz12_1
  try clear hcz14_0
  try clear hcz14_1
  try clear hfz10_0
  try clear hfz10_1
  try clear hfz12_0
  try clear hfz12_1
  try clear hfz14_0
  try clear hfz14_1
  obtain ⟨kq, x16_2, rfl, HA, HJ2, HO_5, BK450, HB⟩ := hcut
  cases kq with
  | zero => exact absurd HA.out (by simp [spec_HopTable.j0])
  | succ kj2 =>
   have H := HA.out
   clear HA
   simp only [spec_HopTable.j0] at H
   by_cases c16 : x16_2 = true
   ·subst c16
    rw [if_pos rfl] at H
    obtain rfl := Option.some.inj H
    go_wp2
    go_ret
    exact ⟨_, by first | rfl | (simp [errW_none, errW_some] <;> rfl) | (simp [*, errW_none, errW_some] <;> rfl), by first | exact Kd.S_nil _ _ _ _ _ | exact Kd.N_nil _ _ _ _ _ | exact Kd.V_nil _ _ _ _ _ | exact Kd.Q_nil _ _ _ _ _ | exact Kd.R_nil _ _ _ _ _, bw115_⟩
   replace c16 := Bool.eq_false_iff.mpr c16
   subst c16
   rw [if_neg (show ¬ (false = true) by decide)] at H
   have H' := Aside0.mk H
   clear H
   go_wp2
   go_loopg [5, 6] kj2 (fun kq v5 v6 w' => ∃ (x5_2 : List (List Int)) (x6_2 : Int), v6 = .int .i64 x6_2 ∧ Aside0 (spec_HopTable.l0 kq a1 x5_2 x6_2 a0_0 l0_1 = some r) ∧ Aside0 (kq ≤ kj2) ∧ Aside0 (Kd.S (Kd.slice 3 (Kd.int .i64)) 26 w' w.heap.size (fun _ => True) v5 x5_2) ∧ Aside0 (w'.heap[gb450]? = some (.cells #[.int .i64 a0_0, (.slice A0_1 l0_1.length c0_1)] 30 (0, 0))) ∧ Aside0 (Below w.heap.size w w'))
   case atStart => exact ⟨(y451), (0), (by first | rfl | (simp; done) | (simp [*]; done)), H', ⟨Nat.le_refl _⟩, ⟨by (with_reducible repeat (first | apply Kd.S_alloc | apply Kd.S_drewN | apply Kd.S_drew)); exact HO_5.out⟩, ⟨bx_ BK450⟩, ⟨bw115_⟩⟩
   case round =>
    clear H'
    try clear c1
    try clear c2
    try clear p2
    try clear c3
    try clear c8
    try clear c16
    try clear hcz10_0
    try clear hcz10_1
    try clear hcz12_0
    try clear hcz12_1
    try clear hcz14_0
    try clear hcz14_1
    try clear hfz10_0
    try clear hfz10_1
    try clear hfz12_0
    try clear hfz12_1
    try clear hfz14_0
    try clear hfz14_1
    try clear p2
    obtain ⟨x5_2, x6_2, rfl, HA, HK2, HO_5, BK450, HB⟩ := hrel
    cases gk with
    | zero => exact absurd HA.out (by simp [spec_HopTable.l0])
    | succ k2 =>
     have H := HA.out
     clear HA
     simp only [spec_HopTable.l0] at H
     by_cases c17 : x6_2 < a0_0
     rotate_left
     ·rw [if_neg c17] at H
      have c17b0 : decide (x6_2 < a0_0) = false := decide_eq_false c17
      clear c17
      obtain rfl := Option.some.inj H
      have hcz24_0 := cz_ BK450 0 (.int .i64 a0_0)
      have hcz24_1 := cz_ BK450 1 (.slice A0_1 l0_1.length c0_1)
      have hfz24_0 := blk_frozen BK450.out 0
      have hfz24_1 := blk_frozen BK450.out 1
      go_wp2
      go_ret
      exact ⟨_, by first | rfl | (simp [errW_none, errW_some] <;> rfl) | (simp [*, errW_none, errW_some] <;> rfl), by (with_reducible repeat (first | apply Kd.S_alloc | apply Kd.S_drewN | apply Kd.S_drew)); exact HO_5.out, bw115_⟩
     rw [if_pos c17] at H
     have c17b0 : decide (x6_2 < a0_0) = true := decide_eq_true c17
     clear c17
     replace H := Option.bind_eq_some_iff.mp H
     obtain ⟨t456, A180, H⟩ := H
     have A18 := Aside0.mk A180
     clear A180
     by_cases c19 : x5_2.length < 5864062014805
     rotate_left
     ·rw [if_neg c19] at H
      exact absurd H (by simp)
     rw [if_pos c19] at H
     have LMc19 := Aside0.mk c19
     clear c19
     obtain ⟨y459, hy459⟩ : ∃ y_ : List (List Int), y_ = (x5_2 ++ [t456]) := ⟨_, rfl⟩
     replace H : (spec_HopTable.l0 k2 a1 y459 (wrap64 (x6_2 + 1)) a0_0 l0_1) = some r := by first | (rw [hy459]; with_reducible exact H) | (have H2_ := (Option.bind_some _ _).symm.trans H; rw [hy459]; with_reducible exact H2_) | (have H2_ := (Option.bind_some _ _).symm.trans H; with_reducible exact H2_) | with_reducible exact H | (rw [hy459]; exact H) | exact H
     have Ny459 := Aside0.mk hy459
     clear hy459
     have H' := Aside0.mk H
     clear H
     have hcz20_0 := cz_ BK450 0 (.int .i64 a0_0)
     have hcz20_1 := cz_ BK450 1 (.slice A0_1 l0_1.length c0_1)
     have hfz20_0 := blk_frozen BK450.out 0
     have hfz20_1 := blk_frozen BK450.out 1
     go_wp2_with (first | ((with_reducible refine gate_callee (f := 53) rfl ?_); refine gl_ (some 27) Try.func53 #[.agg #[.int .i64 a0_0, .slice A0_1 l0_1.length c0_1], .int .i64 a1, .int .i64 x6_2] ?_; (with_reducible refine (spec_HopsTo.calls k2 a0_0 _ _ l0_1 a1 x6_2 t456 _ ?side1 ?side2 A18.out).mono ?_); (case side1 => exact cb_ HR0_1 HB); (case side2 => exact HC0_1.out); rintro e w21 ⟨v457, rfl, ho0, hb⟩; refine ⟨_, rfl, ?_⟩; have HO458 := Aside0.mk (Kd.R_lower ho0 (bz_ HB)); replace HO_5 := Aside0.mk (Kd.S_elder' (by (with_reducible repeat (first | apply Kd.S_alloc | apply Kd.S_drewN | apply Kd.S_drew)); exact HO_5.out) (Kd.R_base ho0) hb); replace BK450 := ab_ BK450 hb; replace HB := at_ HB hb; (try clear hb); (try clear hb2); (try clear hk); (try clear hi); (try clear ho0); obtain ⟨Ao23, co23, eo23⟩ := Kd.R_slice HO458.out; subst eo23) | ((with_reducible refine gate_builtin (b := .append) (xs := #[.tmp 23, .tmp 28]) rfl ?_); at_builtin; refine Kd.S_append (Kd.slice 3 (Kd.int .i64)) (w0 := w) w.heap.size rfl (.tmp 23) (.tmp 28) 45 26 (.slice none 0 0) 24 rfl Try.underlying45 info26 rfl (by decide) (by omega) u5 x5_2 t456 [.slice Ao23 t456.length co23] (fun _ => True) (fun k_ => some k_ = (.slice Ao23 t456.length co23 : Value).ownBlock) rfl rfl ?aP (fun k_ hk_ => ((Kd.R_mono (ok' := fun k_ => ((fun _ => True)) k_ ∧ some k_ ≠ (u5 : Value).ownBlock) (Kd.R_apart' (HO458.out) (Kd.S_typed HO_5.out) (by decide)) (fun k_ hk => ⟨trivial, hk.2⟩))).1 k_ hk_.symm) ?aF ?aO ?aB ?aS ?aL ?_; (case aP => exact Kd.M_row (Kd.R_mono (Kd.R_tight rfl (Kd.R_mono (ok' := fun k_ => ((fun _ => True)) k_ ∧ some k_ ≠ (u5 : Value).ownBlock) (Kd.R_apart' (HO458.out) (Kd.S_typed HO_5.out) (by decide)) (fun k_ hk => ⟨trivial, hk.2⟩))) (fun _ h_ => h_))); (case aB => exact (bw115_)); (case aF => exact (fun _ _ => trivial)); (case aO => exact (by (with_reducible repeat (first | apply Kd.S_alloc | apply Kd.S_drewN | apply Kd.S_drew)); exact Kd.S_mono HO_5.out (fun k_ hk => ⟨trivial, fun e_ => hk.2 e_⟩))); (case aS => exact (bz_ HB)); (case aL => have := LMc19.out; omega); intro v460 w22 ho hb hg hat; rw [← Ny459.out] at ho; have HO461 := Aside0.mk ho; replace BK450 := Aside0.mk (blk_grown (g := gb450) (o := .cells #[.int .i64 a0_0, .slice A0_1 l0_1.length c0_1] 30 (0, 0)) (bx_ BK450) hg (Kd.S_ne HO_5.out BK450.out (by decide))); replace HB := Aside0.mk (hb); clear HO_5 HO458; clear ho hb hg hat))
     go_roundg k2
     case measure => have := HJ2.out; have := HK2.out; omega
     case rel => exact ⟨(y459), (wrap64 (x6_2 + 1)), (by first | rfl | (simp; done) | (simp [*]; done)), H', ⟨by have := HJ2.out; have := HK2.out; omega⟩, ⟨by (with_reducible repeat (first | apply Kd.S_alloc | apply Kd.S_drewN | apply Kd.S_drew)); exact HO461.out⟩, ⟨bx_ BK450⟩, ⟨bw115_⟩⟩

/-! ### impl_Graph_hopsTo: function 58 -/
mutual
def impl_Graph_hopsTo.j0 : Nat → Int → Int → List (List Int) → List Int → Bool → Int → List (S76) → Option (List Int)
 | 0, _, _, _, _, _, _, _ => none
 | k + 1, x1, x2, x3, x9, x25, x463000, x463001 => if x25 = true then (some x9) else (impl_Graph_hopsTo.l0 k x1 x2 x3 x9 x463001 (x463001.length : Int) 0)
def impl_Graph_hopsTo.l0 : Nat → Int → Int → List (List Int) → List Int → List (S76) → Int → Int → Option (List Int)
 | 0, _, _, _, _, _, _, _ => none
 | k + 1, x1, x2, x3, x9, x28, x29, x30 => if x30 < x29 then (if 0 ≤ x30 then (if x30 < (x28.length : Int) then (if ((rd_T76 x28 x30).f0) = x1 then (if 0 ≤ ((rd_T76 x28 x30).f1) then (if ((rd_T76 x28 x30).f1) < (x3.length : Int) then (if 0 ≤ x2 then (if x2 < ((rd_L2 x3 ((rd_T76 x28 x30).f1)).length : Int) then (if 0 ≤ x1 then (if x1 < (x3.length : Int) then (if x2 < ((rd_L2 x3 x1).length : Int) then (if (wrap64 (((rd_T76 x28 x30).f2) + (rd (rd_L2 x3 ((rd_T76 x28 x30).f1)) x2))) = (rd (rd_L2 x3 x1) x2) then (if x9.length < 17592186044416 then (impl_Graph_hopsTo.l0 k x1 x2 x3 (x9 ++ [(rd_T76 x28 x30).f1]) x28 x29 (wrap64 (x30 + 1))) else (none)) else (impl_Graph_hopsTo.l0 k x1 x2 x3 x9 x28 x29 (wrap64 (x30 + 1)))) else (none)) else (none)) else (none)) else (none)) else (none)) else (none)) else (none)) else (impl_Graph_hopsTo.l0 k x1 x2 x3 x9 x28 x29 (wrap64 (x30 + 1)))) else (none)) else (none)) else (some x9)
end
def impl_Graph_hopsTo.f (k : Nat) (a0_0 : Int) (l0_1 : List (S76)) (a1 : Int) (a2 : Int) (l3 : List (List Int)) : Option (List Int) := (some (([] : List Int) : List Int)).bind fun y463 => (if a1 = a2 then (impl_Graph_hopsTo.j0 k a1 a2 l3 y463 true a0_0 l0_1) else (if 0 ≤ a1 then (if a1 < (l3.length : Int) then (if 0 ≤ a2 then (if a2 < ((rd_L2 l3 a1).length : Int) then (impl_Graph_hopsTo.j0 k a1 a2 l3 y463 ((rd (rd_L2 l3 a1) a2) == 1000000) a0_0 l0_1) else (none)) else (none)) else (none)) else (none)))
theorem impl_Graph_hopsTo.mono_l : ∀ k, (∀ y0 y1 y2 y3 y4 y5 y6, LeO (impl_Graph_hopsTo.j0 k y0 y1 y2 y3 y4 y5 y6) (impl_Graph_hopsTo.j0 (k + 1) y0 y1 y2 y3 y4 y5 y6)) ∧ (∀ y0 y1 y2 y3 y4 y5 y6, LeO (impl_Graph_hopsTo.l0 k y0 y1 y2 y3 y4 y5 y6) (impl_Graph_hopsTo.l0 (k + 1) y0 y1 y2 y3 y4 y5 y6))
 | 0 => ⟨fun _ _ _ _ _ _ _ r h => by simp [impl_Graph_hopsTo.j0] at h, fun _ _ _ _ _ _ _ r h => by simp [impl_Graph_hopsTo.l0] at h⟩
 | k + 1 => by
  obtain ⟨ih0, ih1⟩ := impl_Graph_hopsTo.mono_l k
  refine ⟨?_, ?_⟩
  ·intro y0 y1 y2 y3 y4 y5 y6
   unfold impl_Graph_hopsTo.j0
   repeat' first
   | (with_reducible exact ih0 _ _ _ _ _ _ _)
   | (with_reducible exact ih1 _ _ _ _ _ _ _)
   | (with_reducible exact LeO.refl _)
   | (with_reducible exact LeO.none _)
   | (with_reducible refine LeO.ite ?_ ?_)
   | (with_reducible refine LeO.bind ?_ (fun _ => ?_))
   | exact ih0 _ _ _ _ _ _ _
   | exact ih1 _ _ _ _ _ _ _
   | exact LeO.none _
   | refine LeO.ite ?_ ?_
   | refine LeO.bind ?_ (fun _ => ?_)
  ·intro y0 y1 y2 y3 y4 y5 y6
   unfold impl_Graph_hopsTo.l0
   repeat' first
   | (with_reducible exact ih0 _ _ _ _ _ _ _)
   | (with_reducible exact ih1 _ _ _ _ _ _ _)
   | (with_reducible exact LeO.refl _)
   | (with_reducible exact LeO.none _)
   | (with_reducible refine LeO.ite ?_ ?_)
   | (with_reducible refine LeO.bind ?_ (fun _ => ?_))
   | exact ih0 _ _ _ _ _ _ _
   | exact ih1 _ _ _ _ _ _ _
   | exact LeO.none _
   | refine LeO.ite ?_ ?_
   | refine LeO.bind ?_ (fun _ => ?_)
theorem impl_Graph_hopsTo.mono : ∀ a0 a1 a2 a3 a4 k, LeO (impl_Graph_hopsTo.f k a0 a1 a2 a3 a4) (impl_Graph_hopsTo.f (k + 1) a0 a1 a2 a3 a4) := by
 intro a0 a1 a2 a3 a4 k
 obtain ⟨ih0, ih1⟩ := impl_Graph_hopsTo.mono_l k
 unfold impl_Graph_hopsTo.f
 repeat' first
   | (with_reducible exact ih0 _ _ _ _ _ _ _)
   | (with_reducible exact ih1 _ _ _ _ _ _ _)
   | (with_reducible exact LeO.refl _)
   | (with_reducible exact LeO.none _)
   | (with_reducible refine LeO.ite ?_ ?_)
   | (with_reducible refine LeO.bind ?_ (fun _ => ?_))
   | exact ih0 _ _ _ _ _ _ _
   | exact ih1 _ _ _ _ _ _ _
   | exact LeO.none _
   | refine LeO.ite ?_ ?_
   | refine LeO.bind ?_ (fun _ => ?_)
set_option maxHeartbeats 8000000 in
set_option maxRecDepth 100000 in
theorem impl_Graph_hopsTo.calls (k : Nat) (a0_0 : Int) (A0_1 : Option Addr) (c0_1 : Nat) (l0_1 : List (S76)) (a1 : Int) (a2 : Int) (A3 : Option Addr) (c3 : Nat) (l3 : List (List Int)) (r : List Int) (w : World) (hr0_1 : Kd.C k76 w A0_1 l0_1.length l0_1) (hc0_1 : l0_1.length ≤ c0_1) (hr3 : Kd.C (Kd.slice 3 (Kd.int .i64)) w A3 l3.length l3) (hc3 : l3.length ≤ c3) (h : impl_Graph_hopsTo.f k a0_0 l0_1 a1 a2 l3 = some r) :
  Calls Try.prog 58 #[.agg #[.int .i64 a0_0, .slice A0_1 l0_1.length c0_1], .int .i64 a1, .int .i64 a2, .slice A3 l3.length c3] w fun e w' => ∃ v0_ : Value, e = .returned (v0_) ∧ Kd.R (Kd.int .i64) 3 w' w.heap.size (fun _ => True) v0_ r ∧ Below w.heap.size w w' := by
 have hu30 := Try.underlying30
 have hu76 := Try.underlying76
 have HR0_1 := Aside0.mk hr0_1
 have HC0_1 := Aside0.mk hc0_1
 clear hr0_1 hc0_1
 have HR3 := Aside0.mk hr3
 have HC3 := Aside0.mk hc3
 clear hr3 hc3
 have HB := Aside0.mk (Below.refl w.heap.size w)
 have H : ((some (([] : List Int) : List Int)).bind fun y463 => (if a1 = a2 then (impl_Graph_hopsTo.j0 k a1 a2 l3 y463 true a0_0 l0_1) else (if 0 ≤ a1 then (if a1 < (l3.length : Int) then (if 0 ≤ a2 then (if a2 < ((rd_L2 l3 a1).length : Int) then (impl_Graph_hopsTo.j0 k a1 a2 l3 y463 ((rd (rd_L2 l3 a1) a2) == 1000000) a0_0 l0_1) else (none)) else (none)) else (none)) else (none)))) = some r := h
 clear h
 obtain ⟨y463, hy463⟩ : ∃ y_ : List Int, y_ = (([] : List Int)) := ⟨_, rfl⟩
 replace H : (if a1 = a2 then (impl_Graph_hopsTo.j0 k a1 a2 l3 y463 true a0_0 l0_1) else (if 0 ≤ a1 then (if a1 < (l3.length : Int) then (if 0 ≤ a2 then (if a2 < ((rd_L2 l3 a1).length : Int) then (impl_Graph_hopsTo.j0 k a1 a2 l3 y463 ((rd (rd_L2 l3 a1) a2) == 1000000) a0_0 l0_1) else (none)) else (none)) else (none)) else (none))) = some r := by first | (rw [hy463]; with_reducible exact H) | (have H2_ := (Option.bind_some _ _).symm.trans H; rw [hy463]; with_reducible exact H2_) | (have H2_ := (Option.bind_some _ _).symm.trans H; with_reducible exact H2_) | with_reducible exact H | (rw [hy463]; exact H) | exact H
 have Ny463 := Aside0.mk hy463
 clear hy463
 have HC5 := Aside0.mk H
 clear H
 go_enter Try.func58, Try.ntmps58
 go_upto_region 2 with (first | ((with_reducible refine gate_dst (N := 4) rfl ?_); refine box_event ?hg (N := 4) ?hd (cs := #[.int .i64 a0_0, .slice A0_1 l0_1.length c0_1]) (t := 30) ?hr ?_; (case hd => rfl); (case hg => rfl); (case hr => first | (go_simp; done) | (go_simp; rfl)); intro gb462 hg w6 hbox hb; have BK462 := Aside0.mk hbox; have GW462 := ge_ HB hg; have GE462 := ge_ HB hg; replace HB := at_ HB hb; clear hb hbox hg) | ((with_reducible refine gate_dst (N := 12) rfl ?_); refine Kd.R_lit (Kd.int .i64) _ 3 ?hg (N := 12) ?hd (xs := ([] : List Int)) (inner := []) (ok := fun _ => True) (okp := fun _ => True) ?hr ?hp (fun _ hk => hk) trivial (Below.refl _ _) (Nat.le_refl _) (by simp) ?_; (case hd => rfl); (case hg => rfl); (case hr => first | (go_simp; done) | (go_simp; rfl)); (case hp => exact (Reps.none _ _)); intro v464 w7 ho8 hb hg_ hnew_; clear hg_ hnew_; (first | rw [← Ny463.out] at ho8 | (simp only [Int.reduceToNat] at ho8; rw [← Ny463.out] at ho8)); have HO465 := Aside0.mk (Kd.R_lower ho8 (bz_ HB)); replace BK462 := ab_ BK462 hb; replace HB := at_ HB hb; clear hb ho8))
 (try simp only [Act.put, List.setIfInBounds_toArray, List.set_cons_zero, List.set_cons_succ])
 go_cut [25] (fun v25 wc => ∃ (kq : Nat) (x25_4 : Bool), v25 = .bool x25_4 ∧ Aside0 (impl_Graph_hopsTo.j0 kq a1 a2 l3 y463 x25_4 a0_0 l0_1 = some r) ∧ Aside0 (kq ≤ k) ∧ Aside0 (Kd.R (Kd.int .i64) 3 wc w.heap.size (fun _ => True) v464 y463) ∧ Aside0 (wc.heap[gb462]? = some (.cells #[.int .i64 a0_0, (.slice A0_1 l0_1.length c0_1)] 30 (0, 0))) ∧ Aside0 (Below w.heap.size w wc))
 case first =>
  have H := HC5.out
  clear HC5
  by_cases c9 : a1 = a2
  ·rw [if_pos c9] at H
   have c9b0 : (a1 == a2) = true := beq_iff_eq.mpr c9
   have c9b1 : (a1 != a2) = false := bne_eq_false_iff_eq.mpr c9
   clear c9
   (first | rw [c9b0] | (simp only [i64_w, i32_w]; rw [c9b0]) | skip)
   have H' := Aside0.mk H
   clear H
   go_wp2
   repeat (go_quiet (fail); try go_wp2)
   go_meet
   case rel => exact ⟨_, (true), (by first | rfl | (simp; done) | (simp [*]; done)), H', ⟨by first | omega | exact Nat.le_refl _⟩, ⟨by (with_reducible repeat (first | apply Kd.R_alloc | apply Kd.R_drewN | apply Kd.R_drew)); exact HO465.out⟩, ⟨bx_ BK462⟩, ⟨bw115_⟩⟩
  rw [if_neg c9] at H
  have c9b0 : (a1 == a2) = false := beq_eq_false_iff_ne.mpr c9
  have c9b1 : (a1 != a2) = true := bne_iff_ne.mpr c9
  (first | rw [c9b0] | (simp only [i64_w, i32_w]; rw [c9b0]) | skip)
  by_cases c10 : 0 ≤ a1
  rotate_left
  ·rw [if_neg c10] at H
   exact absurd H (by simp)
  rw [if_pos c10] at H
  have c10b0 : decide (0 ≤ a1) = true := decide_eq_true c10
  clear c10
  by_cases c11 : a1 < (l3.length : Int)
  rotate_left
  ·rw [if_neg c11] at H
   exact absurd H (by simp)
  rw [if_pos c11] at H
  have c11b0 : decide (a1 < (l3.length : Int)) = true := decide_eq_true c11
  clear c11
  by_cases c12 : 0 ≤ a2
  rotate_left
  ·rw [if_neg c12] at H
   exact absurd H (by simp)
  rw [if_pos c12] at H
  have c12b0 : decide (0 ≤ a2) = true := decide_eq_true c12
  clear c12
  by_cases c13 : a2 < ((rd_L2 l3 a1).length : Int)
  rotate_left
  ·rw [if_neg c13] at H
   exact absurd H (by simp)
  rw [if_pos c13] at H
  have c13b0 : decide (a2 < ((rd_L2 l3 a1).length : Int)) = true := decide_eq_true c13
  clear c13
  have H' := Aside0.mk H
  clear H
  have p466 : 0 ≤ (a1 : Int) := of_decide_eq_true (by first | (with_reducible assumption) | assumption)
  have q466 : a1 < (l3.length : Int) := of_decide_eq_true (by first | (with_reducible assumption) | assumption)
  obtain ⟨ad466, A466_0, c466_0, e466, hx466_0, hl466_0, hi466_0⟩ := at_L2 HR3.out a1 p466 q466
  cases e466
  replace hx466_0 := (HB.out.cell (World.block_lt_of_cell? w _ hx466_0)).trans hx466_0
  have HR466_0 := Aside0.mk hi466_0
  have HC466_0 := Aside0.mk hl466_0
  clear hi466_0 hl466_0
  replace p466 := eq_true p466
  replace q466 := eq_true q466
  have p467 : 0 ≤ (a2 : Int) := of_decide_eq_true (by first | (with_reducible assumption) | assumption)
  have q467 : a2 < ((rd_L2 l3 a1).length : Int) := of_decide_eq_true (by first | (with_reducible assumption) | assumption)
  obtain ⟨ad467, e467, hx467_0⟩ := Kd.at_int HR466_0.out a2 p467 q467
  cases e467
  replace hx467_0 := (HB.out.cell (World.block_lt_of_cell? w _ hx467_0)).trans hx467_0
  replace p467 := eq_true p467
  replace q467 := eq_true q467
  go_wp2
  repeat (go_quiet (fail); try go_wp2)
  go_meet
  case rel => exact ⟨_, (((rd (rd_L2 l3 a1) a2) == 1000000)), (by first | rfl | (simp; done) | (simp [*]; done)), H', ⟨by first | omega | exact Nat.le_refl _⟩, ⟨by (with_reducible repeat (first | apply Kd.R_alloc | apply Kd.R_drewN | apply Kd.R_drew)); exact HO465.out⟩, ⟨bx_ BK462⟩, ⟨bw115_⟩⟩
 case rest =>
  clear HC5
  try clear c1
  try clear p2
  try clear c3
  try clear c4
  try clear p4
  try clear q4
  try clear hx4
  try clear c5
  try clear c9
  try clear c9b0
  try clear c9b1
  try clear c10
  try clear c10b0
  try clear c11
  try clear c11b0
  try clear c12
  try clear c12b0
  try clear c13
  try clear c13b0
  try clear hx466_0
  try clear hx467_0
  try clear p466
  try clear p467
  try clear q466
  try clear q467
  obtain ⟨kq, x25_4, rfl, HA, HJ4, HO_9, BK462, HB⟩ := hcut
  cases kq with
  | zero => exact absurd HA.out (by simp [impl_Graph_hopsTo.j0])
  | succ kj4 =>
   have H := HA.out
   clear HA
   simp only [impl_Graph_hopsTo.j0] at H
   by_cases c14 : x25_4 = true
   ·subst c14
    rw [if_pos rfl] at H
    obtain rfl := Option.some.inj H
    go_wp2
    repeat (go_quiet (fail); try go_wp2)
    go_ret
    exact ⟨_, by first | rfl | (simp [errW_none, errW_some] <;> rfl) | (simp [*, errW_none, errW_some] <;> rfl), by (with_reducible repeat (first | apply Kd.R_alloc | apply Kd.R_drewN | apply Kd.R_drew)); exact HO_9.out, bw115_⟩
   replace c14 := Bool.eq_false_iff.mpr c14
   subst c14
   rw [if_neg (show ¬ (false = true) by decide)] at H
   have H' := Aside0.mk H
   clear H
   have hcz15_0 := cz_ BK462 0 (.int .i64 a0_0)
   have hcz15_1 := cz_ BK462 1 (.slice A0_1 l0_1.length c0_1)
   have hfz15_0 := blk_frozen BK462.out 0
   have hfz15_1 := blk_frozen BK462.out 1
   go_wp2
   repeat (go_quiet (fail); try go_wp2)
   go_loopg [9, 30] kj4 (fun kq v9 v30 w' => ∃ (x9_2 : List Int) (x30_2 : Int), v30 = .int .i64 x30_2 ∧ Aside0 (impl_Graph_hopsTo.l0 kq a1 a2 l3 x9_2 l0_1 (l0_1.length : Int) x30_2 = some r) ∧ Aside0 (kq ≤ kj4) ∧ Aside0 (Kd.R (Kd.int .i64) 3 w' w.heap.size (fun _ => True) v9 x9_2) ∧ Aside0 (w'.heap[gb462]? = some (.cells #[.int .i64 a0_0, (.slice A0_1 l0_1.length c0_1)] 30 (0, 0))) ∧ Aside0 (Below w.heap.size w w'))
   case atStart => exact ⟨(y463), (0), (by first | rfl | (simp; done) | (simp [*]; done)), H', ⟨Nat.le_refl _⟩, ⟨by (with_reducible repeat (first | apply Kd.R_alloc | apply Kd.R_drewN | apply Kd.R_drew)); exact HO_9.out⟩, ⟨bx_ BK462⟩, ⟨bw115_⟩⟩
   case round =>
    clear H'
    try clear c1
    try clear p2
    try clear c3
    try clear c4
    try clear p4
    try clear q4
    try clear hx4
    try clear c5
    try clear c9
    try clear c9b0
    try clear c9b1
    try clear c10
    try clear c10b0
    try clear c11
    try clear c11b0
    try clear c12
    try clear c12b0
    try clear c13
    try clear c13b0
    try clear c14
    try clear hcz15_0
    try clear hcz15_1
    try clear hfz15_0
    try clear hfz15_1
    try clear hx466_0
    try clear hx467_0
    try clear p2
    try clear p4
    try clear p466
    try clear p467
    try clear q4
    try clear q466
    try clear q467
    obtain ⟨x9_2, x30_2, rfl, HA, HK2, HO_9, BK462, HB⟩ := hrel
    cases gk with
    | zero => exact absurd HA.out (by simp [impl_Graph_hopsTo.l0])
    | succ k2 =>
     have H := HA.out
     clear HA
     simp only [impl_Graph_hopsTo.l0] at H
     by_cases c16 : x30_2 < (l0_1.length : Int)
     rotate_left
     ·rw [if_neg c16] at H
      have c16b0 : decide (x30_2 < (l0_1.length : Int)) = false := decide_eq_false c16
      clear c16
      obtain rfl := Option.some.inj H
      go_wp2
      repeat (go_quiet (fail); try go_wp2)
      go_ret
      exact ⟨_, by first | rfl | (simp [errW_none, errW_some] <;> rfl) | (simp [*, errW_none, errW_some] <;> rfl), by (with_reducible repeat (first | apply Kd.R_alloc | apply Kd.R_drewN | apply Kd.R_drew)); exact HO_9.out, bw115_⟩
     rw [if_pos c16] at H
     have c16b0 : decide (x30_2 < (l0_1.length : Int)) = true := decide_eq_true c16
     clear c16
     by_cases c17 : 0 ≤ x30_2
     rotate_left
     ·rw [if_neg c17] at H
      exact absurd H (by simp)
     rw [if_pos c17] at H
     have c17b0 : decide (0 ≤ x30_2) = true := decide_eq_true c17
     clear c17
     by_cases c18 : x30_2 < (l0_1.length : Int)
     rotate_left
     ·rw [if_neg c18] at H
      exact absurd H (by simp)
     rw [if_pos c18] at H
     have c18b0 : decide (x30_2 < (l0_1.length : Int)) = true := decide_eq_true c18
     clear c18
     by_cases c19 : ((rd_T76 l0_1 x30_2).f0) = a1
     rotate_left
     ·rw [if_neg c19] at H
      have c19b0 : (((rd_T76 l0_1 x30_2).f0) == a1) = false := beq_eq_false_iff_ne.mpr c19
      have c19b1 : (((rd_T76 l0_1 x30_2).f0) != a1) = true := bne_iff_ne.mpr c19
      have H' := Aside0.mk H
      clear H
      have p468 : 0 ≤ (x30_2 : Int) := of_decide_eq_true (by first | (with_reducible assumption) | assumption)
      have q468 : x30_2 < (l0_1.length : Int) := of_decide_eq_true (by first | (with_reducible assumption) | assumption)
      obtain ⟨ad468, e468, hx468_0, hx468_1, hx468_2⟩ := at_T76 HR0_1.out x30_2 p468 q468
      cases e468
      replace hx468_0 := (HB.out.cell (World.block_lt_of_cell? w _ hx468_0)).trans hx468_0
      replace hx468_1 := (HB.out.cell (World.block_lt_of_cell? w _ hx468_1)).trans hx468_1
      replace hx468_2 := (HB.out.cell (World.block_lt_of_cell? w _ hx468_2)).trans hx468_2
      replace p468 := eq_true p468
      replace q468 := eq_true q468
      go_wp2_with ((with_reducible refine gate_dst (N := 11) rfl ?_); refine box_event ?hg (N := 11) ?hd (cs := #[.int .i64 0, .int .i64 0, .int .i64 0]) (t := 76) ?hr ?_; (case hd => rfl); (case hg => rfl); (case hr => first | (go_simp; done) | (go_simp; rfl)); intro gb469 hg w36 hbox hb; have BK469 := Aside0.mk hbox; have GW469 := ge_ HB hg; have GE469 := ge_ HB hg; have NB462_469 := nl_ BK462 hg; have NB469_462 := ng_ BK462 hg; replace HO_9 := rb_ HO_9 hb; replace HB := at_ HB hb; replace BK462 := ab_ BK462 hb; clear hb hbox hg; have hnb37 := NB469_462.out; have hnc37 := NB462_469.out; have hcz38_0 := cz_ BK469 0 (.int .i64 0); have hcz38_1 := cz_ BK469 1 (.int .i64 0); have hcz38_2 := cz_ BK469 2 (.int .i64 0); have hfz38_0 := blk_frozen BK469.out 0; have hfz38_1 := blk_frozen BK469.out 1; have hfz38_2 := blk_frozen BK469.out 2)
      repeat (go_quiet (fail); try go_wp2_with (fail))
      go_roundg k2
      case measure => have := HJ4.out; have := HK2.out; omega
      case rel => exact ⟨(x9_2), (wrap64 (x30_2 + 1)), (by first | rfl | (simp; done) | (simp [*]; done)), H', ⟨by have := HJ4.out; have := HK2.out; omega⟩, ⟨by (with_reducible repeat (first | apply Kd.R_alloc | apply Kd.R_drewN | apply Kd.R_drew)); exact Kd.R_mono (Kd.R_far (p := ⟨gb469, 2, none⟩) (Kd.R_far (p := ⟨gb469, 1, none⟩) (Kd.R_far (p := ⟨gb469, 0, none⟩) (Kd.R_types HO_9.out BK469.out (by decide)) (fun _ hk => hk.2) (.int .i64 ((rd_T76 l0_1 x30_2).f0))) (fun _ hk => hk.2) (.int .i64 ((rd_T76 l0_1 x30_2).f1))) (fun _ hk => hk.2) (.int .i64 ((rd_T76 l0_1 x30_2).f2))) (fun _ hk => trivial)⟩, ⟨bc_ BK462⟩, ⟨bw115_⟩⟩
     rw [if_pos c19] at H
     have c19b0 : (((rd_T76 l0_1 x30_2).f0) == a1) = true := beq_iff_eq.mpr c19
     have c19b1 : (((rd_T76 l0_1 x30_2).f0) != a1) = false := bne_eq_false_iff_eq.mpr c19
     clear c19
     by_cases c20 : 0 ≤ ((rd_T76 l0_1 x30_2).f1)
     rotate_left
     ·rw [if_neg c20] at H
      exact absurd H (by simp)
     rw [if_pos c20] at H
     have c20b0 : decide (0 ≤ ((rd_T76 l0_1 x30_2).f1)) = true := decide_eq_true c20
     clear c20
     by_cases c21 : ((rd_T76 l0_1 x30_2).f1) < (l3.length : Int)
     rotate_left
     ·rw [if_neg c21] at H
      exact absurd H (by simp)
     rw [if_pos c21] at H
     have c21b0 : decide (((rd_T76 l0_1 x30_2).f1) < (l3.length : Int)) = true := decide_eq_true c21
     clear c21
     by_cases c22 : 0 ≤ a2
     rotate_left
     ·rw [if_neg c22] at H
      exact absurd H (by simp)
     rw [if_pos c22] at H
     have c22b0 : decide (0 ≤ a2) = true := decide_eq_true c22
     clear c22
     by_cases c23 : a2 < ((rd_L2 l3 ((rd_T76 l0_1 x30_2).f1)).length : Int)
     rotate_left
     ·rw [if_neg c23] at H
      exact absurd H (by simp)
     rw [if_pos c23] at H
     have c23b0 : decide (a2 < ((rd_L2 l3 ((rd_T76 l0_1 x30_2).f1)).length : Int)) = true := decide_eq_true c23
     clear c23
     by_cases c24 : 0 ≤ a1
     rotate_left
     ·rw [if_neg c24] at H
      exact absurd H (by simp)
     rw [if_pos c24] at H
     have c24b0 : decide (0 ≤ a1) = true := decide_eq_true c24
     clear c24
     by_cases c25 : a1 < (l3.length : Int)
     rotate_left
     ·rw [if_neg c25] at H
      exact absurd H (by simp)
     rw [if_pos c25] at H
     have c25b0 : decide (a1 < (l3.length : Int)) = true := decide_eq_true c25
     clear c25
     by_cases c26 : a2 < ((rd_L2 l3 a1).length : Int)
     rotate_left
     ·rw [if_neg c26] at H
      exact absurd H (by simp)
     rw [if_pos c26] at H
     have c26b0 : decide (a2 < ((rd_L2 l3 a1).length : Int)) = true := decide_eq_true c26
     clear c26
     by_cases c27 : (wrap64 (((rd_T76 l0_1 x30_2).f2) + (rd (rd_L2 l3 ((rd_T76 l0_1 x30_2).f1)) a2))) = (rd (rd_L2 l3 a1) a2)
     rotate_left
     ·rw [if_neg c27] at H
      have c27b0 : ((wrap64 (((rd_T76 l0_1 x30_2).f2) + (rd (rd_L2 l3 ((rd_T76 l0_1 x30_2).f1)) a2))) == (rd (rd_L2 l3 a1) a2)) = false := beq_eq_false_iff_ne.mpr c27
      have c27b1 : ((wrap64 (((rd_T76 l0_1 x30_2).f2) + (rd (rd_L2 l3 ((rd_T76 l0_1 x30_2).f1)) a2))) != (rd (rd_L2 l3 a1) a2)) = true := bne_iff_ne.mpr c27
      have H' := Aside0.mk H
      clear H
      have p468 : 0 ≤ (x30_2 : Int) := of_decide_eq_true (by first | (with_reducible assumption) | assumption)
      have q468 : x30_2 < (l0_1.length : Int) := of_decide_eq_true (by first | (with_reducible assumption) | assumption)
      obtain ⟨ad468, e468, hx468_0, hx468_1, hx468_2⟩ := at_T76 HR0_1.out x30_2 p468 q468
      cases e468
      replace hx468_0 := (HB.out.cell (World.block_lt_of_cell? w _ hx468_0)).trans hx468_0
      replace hx468_1 := (HB.out.cell (World.block_lt_of_cell? w _ hx468_1)).trans hx468_1
      replace hx468_2 := (HB.out.cell (World.block_lt_of_cell? w _ hx468_2)).trans hx468_2
      replace p468 := eq_true p468
      replace q468 := eq_true q468
      go_wp2_with ((with_reducible refine gate_dst (N := 11) rfl ?_); refine box_event ?hg (N := 11) ?hd (cs := #[.int .i64 0, .int .i64 0, .int .i64 0]) (t := 76) ?hr ?_; (case hd => rfl); (case hg => rfl); (case hr => first | (go_simp; done) | (go_simp; rfl)); intro gb469 hg w33 hbox hb; have BK469 := Aside0.mk hbox; have GW469 := ge_ HB hg; have GE469 := ge_ HB hg; have NB462_469 := nl_ BK462 hg; have NB469_462 := ng_ BK462 hg; replace HO_9 := rb_ HO_9 hb; replace HB := at_ HB hb; replace BK462 := ab_ BK462 hb; clear hb hbox hg; have hnb34 := NB469_462.out; have hnc34 := NB462_469.out; have hcz35_0 := cz_ BK469 0 (.int .i64 0); have hcz35_1 := cz_ BK469 1 (.int .i64 0); have hcz35_2 := cz_ BK469 2 (.int .i64 0); have hfz35_0 := blk_frozen BK469.out 0; have hfz35_1 := blk_frozen BK469.out 1; have hfz35_2 := blk_frozen BK469.out 2; have p470 : 0 ≤ (((rd_T76 l0_1 x30_2).f1) : Int) := of_decide_eq_true (by first | (with_reducible assumption) | assumption); have q470 : ((rd_T76 l0_1 x30_2).f1) < (l3.length : Int) := of_decide_eq_true (by first | (with_reducible assumption) | assumption); obtain ⟨ad470, A470_0, c470_0, e470, hx470_0, hl470_0, hi470_0⟩ := at_L2 HR3.out ((rd_T76 l0_1 x30_2).f1) p470 q470; cases e470; have hn470_0 : ad470.block ≠ gb469 := Nat.ne_of_lt (Nat.lt_of_lt_of_le (by have := World.block_lt_of_cell? _ _ hx470_0; first | rwa [add_block] at this | exact this) GW469.out); have hn470_1 : ad470.block ≠ gb469 := Nat.ne_of_lt (Nat.lt_of_lt_of_le (by have := World.block_lt_of_cell? _ _ hx470_0; first | rwa [add_block] at this | exact this) GW469.out); have hn470_2 : ad470.block ≠ gb469 := Nat.ne_of_lt (Nat.lt_of_lt_of_le (by have := World.block_lt_of_cell? _ _ hx470_0; first | rwa [add_block] at this | exact this) GW469.out); replace hx470_0 := (HB.out.cell (World.block_lt_of_cell? w _ hx470_0)).trans hx470_0; have HR470_0 := Aside0.mk hi470_0; have HC470_0 := Aside0.mk hl470_0; clear hi470_0 hl470_0; replace hx470_0 := (cell_far (p := ⟨gb469, 0, none⟩) (by first | (rw [add_block]; exact hn470_0) | (show (Addr.add _ _).block ≠ _; rw [add_block]; exact hn470_0) | exact hn470_0) (.int .i64 ((rd_T76 l0_1 x30_2).f0))).trans hx470_0; replace hx470_0 := (cell_far (p := ⟨gb469, 1, none⟩) (by first | (rw [add_block]; exact hn470_1) | (show (Addr.add _ _).block ≠ _; rw [add_block]; exact hn470_1) | exact hn470_1) (.int .i64 ((rd_T76 l0_1 x30_2).f1))).trans hx470_0; replace hx470_0 := (cell_far (p := ⟨gb469, 2, none⟩) (by first | (rw [add_block]; exact hn470_2) | (show (Addr.add _ _).block ≠ _; rw [add_block]; exact hn470_2) | exact hn470_2) (.int .i64 ((rd_T76 l0_1 x30_2).f2))).trans hx470_0; (try have hy470_0 := fun (n_ : Nat) => (show (((((w33.drewN n_).setCell ⟨gb469, 0, none⟩ (.int .i64 ((rd_T76 l0_1 x30_2).f0))).setCell ⟨gb469, 1, none⟩ (.int .i64 ((rd_T76 l0_1 x30_2).f1))).setCell ⟨gb469, 2, none⟩ (.int .i64 ((rd_T76 l0_1 x30_2).f2)))).cell? _ = some _ from hx470_0)); clear hn470_0; clear hn470_1; clear hn470_2; replace p470 := eq_true p470; replace q470 := eq_true q470; have p471 : 0 ≤ (a2 : Int) := of_decide_eq_true (by first | (with_reducible assumption) | assumption); have q471 : a2 < ((rd_L2 l3 ((rd_T76 l0_1 x30_2).f1)).length : Int) := of_decide_eq_true (by first | (with_reducible assumption) | assumption); obtain ⟨ad471, e471, hx471_0⟩ := Kd.at_int HR470_0.out a2 p471 q471; cases e471; have hn471_0 : ad471.block ≠ gb469 := Nat.ne_of_lt (Nat.lt_of_lt_of_le (by have := World.block_lt_of_cell? _ _ hx471_0; first | rwa [add_block] at this | exact this) GW469.out); have hn471_1 : ad471.block ≠ gb469 := Nat.ne_of_lt (Nat.lt_of_lt_of_le (by have := World.block_lt_of_cell? _ _ hx471_0; first | rwa [add_block] at this | exact this) GW469.out); have hn471_2 : ad471.block ≠ gb469 := Nat.ne_of_lt (Nat.lt_of_lt_of_le (by have := World.block_lt_of_cell? _ _ hx471_0; first | rwa [add_block] at this | exact this) GW469.out); replace hx471_0 := (HB.out.cell (World.block_lt_of_cell? w _ hx471_0)).trans hx471_0; replace hx471_0 := (cell_far (p := ⟨gb469, 0, none⟩) (by first | (rw [add_block]; exact hn471_0) | (show (Addr.add _ _).block ≠ _; rw [add_block]; exact hn471_0) | exact hn471_0) (.int .i64 ((rd_T76 l0_1 x30_2).f0))).trans hx471_0; replace hx471_0 := (cell_far (p := ⟨gb469, 1, none⟩) (by first | (rw [add_block]; exact hn471_1) | (show (Addr.add _ _).block ≠ _; rw [add_block]; exact hn471_1) | exact hn471_1) (.int .i64 ((rd_T76 l0_1 x30_2).f1))).trans hx471_0; replace hx471_0 := (cell_far (p := ⟨gb469, 2, none⟩) (by first | (rw [add_block]; exact hn471_2) | (show (Addr.add _ _).block ≠ _; rw [add_block]; exact hn471_2) | exact hn471_2) (.int .i64 ((rd_T76 l0_1 x30_2).f2))).trans hx471_0; (try have hy471_0 := fun (n_ : Nat) => (show (((((w33.drewN n_).setCell ⟨gb469, 0, none⟩ (.int .i64 ((rd_T76 l0_1 x30_2).f0))).setCell ⟨gb469, 1, none⟩ (.int .i64 ((rd_T76 l0_1 x30_2).f1))).setCell ⟨gb469, 2, none⟩ (.int .i64 ((rd_T76 l0_1 x30_2).f2)))).cell? _ = some _ from hx471_0)); clear hn471_0; clear hn471_1; clear hn471_2; replace p471 := eq_true p471; replace q471 := eq_true q471; have p472 : 0 ≤ (a1 : Int) := of_decide_eq_true (by first | (with_reducible assumption) | assumption); have q472 : a1 < (l3.length : Int) := of_decide_eq_true (by first | (with_reducible assumption) | assumption); obtain ⟨ad472, A472_0, c472_0, e472, hx472_0, hl472_0, hi472_0⟩ := at_L2 HR3.out a1 p472 q472; obtain rfl : ad470 = ad472 := (by injection e472); have hn472_0 : ad470.block ≠ gb469 := Nat.ne_of_lt (Nat.lt_of_lt_of_le (by have := World.block_lt_of_cell? _ _ hx472_0; first | rwa [add_block] at this | exact this) GW469.out); have hn472_1 : ad470.block ≠ gb469 := Nat.ne_of_lt (Nat.lt_of_lt_of_le (by have := World.block_lt_of_cell? _ _ hx472_0; first | rwa [add_block] at this | exact this) GW469.out); have hn472_2 : ad470.block ≠ gb469 := Nat.ne_of_lt (Nat.lt_of_lt_of_le (by have := World.block_lt_of_cell? _ _ hx472_0; first | rwa [add_block] at this | exact this) GW469.out); replace hx472_0 := (HB.out.cell (World.block_lt_of_cell? w _ hx472_0)).trans hx472_0; have HR472_0 := Aside0.mk hi472_0; have HC472_0 := Aside0.mk hl472_0; clear hi472_0 hl472_0; replace hx472_0 := (cell_far (p := ⟨gb469, 0, none⟩) (by first | (rw [add_block]; exact hn472_0) | (show (Addr.add _ _).block ≠ _; rw [add_block]; exact hn472_0) | exact hn472_0) (.int .i64 ((rd_T76 l0_1 x30_2).f0))).trans hx472_0; replace hx472_0 := (cell_far (p := ⟨gb469, 1, none⟩) (by first | (rw [add_block]; exact hn472_1) | (show (Addr.add _ _).block ≠ _; rw [add_block]; exact hn472_1) | exact hn472_1) (.int .i64 ((rd_T76 l0_1 x30_2).f1))).trans hx472_0; replace hx472_0 := (cell_far (p := ⟨gb469, 2, none⟩) (by first | (rw [add_block]; exact hn472_2) | (show (Addr.add _ _).block ≠ _; rw [add_block]; exact hn472_2) | exact hn472_2) (.int .i64 ((rd_T76 l0_1 x30_2).f2))).trans hx472_0; (try have hy472_0 := fun (n_ : Nat) => (show (((((w33.drewN n_).setCell ⟨gb469, 0, none⟩ (.int .i64 ((rd_T76 l0_1 x30_2).f0))).setCell ⟨gb469, 1, none⟩ (.int .i64 ((rd_T76 l0_1 x30_2).f1))).setCell ⟨gb469, 2, none⟩ (.int .i64 ((rd_T76 l0_1 x30_2).f2)))).cell? _ = some _ from hx472_0)); clear hn472_0; clear hn472_1; clear hn472_2; replace p472 := eq_true p472; replace q472 := eq_true q472; have p473 : 0 ≤ (a2 : Int) := of_decide_eq_true (by first | (with_reducible assumption) | assumption); have q473 : a2 < ((rd_L2 l3 a1).length : Int) := of_decide_eq_true (by first | (with_reducible assumption) | assumption); obtain ⟨ad473, e473, hx473_0⟩ := Kd.at_int HR472_0.out a2 p473 q473; cases e473; have hn473_0 : ad473.block ≠ gb469 := Nat.ne_of_lt (Nat.lt_of_lt_of_le (by have := World.block_lt_of_cell? _ _ hx473_0; first | rwa [add_block] at this | exact this) GW469.out); have hn473_1 : ad473.block ≠ gb469 := Nat.ne_of_lt (Nat.lt_of_lt_of_le (by have := World.block_lt_of_cell? _ _ hx473_0; first | rwa [add_block] at this | exact this) GW469.out); have hn473_2 : ad473.block ≠ gb469 := Nat.ne_of_lt (Nat.lt_of_lt_of_le (by have := World.block_lt_of_cell? _ _ hx473_0; first | rwa [add_block] at this | exact this) GW469.out); replace hx473_0 := (HB.out.cell (World.block_lt_of_cell? w _ hx473_0)).trans hx473_0; replace hx473_0 := (cell_far (p := ⟨gb469, 0, none⟩) (by first | (rw [add_block]; exact hn473_0) | (show (Addr.add _ _).block ≠ _; rw [add_block]; exact hn473_0) | exact hn473_0) (.int .i64 ((rd_T76 l0_1 x30_2).f0))).trans hx473_0; replace hx473_0 := (cell_far (p := ⟨gb469, 1, none⟩) (by first | (rw [add_block]; exact hn473_1) | (show (Addr.add _ _).block ≠ _; rw [add_block]; exact hn473_1) | exact hn473_1) (.int .i64 ((rd_T76 l0_1 x30_2).f1))).trans hx473_0; replace hx473_0 := (cell_far (p := ⟨gb469, 2, none⟩) (by first | (rw [add_block]; exact hn473_2) | (show (Addr.add _ _).block ≠ _; rw [add_block]; exact hn473_2) | exact hn473_2) (.int .i64 ((rd_T76 l0_1 x30_2).f2))).trans hx473_0; (try have hy473_0 := fun (n_ : Nat) => (show (((((w33.drewN n_).setCell ⟨gb469, 0, none⟩ (.int .i64 ((rd_T76 l0_1 x30_2).f0))).setCell ⟨gb469, 1, none⟩ (.int .i64 ((rd_T76 l0_1 x30_2).f1))).setCell ⟨gb469, 2, none⟩ (.int .i64 ((rd_T76 l0_1 x30_2).f2)))).cell? _ = some _ from hx473_0)); clear hn473_0; clear hn473_1; clear hn473_2; replace p473 := eq_true p473; replace q473 := eq_true q473)
      repeat (go_quiet (fail); try go_wp2_with (fail))
      go_roundg k2
      case measure => have := HJ4.out; have := HK2.out; omega
      case rel => exact ⟨(x9_2), (wrap64 (x30_2 + 1)), (by first | rfl | (simp; done) | (simp [*]; done)), H', ⟨by have := HJ4.out; have := HK2.out; omega⟩, ⟨by (with_reducible repeat (first | apply Kd.R_alloc | apply Kd.R_drewN | apply Kd.R_drew)); exact Kd.R_mono (Kd.R_far (p := ⟨gb469, 2, none⟩) (Kd.R_far (p := ⟨gb469, 1, none⟩) (Kd.R_far (p := ⟨gb469, 0, none⟩) (Kd.R_types HO_9.out BK469.out (by decide)) (fun _ hk => hk.2) (.int .i64 ((rd_T76 l0_1 x30_2).f0))) (fun _ hk => hk.2) (.int .i64 ((rd_T76 l0_1 x30_2).f1))) (fun _ hk => hk.2) (.int .i64 ((rd_T76 l0_1 x30_2).f2))) (fun _ hk => trivial)⟩, ⟨bc_ BK462⟩, ⟨bw115_⟩⟩
     rw [if_pos c27] at H
     have c27b0 : ((wrap64 (((rd_T76 l0_1 x30_2).f2) + (rd (rd_L2 l3 ((rd_T76 l0_1 x30_2).f1)) a2))) == (rd (rd_L2 l3 a1) a2)) = true := beq_iff_eq.mpr c27
     have c27b1 : ((wrap64 (((rd_T76 l0_1 x30_2).f2) + (rd (rd_L2 l3 ((rd_T76 l0_1 x30_2).f1)) a2))) != (rd (rd_L2 l3 a1) a2)) = false := bne_eq_false_iff_eq.mpr c27
     clear c27
     by_cases c28 : x9_2.length < 17592186044416
     rotate_left
     ·rw [if_neg c28] at H
      exact absurd H (by simp)
     rw [if_pos c28] at H
     have LMc28 := Aside0.mk c28
     clear c28
     obtain ⟨y474, hy474⟩ : ∃ y_ : List Int, y_ = (x9_2 ++ [(rd_T76 l0_1 x30_2).f1]) := ⟨_, rfl⟩
     replace H : (impl_Graph_hopsTo.l0 k2 a1 a2 l3 y474 l0_1 (l0_1.length : Int) (wrap64 (x30_2 + 1))) = some r := by first | (rw [hy474]; with_reducible exact H) | (have H2_ := (Option.bind_some _ _).symm.trans H; rw [hy474]; with_reducible exact H2_) | (have H2_ := (Option.bind_some _ _).symm.trans H; with_reducible exact H2_) | with_reducible exact H | (rw [hy474]; exact H) | exact H
     have Ny474 := Aside0.mk hy474
     clear hy474
     have H' := Aside0.mk H
     clear H
     have p468 : 0 ≤ (x30_2 : Int) := of_decide_eq_true (by first | (with_reducible assumption) | assumption)
     have q468 : x30_2 < (l0_1.length : Int) := of_decide_eq_true (by first | (with_reducible assumption) | assumption)
     obtain ⟨ad468, e468, hx468_0, hx468_1, hx468_2⟩ := at_T76 HR0_1.out x30_2 p468 q468
     cases e468
     replace hx468_0 := (HB.out.cell (World.block_lt_of_cell? w _ hx468_0)).trans hx468_0
     replace hx468_1 := (HB.out.cell (World.block_lt_of_cell? w _ hx468_1)).trans hx468_1
     replace hx468_2 := (HB.out.cell (World.block_lt_of_cell? w _ hx468_2)).trans hx468_2
     replace p468 := eq_true p468
     replace q468 := eq_true q468
     go_wp2_with ((with_reducible refine gate_dst (N := 11) rfl ?_); refine box_event ?hg (N := 11) ?hd (cs := #[.int .i64 0, .int .i64 0, .int .i64 0]) (t := 76) ?hr ?_; (case hd => rfl); (case hg => rfl); (case hr => first | (go_simp; done) | (go_simp; rfl)); intro gb469 hg w29 hbox hb; have BK469 := Aside0.mk hbox; have GW469 := ge_ HB hg; have GE469 := ge_ HB hg; have NB462_469 := nl_ BK462 hg; have NB469_462 := ng_ BK462 hg; replace HO_9 := rb_ HO_9 hb; replace HB := at_ HB hb; replace BK462 := ab_ BK462 hb; clear hb hbox hg; have hnb30 := NB469_462.out; have hnc30 := NB462_469.out; have hcz31_0 := cz_ BK469 0 (.int .i64 0); have hcz31_1 := cz_ BK469 1 (.int .i64 0); have hcz31_2 := cz_ BK469 2 (.int .i64 0); have hfz31_0 := blk_frozen BK469.out 0; have hfz31_1 := blk_frozen BK469.out 1; have hfz31_2 := blk_frozen BK469.out 2; have p470 : 0 ≤ (((rd_T76 l0_1 x30_2).f1) : Int) := of_decide_eq_true (by first | (with_reducible assumption) | assumption); have q470 : ((rd_T76 l0_1 x30_2).f1) < (l3.length : Int) := of_decide_eq_true (by first | (with_reducible assumption) | assumption); obtain ⟨ad470, A470_0, c470_0, e470, hx470_0, hl470_0, hi470_0⟩ := at_L2 HR3.out ((rd_T76 l0_1 x30_2).f1) p470 q470; cases e470; have hn470_0 : ad470.block ≠ gb469 := Nat.ne_of_lt (Nat.lt_of_lt_of_le (by have := World.block_lt_of_cell? _ _ hx470_0; first | rwa [add_block] at this | exact this) GW469.out); have hn470_1 : ad470.block ≠ gb469 := Nat.ne_of_lt (Nat.lt_of_lt_of_le (by have := World.block_lt_of_cell? _ _ hx470_0; first | rwa [add_block] at this | exact this) GW469.out); have hn470_2 : ad470.block ≠ gb469 := Nat.ne_of_lt (Nat.lt_of_lt_of_le (by have := World.block_lt_of_cell? _ _ hx470_0; first | rwa [add_block] at this | exact this) GW469.out); replace hx470_0 := (HB.out.cell (World.block_lt_of_cell? w _ hx470_0)).trans hx470_0; have HR470_0 := Aside0.mk hi470_0; have HC470_0 := Aside0.mk hl470_0; clear hi470_0 hl470_0; replace hx470_0 := (cell_far (p := ⟨gb469, 0, none⟩) (by first | (rw [add_block]; exact hn470_0) | (show (Addr.add _ _).block ≠ _; rw [add_block]; exact hn470_0) | exact hn470_0) (.int .i64 ((rd_T76 l0_1 x30_2).f0))).trans hx470_0; replace hx470_0 := (cell_far (p := ⟨gb469, 1, none⟩) (by first | (rw [add_block]; exact hn470_1) | (show (Addr.add _ _).block ≠ _; rw [add_block]; exact hn470_1) | exact hn470_1) (.int .i64 ((rd_T76 l0_1 x30_2).f1))).trans hx470_0; replace hx470_0 := (cell_far (p := ⟨gb469, 2, none⟩) (by first | (rw [add_block]; exact hn470_2) | (show (Addr.add _ _).block ≠ _; rw [add_block]; exact hn470_2) | exact hn470_2) (.int .i64 ((rd_T76 l0_1 x30_2).f2))).trans hx470_0; (try have hy470_0 := fun (n_ : Nat) => (show (((((w29.drewN n_).setCell ⟨gb469, 0, none⟩ (.int .i64 ((rd_T76 l0_1 x30_2).f0))).setCell ⟨gb469, 1, none⟩ (.int .i64 ((rd_T76 l0_1 x30_2).f1))).setCell ⟨gb469, 2, none⟩ (.int .i64 ((rd_T76 l0_1 x30_2).f2)))).cell? _ = some _ from hx470_0)); clear hn470_0; clear hn470_1; clear hn470_2; replace p470 := eq_true p470; replace q470 := eq_true q470; have p471 : 0 ≤ (a2 : Int) := of_decide_eq_true (by first | (with_reducible assumption) | assumption); have q471 : a2 < ((rd_L2 l3 ((rd_T76 l0_1 x30_2).f1)).length : Int) := of_decide_eq_true (by first | (with_reducible assumption) | assumption); obtain ⟨ad471, e471, hx471_0⟩ := Kd.at_int HR470_0.out a2 p471 q471; cases e471; have hn471_0 : ad471.block ≠ gb469 := Nat.ne_of_lt (Nat.lt_of_lt_of_le (by have := World.block_lt_of_cell? _ _ hx471_0; first | rwa [add_block] at this | exact this) GW469.out); have hn471_1 : ad471.block ≠ gb469 := Nat.ne_of_lt (Nat.lt_of_lt_of_le (by have := World.block_lt_of_cell? _ _ hx471_0; first | rwa [add_block] at this | exact this) GW469.out); have hn471_2 : ad471.block ≠ gb469 := Nat.ne_of_lt (Nat.lt_of_lt_of_le (by have := World.block_lt_of_cell? _ _ hx471_0; first | rwa [add_block] at this | exact this) GW469.out); replace hx471_0 := (HB.out.cell (World.block_lt_of_cell? w _ hx471_0)).trans hx471_0; replace hx471_0 := (cell_far (p := ⟨gb469, 0, none⟩) (by first | (rw [add_block]; exact hn471_0) | (show (Addr.add _ _).block ≠ _; rw [add_block]; exact hn471_0) | exact hn471_0) (.int .i64 ((rd_T76 l0_1 x30_2).f0))).trans hx471_0; replace hx471_0 := (cell_far (p := ⟨gb469, 1, none⟩) (by first | (rw [add_block]; exact hn471_1) | (show (Addr.add _ _).block ≠ _; rw [add_block]; exact hn471_1) | exact hn471_1) (.int .i64 ((rd_T76 l0_1 x30_2).f1))).trans hx471_0; replace hx471_0 := (cell_far (p := ⟨gb469, 2, none⟩) (by first | (rw [add_block]; exact hn471_2) | (show (Addr.add _ _).block ≠ _; rw [add_block]; exact hn471_2) | exact hn471_2) (.int .i64 ((rd_T76 l0_1 x30_2).f2))).trans hx471_0; (try have hy471_0 := fun (n_ : Nat) => (show (((((w29.drewN n_).setCell ⟨gb469, 0, none⟩ (.int .i64 ((rd_T76 l0_1 x30_2).f0))).setCell ⟨gb469, 1, none⟩ (.int .i64 ((rd_T76 l0_1 x30_2).f1))).setCell ⟨gb469, 2, none⟩ (.int .i64 ((rd_T76 l0_1 x30_2).f2)))).cell? _ = some _ from hx471_0)); clear hn471_0; clear hn471_1; clear hn471_2; replace p471 := eq_true p471; replace q471 := eq_true q471; have p472 : 0 ≤ (a1 : Int) := of_decide_eq_true (by first | (with_reducible assumption) | assumption); have q472 : a1 < (l3.length : Int) := of_decide_eq_true (by first | (with_reducible assumption) | assumption); obtain ⟨ad472, A472_0, c472_0, e472, hx472_0, hl472_0, hi472_0⟩ := at_L2 HR3.out a1 p472 q472; obtain rfl : ad470 = ad472 := (by injection e472); have hn472_0 : ad470.block ≠ gb469 := Nat.ne_of_lt (Nat.lt_of_lt_of_le (by have := World.block_lt_of_cell? _ _ hx472_0; first | rwa [add_block] at this | exact this) GW469.out); have hn472_1 : ad470.block ≠ gb469 := Nat.ne_of_lt (Nat.lt_of_lt_of_le (by have := World.block_lt_of_cell? _ _ hx472_0; first | rwa [add_block] at this | exact this) GW469.out); have hn472_2 : ad470.block ≠ gb469 := Nat.ne_of_lt (Nat.lt_of_lt_of_le (by have := World.block_lt_of_cell? _ _ hx472_0; first | rwa [add_block] at this | exact this) GW469.out); replace hx472_0 := (HB.out.cell (World.block_lt_of_cell? w _ hx472_0)).trans hx472_0; have HR472_0 := Aside0.mk hi472_0; have HC472_0 := Aside0.mk hl472_0; clear hi472_0 hl472_0; replace hx472_0 := (cell_far (p := ⟨gb469, 0, none⟩) (by first | (rw [add_block]; exact hn472_0) | (show (Addr.add _ _).block ≠ _; rw [add_block]; exact hn472_0) | exact hn472_0) (.int .i64 ((rd_T76 l0_1 x30_2).f0))).trans hx472_0; replace hx472_0 := (cell_far (p := ⟨gb469, 1, none⟩) (by first | (rw [add_block]; exact hn472_1) | (show (Addr.add _ _).block ≠ _; rw [add_block]; exact hn472_1) | exact hn472_1) (.int .i64 ((rd_T76 l0_1 x30_2).f1))).trans hx472_0; replace hx472_0 := (cell_far (p := ⟨gb469, 2, none⟩) (by first | (rw [add_block]; exact hn472_2) | (show (Addr.add _ _).block ≠ _; rw [add_block]; exact hn472_2) | exact hn472_2) (.int .i64 ((rd_T76 l0_1 x30_2).f2))).trans hx472_0; (try have hy472_0 := fun (n_ : Nat) => (show (((((w29.drewN n_).setCell ⟨gb469, 0, none⟩ (.int .i64 ((rd_T76 l0_1 x30_2).f0))).setCell ⟨gb469, 1, none⟩ (.int .i64 ((rd_T76 l0_1 x30_2).f1))).setCell ⟨gb469, 2, none⟩ (.int .i64 ((rd_T76 l0_1 x30_2).f2)))).cell? _ = some _ from hx472_0)); clear hn472_0; clear hn472_1; clear hn472_2; replace p472 := eq_true p472; replace q472 := eq_true q472; have p473 : 0 ≤ (a2 : Int) := of_decide_eq_true (by first | (with_reducible assumption) | assumption); have q473 : a2 < ((rd_L2 l3 a1).length : Int) := of_decide_eq_true (by first | (with_reducible assumption) | assumption); obtain ⟨ad473, e473, hx473_0⟩ := Kd.at_int HR472_0.out a2 p473 q473; cases e473; have hn473_0 : ad473.block ≠ gb469 := Nat.ne_of_lt (Nat.lt_of_lt_of_le (by have := World.block_lt_of_cell? _ _ hx473_0; first | rwa [add_block] at this | exact this) GW469.out); have hn473_1 : ad473.block ≠ gb469 := Nat.ne_of_lt (Nat.lt_of_lt_of_le (by have := World.block_lt_of_cell? _ _ hx473_0; first | rwa [add_block] at this | exact this) GW469.out); have hn473_2 : ad473.block ≠ gb469 := Nat.ne_of_lt (Nat.lt_of_lt_of_le (by have := World.block_lt_of_cell? _ _ hx473_0; first | rwa [add_block] at this | exact this) GW469.out); replace hx473_0 := (HB.out.cell (World.block_lt_of_cell? w _ hx473_0)).trans hx473_0; replace hx473_0 := (cell_far (p := ⟨gb469, 0, none⟩) (by first | (rw [add_block]; exact hn473_0) | (show (Addr.add _ _).block ≠ _; rw [add_block]; exact hn473_0) | exact hn473_0) (.int .i64 ((rd_T76 l0_1 x30_2).f0))).trans hx473_0; replace hx473_0 := (cell_far (p := ⟨gb469, 1, none⟩) (by first | (rw [add_block]; exact hn473_1) | (show (Addr.add _ _).block ≠ _; rw [add_block]; exact hn473_1) | exact hn473_1) (.int .i64 ((rd_T76 l0_1 x30_2).f1))).trans hx473_0; replace hx473_0 := (cell_far (p := ⟨gb469, 2, none⟩) (by first | (rw [add_block]; exact hn473_2) | (show (Addr.add _ _).block ≠ _; rw [add_block]; exact hn473_2) | exact hn473_2) (.int .i64 ((rd_T76 l0_1 x30_2).f2))).trans hx473_0; (try have hy473_0 := fun (n_ : Nat) => (show (((((w29.drewN n_).setCell ⟨gb469, 0, none⟩ (.int .i64 ((rd_T76 l0_1 x30_2).f0))).setCell ⟨gb469, 1, none⟩ (.int .i64 ((rd_T76 l0_1 x30_2).f1))).setCell ⟨gb469, 2, none⟩ (.int .i64 ((rd_T76 l0_1 x30_2).f2)))).cell? _ = some _ from hx473_0)); clear hn473_0; clear hn473_1; clear hn473_2; replace p473 := eq_true p473; replace q473 := eq_true q473)
     repeat (go_quiet (fail); try go_wp2_with ((with_reducible refine gate_builtin (b := .append) (xs := #[.tmp 59, .tmp 62]) rfl ?_); at_builtin; refine Kd.R_append (Kd.int .i64) (w0 := w) w.heap.size rfl (.tmp 59) (.tmp 62) 26 3 (.int .i64 0) 8 rfl Try.underlying26 info3 rfl (by decide) (by omega) u9 x9_2 ((rd_T76 l0_1 x30_2).f1) [.int .i64 ((rd_T76 l0_1 x30_2).f1)] (fun _ => True) (fun _ => False) rfl (by first | (go_simp; done) | (go_simp; rfl)) ?aP (fun _ hk => hk.elim) ?aF ?aO ?aB ?aS ?aL ?_; (case aP => exact rfl); (case aB => exact (bw115_)); (case aF => exact (fun _ _ => trivial)); (case aO => exact (by (with_reducible repeat (first | apply Kd.R_alloc | apply Kd.R_drewN | apply Kd.R_drew)); exact Kd.R_mono (Kd.R_far (p := ⟨gb469, 2, none⟩) (Kd.R_far (p := ⟨gb469, 1, none⟩) (Kd.R_far (p := ⟨gb469, 0, none⟩) (Kd.R_types HO_9.out BK469.out (by decide)) (fun _ hk => hk.2) (.int .i64 ((rd_T76 l0_1 x30_2).f0))) (fun _ hk => hk.2) (.int .i64 ((rd_T76 l0_1 x30_2).f1))) (fun _ hk => hk.2) (.int .i64 ((rd_T76 l0_1 x30_2).f2))) (fun _ hk => trivial))); (case aS => exact (bz_ HB)); (case aL => have := LMc28.out; omega); intro v475 w32 ho hb hg hat; rw [← Ny474.out] at ho; have HO476 := Aside0.mk ho; replace BK462 := Aside0.mk (blk_grown (g := gb462) (o := .cells #[.int .i64 a0_0, .slice (some ad468) l0_1.length c0_1] 30 (0, 0)) (bc_ BK462) hg (Kd.R_ne HO_9.out BK462.out (by decide))); replace BK469 := Aside0.mk (blk_grown (g := gb469) (o := .cells #[.int .i64 ((rd_T76 l0_1 x30_2).f0), .int .i64 ((rd_T76 l0_1 x30_2).f1), .int .i64 ((rd_T76 l0_1 x30_2).f2)] 76 (0, 0)) (by (with_reducible repeat (first | refine blk_drewN ?_ _ | refine blk_drew ?_ | refine blk_alloc ?_ _)); refine blk_put (cs := #[.int .i64 ((rd_T76 l0_1 x30_2).f0), .int .i64 ((rd_T76 l0_1 x30_2).f1), .int .i64 0]) ?_ 2 _ rfl; (with_reducible repeat (first | refine blk_drewN ?_ _ | refine blk_drew ?_ | refine blk_alloc ?_ _)); refine blk_put (cs := #[.int .i64 ((rd_T76 l0_1 x30_2).f0), .int .i64 0, .int .i64 0]) ?_ 1 _ rfl; (with_reducible repeat (first | refine blk_drewN ?_ _ | refine blk_drew ?_ | refine blk_alloc ?_ _)); refine blk_put (cs := #[.int .i64 0, .int .i64 0, .int .i64 0]) ?_ 0 _ rfl; (with_reducible repeat (first | refine blk_drewN ?_ _ | refine blk_drew ?_ | refine blk_alloc ?_ _)); exact BK469.out) hg (Kd.R_ne HO_9.out BK469.out (by decide))); replace HB := Aside0.mk (hb); clear HO_9; clear ho hb hg hat))
     go_roundg k2
     case measure => have := HJ4.out; have := HK2.out; omega
     case rel => exact ⟨(y474), (wrap64 (x30_2 + 1)), (by first | rfl | (simp; done) | (simp [*]; done)), H', ⟨by have := HJ4.out; have := HK2.out; omega⟩, ⟨by (with_reducible repeat (first | apply Kd.R_alloc | apply Kd.R_drewN | apply Kd.R_drew)); exact HO476.out⟩, ⟨bx_ BK462⟩, ⟨bw115_⟩⟩

/-! ### impl_Graph_hopTable: function 60 -/
def impl_Graph_hopTable.l0 : Nat → Int → List (List Int) → List (List Int) → Int → Int → Int → List (S76) → Option ((List (List Int)))
 | 0, _, _, _, _, _, _, _ => none
 | k + 1, x1, x5, x6, x12, x13, x478000, x478001 => if x13 < x12 then ((impl_Graph_hopsTo.f k x478000 x478001 x1 x13 x5).bind fun t484 => (if x6.length < 5864062014805 then (impl_Graph_hopTable.l0 k x1 x5 (x6 ++ [t484]) x12 (wrap64 (x13 + 1)) x478000 x478001) else (none))) else (some x6)
def impl_Graph_hopTable.f (k : Nat) (a0_0 : Int) (l0_1 : List (S76)) (a1 : Int) : Option ((List (List Int))) := (impl_Graph_all.f k a0_0 l0_1).bind fun t478 => (impl_Graph_hopTable.l0 k a1 t478 (([] : List (List Int))) a0_0 0 a0_0 l0_1)
theorem impl_Graph_hopTable.mono_l : ∀ k, (∀ y0 y1 y2 y3 y4 y5 y6, LeO (impl_Graph_hopTable.l0 k y0 y1 y2 y3 y4 y5 y6) (impl_Graph_hopTable.l0 (k + 1) y0 y1 y2 y3 y4 y5 y6))
 | 0 => fun _ _ _ _ _ _ _ r h => by simp [impl_Graph_hopTable.l0] at h
 | k + 1 => by
  have ih0 := impl_Graph_hopTable.mono_l k
  ·intro y0 y1 y2 y3 y4 y5 y6
   unfold impl_Graph_hopTable.l0
   repeat' first
   | (with_reducible exact ih0 _ _ _ _ _ _ _)
   | (with_reducible exact impl_Graph_all.mono _ _ _)
   | (with_reducible exact impl_Graph_hopsTo.mono _ _ _ _ _ _)
   | (with_reducible exact LeO.refl _)
   | (with_reducible exact LeO.none _)
   | (with_reducible refine LeO.ite ?_ ?_)
   | (with_reducible refine LeO.bind ?_ (fun _ => ?_))
   | exact ih0 _ _ _ _ _ _ _
   | exact impl_Graph_all.mono _ _ _
   | exact impl_Graph_hopsTo.mono _ _ _ _ _ _
   | exact LeO.none _
   | refine LeO.ite ?_ ?_
   | refine LeO.bind ?_ (fun _ => ?_)
theorem impl_Graph_hopTable.mono : ∀ a0 a1 a2 k, LeO (impl_Graph_hopTable.f k a0 a1 a2) (impl_Graph_hopTable.f (k + 1) a0 a1 a2) := by
 intro a0 a1 a2 k
 have ih0 := impl_Graph_hopTable.mono_l k
 unfold impl_Graph_hopTable.f
 repeat' first
   | (with_reducible exact ih0 _ _ _ _ _ _ _)
   | (with_reducible exact impl_Graph_all.mono _ _ _)
   | (with_reducible exact impl_Graph_hopsTo.mono _ _ _ _ _ _)
   | (with_reducible exact LeO.refl _)
   | (with_reducible exact LeO.none _)
   | (with_reducible refine LeO.ite ?_ ?_)
   | (with_reducible refine LeO.bind ?_ (fun _ => ?_))
   | exact ih0 _ _ _ _ _ _ _
   | exact impl_Graph_all.mono _ _ _
   | exact impl_Graph_hopsTo.mono _ _ _ _ _ _
   | exact LeO.none _
   | refine LeO.ite ?_ ?_
   | refine LeO.bind ?_ (fun _ => ?_)
set_option maxHeartbeats 8000000 in
set_option maxRecDepth 100000 in
theorem impl_Graph_hopTable.calls (k : Nat) (a0_0 : Int) (A0_1 : Option Addr) (c0_1 : Nat) (l0_1 : List (S76)) (a1 : Int) (r : List (List Int)) (w : World) (hr0_1 : Kd.C k76 w A0_1 l0_1.length l0_1) (hc0_1 : l0_1.length ≤ c0_1) (h : impl_Graph_hopTable.f k a0_0 l0_1 a1 = some r) :
  Calls Try.prog 60 #[.agg #[.int .i64 a0_0, .slice A0_1 l0_1.length c0_1], .int .i64 a1] w fun e w' => ∃ v0_ : Value, e = .returned (v0_) ∧ Kd.S (Kd.slice 3 (Kd.int .i64)) 26 w' w.heap.size (fun _ => True) v0_ r ∧ Below w.heap.size w w' := by
 have hu30 := Try.underlying30
 have HR0_1 := Aside0.mk hr0_1
 have HC0_1 := Aside0.mk hc0_1
 clear hr0_1 hc0_1
 have HB := Aside0.mk (Below.refl w.heap.size w)
 have H : ((impl_Graph_all.f k a0_0 l0_1).bind fun t478 => (impl_Graph_hopTable.l0 k a1 t478 (([] : List (List Int))) a0_0 0 a0_0 l0_1)) = some r := h
 clear h
 replace H := Option.bind_eq_some_iff.mp H
 obtain ⟨t478, A30, H⟩ := H
 have A3 := Aside0.mk A30
 clear A30
 obtain ⟨y481, hy481⟩ : ∃ y_ : List (List Int), y_ = (([] : List (List Int))) := ⟨_, rfl⟩
 replace H : (impl_Graph_hopTable.l0 k a1 t478 y481 a0_0 0 a0_0 l0_1) = some r := by first | (rw [hy481]; with_reducible exact H) | (have H2_ := (Option.bind_some _ _).symm.trans H; rw [hy481]; with_reducible exact H2_) | (have H2_ := (Option.bind_some _ _).symm.trans H; with_reducible exact H2_) | with_reducible exact H | (rw [hy481]; exact H) | exact H
 have Ny481 := Aside0.mk hy481
 clear hy481
 have H' := Aside0.mk H
 clear H
 go_enter Try.func60, Try.ntmps60
 go_wp2_with (first | ((with_reducible refine gate_dst (N := 2) rfl ?_); refine box_event ?hg (N := 2) ?hd (cs := #[.int .i64 a0_0, .slice A0_1 l0_1.length c0_1]) (t := 30) ?hr ?_; (case hd => rfl); (case hg => rfl); (case hr => first | (go_simp; done) | (go_simp; rfl)); intro gb477 hg w4 hbox hb; have BK477 := Aside0.mk hbox; have GW477 := ge_ HB hg; have GE477 := ge_ HB hg; replace HB := at_ HB hb; clear hb hbox hg; have hcz5_0 := cz_ BK477 0 (.int .i64 a0_0); have hcz5_1 := cz_ BK477 1 (.slice A0_1 l0_1.length c0_1); have hfz5_0 := blk_frozen BK477.out 0; have hfz5_1 := blk_frozen BK477.out 1) | ((with_reducible refine gate_callee (f := 55) rfl ?_); refine gl_ (some 9) Try.func55 #[.agg #[.int .i64 a0_0, .slice A0_1 l0_1.length c0_1]] ?_; (with_reducible refine (impl_Graph_all.calls k a0_0 _ _ l0_1 t478 _ ?side1 ?side2 A3.out).mono ?_); (case side1 => exact cb_ HR0_1 HB); (case side2 => exact HC0_1.out); rintro e w6 ⟨v479, rfl, ho0, hb⟩; refine ⟨_, rfl, ?_⟩; have HO480 := Aside0.mk (Kd.S_lower ho0 (bz_ HB)); replace BK477 := ab_ BK477 hb; replace HB := at_ HB hb; (try clear hb); (try clear hb2); (try clear hk); (try clear hi); (try clear ho0)) | ((with_reducible refine gate_dst (N := 10) rfl ?_); refine Kd.S_lit (Kd.slice 3 (Kd.int .i64)) _ 26 ?hg (N := 10) ?hd (xs := ([] : List (List Int))) (inner := []) (ok := fun _ => True) (okp := fun _ => True) ?hr ?hp (fun _ hk => hk) trivial (Below.refl _ _) (Nat.le_refl _) (by simp) ?_; (case hd => rfl); (case hg => rfl); (case hr => first | (go_simp; done) | (go_simp; rfl)); (case hp => exact (Reps.none _ _)); intro v482 w7 ho8 hb hg_ hnew_; clear hg_ hnew_; (first | rw [← Ny481.out] at ho8 | (simp only [Int.reduceToNat] at ho8; rw [← Ny481.out] at ho8)); have HO483 := Aside0.mk (Kd.S_lower (Kd.S_new' ho8 (Kd.S_lt (by (with_reducible repeat (first | apply Kd.S_alloc | apply Kd.S_drewN | apply Kd.S_drew)); exact HO480.out))) (bz_ HB)); replace HO480 := Aside0.mk (Kd.S_elder' (by (with_reducible repeat (first | apply Kd.S_alloc | apply Kd.S_drewN | apply Kd.S_drew)); exact HO480.out) (Kd.S_base ho8) hb); replace BK477 := ab_ BK477 hb; replace HB := at_ HB hb; clear hb ho8; have hcz9_0 := cz_ BK477 0 (.int .i64 a0_0); have hcz9_1 := cz_ BK477 1 (.slice A0_1 l0_1.length c0_1); have hfz9_0 := blk_frozen BK477.out 0; have hfz9_1 := blk_frozen BK477.out 1))
 (try simp only [Act.put, List.setIfInBounds_toArray, List.set_cons_zero, List.set_cons_succ])
 go_loopg [6, 13] k (fun kq v6 v13 w' => ∃ (x6_1 : List (List Int)) (x13_1 : Int), v13 = .int .i64 x13_1 ∧ Aside0 (impl_Graph_hopTable.l0 kq a1 t478 x6_1 a0_0 x13_1 a0_0 l0_1 = some r) ∧ Aside0 (kq ≤ k) ∧ Aside0 (Kd.S (Kd.slice 3 (Kd.int .i64)) 26 w' w.heap.size (fun k_ => some k_ ≠ (v6 : Value).ownBlock) v479 t478) ∧ Aside0 (Kd.S (Kd.slice 3 (Kd.int .i64)) 26 w' w.heap.size (fun k_ => some k_ ≠ (v479 : Value).ownBlock) v6 x6_1) ∧ Aside0 (w'.heap[gb477]? = some (.cells #[.int .i64 a0_0, (.slice A0_1 l0_1.length c0_1)] 30 (0, 0))) ∧ Aside0 (Below w.heap.size w w'))
 case atStart => exact ⟨(y481), (0), (by first | rfl | (simp; done) | (simp [*]; done)), H', ⟨Nat.le_refl _⟩, ⟨by (with_reducible repeat (first | apply Kd.S_alloc | apply Kd.S_drewN | apply Kd.S_drew)); exact Kd.S_mono HO480.out (fun _ hk => hk.2)⟩, ⟨by (with_reducible repeat (first | apply Kd.S_alloc | apply Kd.S_drewN | apply Kd.S_drew)); exact Kd.S_mono HO483.out (fun _ hk => hk.2)⟩, ⟨bx_ BK477⟩, ⟨bw115_⟩⟩
 case round =>
  clear H'
  try clear p2
  try clear c5
  try clear c6
  try clear hcz5_0
  try clear hcz5_1
  try clear hcz9_0
  try clear hcz9_1
  try clear hfz5_0
  try clear hfz5_1
  try clear hfz9_0
  try clear hfz9_1
  obtain ⟨x6_1, x13_1, rfl, HA, HK1, HO_5, HO_6, BK477, HB⟩ := hrel
  cases gk with
  | zero => exact absurd HA.out (by simp [impl_Graph_hopTable.l0])
  | succ k1 =>
   have H := HA.out
   clear HA
   simp only [impl_Graph_hopTable.l0] at H
   by_cases c10 : x13_1 < a0_0
   rotate_left
   ·rw [if_neg c10] at H
    have c10b0 : decide (x13_1 < a0_0) = false := decide_eq_false c10
    clear c10
    obtain rfl := Option.some.inj H
    go_wp2
    go_ret
    exact ⟨_, by first | rfl | (simp [errW_none, errW_some] <;> rfl) | (simp [*, errW_none, errW_some] <;> rfl), by (with_reducible repeat (first | apply Kd.S_alloc | apply Kd.S_drewN | apply Kd.S_drew)); exact Kd.S_mono HO_6.out (fun _ hk => trivial), bw115_⟩
   rw [if_pos c10] at H
   have c10b0 : decide (x13_1 < a0_0) = true := decide_eq_true c10
   clear c10
   replace H := Option.bind_eq_some_iff.mp H
   obtain ⟨t484, A110, H⟩ := H
   have A11 := Aside0.mk A110
   clear A110
   by_cases c12 : x6_1.length < 5864062014805
   rotate_left
   ·rw [if_neg c12] at H
    exact absurd H (by simp)
   rw [if_pos c12] at H
   have LMc12 := Aside0.mk c12
   clear c12
   obtain ⟨y487, hy487⟩ : ∃ y_ : List (List Int), y_ = (x6_1 ++ [t484]) := ⟨_, rfl⟩
   replace H : (impl_Graph_hopTable.l0 k1 a1 t478 y487 a0_0 (wrap64 (x13_1 + 1)) a0_0 l0_1) = some r := by first | (rw [hy487]; with_reducible exact H) | (have H2_ := (Option.bind_some _ _).symm.trans H; rw [hy487]; with_reducible exact H2_) | (have H2_ := (Option.bind_some _ _).symm.trans H; with_reducible exact H2_) | with_reducible exact H | (rw [hy487]; exact H) | exact H
   have Ny487 := Aside0.mk hy487
   clear hy487
   have H' := Aside0.mk H
   clear H
   have hcz13_0 := cz_ BK477 0 (.int .i64 a0_0)
   have hcz13_1 := cz_ BK477 1 (.slice A0_1 l0_1.length c0_1)
   have hfz13_0 := blk_frozen BK477.out 0
   have hfz13_1 := blk_frozen BK477.out 1
   obtain ⟨Ao14, co14, eo14⟩ := Kd.S_slice HO_5.out
   subst eo14
   go_wp2_with (first | ((with_reducible refine gate_callee (f := 58) rfl ?_); refine gl_ (some 21) Try.func58 #[.agg #[.int .i64 a0_0, .slice A0_1 l0_1.length c0_1], .int .i64 a1, .int .i64 x13_1, .slice Ao14 t478.length co14] ?_; (with_reducible refine (impl_Graph_hopsTo.calls k1 a0_0 _ _ l0_1 a1 x13_1 _ _ t478 t484 _ ?side1 ?side2 ?side3 ?side4 A11.out).mono ?_); (case side1 => exact cb_ HR0_1 HB); (case side2 => exact HC0_1.out); (case side3 => repeat (first | exact (Kd.S_reads' HO_5.out).2.2 | (with_reducible refine Kd.C_alloc ?_ _) | (with_reducible refine Kd.C_drewN ?_ _) | (with_reducible refine Kd.C_drew ?_))); (case side4 => exact (Kd.S_reads' HO_5.out).2.1); rintro e w15 ⟨v485, rfl, ho0, hb⟩; refine ⟨_, rfl, ?_⟩; have HO486 := Aside0.mk (Kd.R_lower ho0 (bz_ HB)); replace HO_5 := Aside0.mk (Kd.S_elder' (by (with_reducible repeat (first | apply Kd.S_alloc | apply Kd.S_drewN | apply Kd.S_drew)); exact HO_5.out) (Kd.R_base ho0) hb); replace HO_6 := Aside0.mk (Kd.S_elder' (by (with_reducible repeat (first | apply Kd.S_alloc | apply Kd.S_drewN | apply Kd.S_drew)); exact HO_6.out) (Kd.R_base ho0) hb); replace BK477 := ab_ BK477 hb; replace HB := at_ HB hb; (try clear hb); (try clear hb2); (try clear hk); (try clear hi); (try clear ho0); obtain ⟨Ao17, co17, eo17⟩ := Kd.R_slice HO486.out; subst eo17) | ((with_reducible refine gate_builtin (b := .append) (xs := #[.tmp 16, .tmp 22]) rfl ?_); at_builtin; refine Kd.S_append (Kd.slice 3 (Kd.int .i64)) (w0 := w) w.heap.size rfl (.tmp 16) (.tmp 22) 45 26 (.slice none 0 0) 24 rfl Try.underlying45 info26 rfl (by decide) (by omega) u6 x6_1 t484 [.slice Ao17 t484.length co17] (fun k_ => some k_ ≠ (.slice Ao14 t478.length co14 : Value).ownBlock) (fun k_ => some k_ = (.slice Ao17 t484.length co17 : Value).ownBlock) rfl rfl ?aP (fun k_ hk_ => ((Kd.R_mono (ok' := fun k_ => ((fun k_ => some k_ ≠ (.slice Ao14 t478.length co14 : Value).ownBlock)) k_ ∧ some k_ ≠ (u6 : Value).ownBlock) (Kd.R_apart' (Kd.R_apart' (HO486.out) (Kd.S_typed HO_5.out) (by decide)) (Kd.S_typed HO_6.out) (by decide)) (fun k_ hk => ⟨hk.1.2, hk.2⟩))).1 k_ hk_.symm) ?aF ?aO ?aB ?aS ?aL ?_; (case aP => exact Kd.M_row (Kd.R_mono (Kd.R_tight rfl (Kd.R_mono (ok' := fun k_ => ((fun k_ => some k_ ≠ (.slice Ao14 t478.length co14 : Value).ownBlock)) k_ ∧ some k_ ≠ (u6 : Value).ownBlock) (Kd.R_apart' (Kd.R_apart' (HO486.out) (Kd.S_typed HO_5.out) (by decide)) (Kd.S_typed HO_6.out) (by decide)) (fun k_ hk => ⟨hk.1.2, hk.2⟩))) (fun _ h_ => h_))); (case aB => exact (bw115_)); (case aF => exact (fun k_ hk => Kd.fresh' (Kd.S_lt (by (with_reducible repeat (first | apply Kd.S_alloc | apply Kd.S_drewN | apply Kd.S_drew)); exact HO_5.out)) k_ hk)); (case aO => exact (by (with_reducible repeat (first | apply Kd.S_alloc | apply Kd.S_drewN | apply Kd.S_drew)); exact Kd.S_mono HO_6.out (fun k_ hk => ⟨hk.1, fun e_ => hk.2 e_⟩))); (case aS => exact (bz_ HB)); (case aL => have := LMc12.out; omega); intro v488 w16 ho hb hg hat; rw [← Ny487.out] at ho; have HO489 := Aside0.mk ho; replace HO_5 := Aside0.mk (Kd.S_after (ok := (fun k_ => some k_ ≠ (.slice Ao17 t484.length co17 : Value).ownBlock)) (by (with_reducible repeat (first | apply Kd.S_alloc | apply Kd.S_drewN | apply Kd.S_drew)); exact Kd.S_mono HO_5.out (fun _ hk => by first | exact ⟨hk.2, hk.1⟩ | grind)) hg hat); replace BK477 := Aside0.mk (blk_grown (g := gb477) (o := .cells #[.int .i64 a0_0, .slice A0_1 l0_1.length c0_1] 30 (0, 0)) (bx_ BK477) hg (Kd.S_ne HO_6.out BK477.out (by decide))); replace HB := Aside0.mk (hb); clear HO_6 HO486; clear ho hb hg hat))
   go_roundg k1
   case measure => have := HK1.out; omega
   case rel => exact ⟨(y487), (wrap64 (x13_1 + 1)), (by first | rfl | (simp; done) | (simp [*]; done)), H', ⟨by have := HK1.out; omega⟩, ⟨by (with_reducible repeat (first | apply Kd.S_alloc | apply Kd.S_drewN | apply Kd.S_drew)); exact Kd.S_mono HO_5.out (fun _ hk => hk.2)⟩, ⟨by (with_reducible repeat (first | apply Kd.S_alloc | apply Kd.S_drewN | apply Kd.S_drew)); exact HO489.out⟩, ⟨bx_ BK477⟩, ⟨bw115_⟩⟩

/-! ### impl_HopTable: function 32 -/
def impl_HopTable.f (k : Nat) (a0_0 : Int) (l0_1 : List (S76)) (a1 : Int) : Option ((List (List Int))) := (impl_GraphOk.f k a0_0 l0_1).bind fun t491 => (if t491 = true then ((impl_Graph_isNode.f a0_0 l0_1 a1).bind fun t492 => (if t492 = true then ((impl_Graph_hopTable.f k a0_0 l0_1 a1).bind fun t493 => (some t493)) else (some ([] : List (List Int))))) else (some ([] : List (List Int))))
theorem impl_HopTable.mono : ∀ a0 a1 a2 k, LeO (impl_HopTable.f k a0 a1 a2) (impl_HopTable.f (k + 1) a0 a1 a2) := by
 intro a0 a1 a2 k
 unfold impl_HopTable.f
 repeat' first
   | (with_reducible exact impl_GraphOk.mono _ _ _)
   | (with_reducible exact impl_Graph_hopTable.mono _ _ _ _)
   | (with_reducible exact LeO.refl _)
   | (with_reducible exact LeO.none _)
   | (with_reducible refine LeO.ite ?_ ?_)
   | (with_reducible refine LeO.bind ?_ (fun _ => ?_))
   | exact impl_GraphOk.mono _ _ _
   | exact impl_Graph_hopTable.mono _ _ _ _
   | exact LeO.none _
   | refine LeO.ite ?_ ?_
   | refine LeO.bind ?_ (fun _ => ?_)
set_option maxHeartbeats 8000000 in
set_option maxRecDepth 100000 in
theorem impl_HopTable.calls (k : Nat) (a0_0 : Int) (A0_1 : Option Addr) (c0_1 : Nat) (l0_1 : List (S76)) (a1 : Int) (r : List (List Int)) (w : World) (hr0_1 : Kd.C k76 w A0_1 l0_1.length l0_1) (hc0_1 : l0_1.length ≤ c0_1) (h : impl_HopTable.f k a0_0 l0_1 a1 = some r) :
  Calls Try.prog 32 #[.agg #[.int .i64 a0_0, .slice A0_1 l0_1.length c0_1], .int .i64 a1] w fun e w' => ∃ v0_ : Value, e = .returned (v0_) ∧ Kd.S (Kd.slice 3 (Kd.int .i64)) 26 w' w.heap.size (fun _ => True) v0_ r ∧ Below w.heap.size w w' := by
 have hu30 := Try.underlying30
 have HR0_1 := Aside0.mk hr0_1
 have HC0_1 := Aside0.mk hc0_1
 clear hr0_1 hc0_1
 have HB := Aside0.mk (Below.refl w.heap.size w)
 have H : ((impl_GraphOk.f k a0_0 l0_1).bind fun t491 => (if t491 = true then ((impl_Graph_isNode.f a0_0 l0_1 a1).bind fun t492 => (if t492 = true then ((impl_Graph_hopTable.f k a0_0 l0_1 a1).bind fun t493 => (some t493)) else (some ([] : List (List Int))))) else (some ([] : List (List Int))))) = some r := h
 clear h
 replace H := Option.bind_eq_some_iff.mp H
 obtain ⟨t491, A30, H⟩ := H
 have A3 := Aside0.mk A30
 clear A30
 by_cases c4 : t491 = true
 rotate_left
 ·replace c4 := Bool.eq_false_iff.mpr c4
  subst c4
  rw [if_neg (show ¬ (false = true) by decide)] at H
  obtain rfl := Option.some.inj H
  go_enter Try.func32, Try.ntmps32
  go_wp2_with (first | ((with_reducible refine gate_dst (N := 2) rfl ?_); refine box_event ?hg (N := 2) ?hd (cs := #[.int .i64 a0_0, .slice A0_1 l0_1.length c0_1]) (t := 30) ?hr ?_; (case hd => rfl); (case hg => rfl); (case hr => first | (go_simp; done) | (go_simp; rfl)); intro gb490 hg w20 hbox hb; have BK490 := Aside0.mk hbox; have GW490 := ge_ HB hg; have GE490 := ge_ HB hg; replace HB := at_ HB hb; clear hb hbox hg; have hcz21_0 := cz_ BK490 0 (.int .i64 a0_0); have hcz21_1 := cz_ BK490 1 (.slice A0_1 l0_1.length c0_1); have hfz21_0 := blk_frozen BK490.out 0; have hfz21_1 := blk_frozen BK490.out 1) | ((with_reducible refine gate_callee (f := 47) rfl ?_); refine gl_ (some 6) Try.func47 #[.agg #[.int .i64 a0_0, .slice A0_1 l0_1.length c0_1]] ?_; (with_reducible refine (impl_GraphOk.calls k a0_0 _ _ l0_1 false _ ?side1 ?side2 A3.out).mono ?_); (case side1 => exact cb_ HR0_1 HB); (case side2 => exact HC0_1.out); rintro e w22 ⟨rfl, hb⟩; refine ⟨_, rfl, ?_⟩; replace BK490 := ab_ BK490 hb; replace HB := at_ HB hb; (try clear hb); (try clear hb2); (try clear hk); (try clear hi)))
  go_ret
  exact ⟨_, by first | rfl | (simp [errW_none, errW_some] <;> rfl) | (simp [*, errW_none, errW_some] <;> rfl), by first | exact Kd.S_nil _ _ _ _ _ | exact Kd.N_nil _ _ _ _ _ | exact Kd.V_nil _ _ _ _ _ | exact Kd.Q_nil _ _ _ _ _ | exact Kd.R_nil _ _ _ _ _, bw115_⟩
 subst c4
 rw [if_pos rfl] at H
 replace H := Option.bind_eq_some_iff.mp H
 obtain ⟨t492, A50, H⟩ := H
 have A5 := Aside0.mk A50
 clear A50
 by_cases c6 : t492 = true
 rotate_left
 ·replace c6 := Bool.eq_false_iff.mpr c6
  subst c6
  rw [if_neg (show ¬ (false = true) by decide)] at H
  obtain rfl := Option.some.inj H
  go_enter Try.func32, Try.ntmps32
  go_wp2_with (first | ((with_reducible refine gate_dst (N := 2) rfl ?_); refine box_event ?hg (N := 2) ?hd (cs := #[.int .i64 a0_0, .slice A0_1 l0_1.length c0_1]) (t := 30) ?hr ?_; (case hd => rfl); (case hg => rfl); (case hr => first | (go_simp; done) | (go_simp; rfl)); intro gb490 hg w15 hbox hb; have BK490 := Aside0.mk hbox; have GW490 := ge_ HB hg; have GE490 := ge_ HB hg; replace HB := at_ HB hb; clear hb hbox hg; have hcz16_0 := cz_ BK490 0 (.int .i64 a0_0); have hcz16_1 := cz_ BK490 1 (.slice A0_1 l0_1.length c0_1); have hfz16_0 := blk_frozen BK490.out 0; have hfz16_1 := blk_frozen BK490.out 1) | ((with_reducible refine gate_callee (f := 47) rfl ?_); refine gl_ (some 6) Try.func47 #[.agg #[.int .i64 a0_0, .slice A0_1 l0_1.length c0_1]] ?_; (with_reducible refine (impl_GraphOk.calls k a0_0 _ _ l0_1 true _ ?side1 ?side2 A3.out).mono ?_); (case side1 => exact cb_ HR0_1 HB); (case side2 => exact HC0_1.out); rintro e w17 ⟨rfl, hb⟩; refine ⟨_, rfl, ?_⟩; replace BK490 := ab_ BK490 hb; replace HB := at_ HB hb; (try clear hb); (try clear hb2); (try clear hk); (try clear hi); have hcz18_0 := cz_ BK490 0 (.int .i64 a0_0); have hcz18_1 := cz_ BK490 1 (.slice A0_1 l0_1.length c0_1); have hfz18_0 := blk_frozen BK490.out 0; have hfz18_1 := blk_frozen BK490.out 1) | (go_at_call 48; (with_reducible refine (impl_Graph_isNode.calls a0_0 _ _ l0_1 a1 false _ ?side1 ?side2 A5.out).mono ?_); (case side1 => exact cb_ HR0_1 HB); (case side2 => exact HC0_1.out); rintro e w19 ⟨rfl, hb⟩; replace BK490 := ab_ BK490 hb; replace HB := at_ HB hb; (try clear hb); (try clear hb2); (try clear hk); (try clear hi)))
  go_ret
  exact ⟨_, by first | rfl | (simp [errW_none, errW_some] <;> rfl) | (simp [*, errW_none, errW_some] <;> rfl), by first | exact Kd.S_nil _ _ _ _ _ | exact Kd.N_nil _ _ _ _ _ | exact Kd.V_nil _ _ _ _ _ | exact Kd.Q_nil _ _ _ _ _ | exact Kd.R_nil _ _ _ _ _, bw115_⟩
 subst c6
 rw [if_pos rfl] at H
 replace H := Option.bind_eq_some_iff.mp H
 obtain ⟨t493, A70, H⟩ := H
 have A7 := Aside0.mk A70
 clear A70
 obtain rfl := Option.some.inj H
 go_enter Try.func32, Try.ntmps32
 go_wp2_with (first | ((with_reducible refine gate_dst (N := 2) rfl ?_); refine box_event ?hg (N := 2) ?hd (cs := #[.int .i64 a0_0, .slice A0_1 l0_1.length c0_1]) (t := 30) ?hr ?_; (case hd => rfl); (case hg => rfl); (case hr => first | (go_simp; done) | (go_simp; rfl)); intro gb490 hg w8 hbox hb; have BK490 := Aside0.mk hbox; have GW490 := ge_ HB hg; have GE490 := ge_ HB hg; replace HB := at_ HB hb; clear hb hbox hg; have hcz9_0 := cz_ BK490 0 (.int .i64 a0_0); have hcz9_1 := cz_ BK490 1 (.slice A0_1 l0_1.length c0_1); have hfz9_0 := blk_frozen BK490.out 0; have hfz9_1 := blk_frozen BK490.out 1) | ((with_reducible refine gate_callee (f := 47) rfl ?_); refine gl_ (some 6) Try.func47 #[.agg #[.int .i64 a0_0, .slice A0_1 l0_1.length c0_1]] ?_; (with_reducible refine (impl_GraphOk.calls k a0_0 _ _ l0_1 true _ ?side1 ?side2 A3.out).mono ?_); (case side1 => exact cb_ HR0_1 HB); (case side2 => exact HC0_1.out); rintro e w10 ⟨rfl, hb⟩; refine ⟨_, rfl, ?_⟩; replace BK490 := ab_ BK490 hb; replace HB := at_ HB hb; (try clear hb); (try clear hb2); (try clear hk); (try clear hi); have hcz11_0 := cz_ BK490 0 (.int .i64 a0_0); have hcz11_1 := cz_ BK490 1 (.slice A0_1 l0_1.length c0_1); have hfz11_0 := blk_frozen BK490.out 0; have hfz11_1 := blk_frozen BK490.out 1) | (go_at_call 48; (with_reducible refine (impl_Graph_isNode.calls a0_0 _ _ l0_1 a1 true _ ?side1 ?side2 A5.out).mono ?_); (case side1 => exact cb_ HR0_1 HB); (case side2 => exact HC0_1.out); rintro e w12 ⟨rfl, hb⟩; replace BK490 := ab_ BK490 hb; replace HB := at_ HB hb; (try clear hb); (try clear hb2); (try clear hk); (try clear hi); have hcz13_0 := cz_ BK490 0 (.int .i64 a0_0); have hcz13_1 := cz_ BK490 1 (.slice A0_1 l0_1.length c0_1); have hfz13_0 := blk_frozen BK490.out 0; have hfz13_1 := blk_frozen BK490.out 1) | ((with_reducible refine gate_callee (f := 60) rfl ?_); refine gl_ (some 16) Try.func60 #[.agg #[.int .i64 a0_0, .slice A0_1 l0_1.length c0_1], .int .i64 a1] ?_; (with_reducible refine (impl_Graph_hopTable.calls k a0_0 _ _ l0_1 a1 t493 _ ?side1 ?side2 A7.out).mono ?_); (case side1 => exact cb_ HR0_1 HB); (case side2 => exact HC0_1.out); rintro e w14 ⟨v494, rfl, ho0, hb⟩; refine ⟨_, rfl, ?_⟩; have HO495 := Aside0.mk (Kd.S_lower ho0 (bz_ HB)); replace BK490 := ab_ BK490 hb; replace HB := at_ HB hb; (try clear hb); (try clear hb2); (try clear hk); (try clear hi); (try clear ho0)))
 go_ret
 exact ⟨_, by first | rfl | (simp [errW_none, errW_some] <;> rfl) | (simp [*, errW_none, errW_some] <;> rfl), by (with_reducible repeat (first | apply Kd.S_alloc | apply Kd.S_drewN | apply Kd.S_drew)); exact HO495.out, bw115_⟩

end Go.Proofs.Ythmahcohcphljaa.QFnHops
