/- Contracts of functions that the law reaches: what each call returns and what it leaves in memory. Made by this session over the print of the kit. -/
import Derived.Test.YthmahcohcphljaaQFnSharesx0
namespace Go.Proofs.Ythmahcohcphljaa.QFnShares
open Go.RowKit Go.Proofs.YthmahcohcphljaaS.PrintWords Go.Proofs.YthmahcohcphljaaS.PrintLast Go.Proofs.YthmahcohcphljaaS.PrintMore
attribute [local go_sem] max2_int min2_int max_two min_two max_three min_three max_four min_four   -- for this text's walks alone
set_option linter.unusedVariables false
set_option linter.unusedSimpArgs false

/-! ### spec_l01In: function 52 -/
def spec_l01In.f (a0 : Int) (a1 : Int) (a2 : Int) : Option (Bool) := if a1 ≤ a0 then (some (decide (a0 ≤ a2))) else (some false)
set_option maxHeartbeats 8000000 in
set_option maxRecDepth 100000 in
theorem spec_l01In.calls (a0 : Int) (a1 : Int) (a2 : Int) (r : Bool) (w : World) (h : spec_l01In.f a0 a1 a2 = some r) :
  Calls Try.prog 52 #[.int .i64 a0, .int .i64 a1, .int .i64 a2] w fun e w' => e = .returned (.bool r) ∧ Drawn0 w w' := by
 have H : (if a1 ≤ a0 then (some (decide (a0 ≤ a2))) else (some false)) = some r := h
 clear h
 by_cases c4 : a1 ≤ a0
 ·rw [if_pos c4] at H
  have c4b0 : decide (a1 ≤ a0) = true := decide_eq_true c4
  clear c4
  obtain rfl := Option.some.inj H
  go_enter Try.func52, Try.ntmps52
  go_wp2
  go_ret
  exact ⟨by first | rfl | (simp; done) | (simp [*]; done), by repeat (first | exact Drawn0.refl _ | apply Drawn0.step)⟩
 rw [if_neg c4] at H
 have c4b0 : decide (a1 ≤ a0) = false := decide_eq_false c4
 clear c4
 obtain rfl := Option.some.inj H
 go_enter Try.func52, Try.ntmps52
 go_wp2
 go_ret
 exact ⟨by first | rfl | (simp; done) | (simp [*]; done), by repeat (first | exact Drawn0.refl _ | apply Drawn0.step)⟩

/-! ### spec_l03Node: function 45 -/
def spec_l03Node.f (a0_0 : Int) (l0_1 : List (S76)) (a1 : Int) : Option (Bool) := (spec_l01In.f a1 0 (wrap64 (a0_0 - 1))).bind fun t102 => (some t102)
set_option maxHeartbeats 8000000 in
set_option maxRecDepth 100000 in
theorem spec_l03Node.calls (a0_0 : Int) (A0_1 : Option Addr) (c0_1 : Nat) (l0_1 : List (S76)) (a1 : Int) (r : Bool) (w : World) (hr0_1 : Kd.C k76 w A0_1 l0_1.length l0_1) (hc0_1 : l0_1.length ≤ c0_1) (h : spec_l03Node.f a0_0 l0_1 a1 = some r) :
  Calls Try.prog 45 #[.agg #[.int .i64 a0_0, .slice A0_1 l0_1.length c0_1], .int .i64 a1] w fun e w' => e = .returned (.bool r) ∧ Below w.heap.size w w' := by
 have hu30 := Try.underlying30
 have HR0_1 := Aside0.mk hr0_1
 have HC0_1 := Aside0.mk hc0_1
 clear hr0_1 hc0_1
 have HB := Aside0.mk (Below.refl w.heap.size w)
 have H : ((spec_l01In.f a1 0 (wrap64 (a0_0 - 1))).bind fun t102 => (some t102)) = some r := h
 clear h
 replace H := Option.bind_eq_some_iff.mp H
 obtain ⟨t102, A30, H⟩ := H
 have A3 := Aside0.mk A30
 clear A30
 obtain rfl := Option.some.inj H
 go_enter Try.func45, Try.ntmps45
 go_wp2_with (first | ((with_reducible refine gate_dst (N := 2) rfl ?_); refine box_event ?hg (N := 2) ?hd (cs := #[.int .i64 a0_0, .slice A0_1 l0_1.length c0_1]) (t := 30) ?hr ?_; (case hd => rfl); (case hg => rfl); (case hr => first | (go_simp; done) | (go_simp; rfl)); intro gb101 hg w4 hbox hb; have BK101 := Aside0.mk hbox; have GW101 := ge_ HB hg; have GE101 := ge_ HB hg; replace HB := at_ HB hb; clear hb hbox hg; have hcz5_0 := cz_ BK101 0 (.int .i64 a0_0); have hcz5_1 := cz_ BK101 1 (.slice A0_1 l0_1.length c0_1); have hfz5_0 := fz_ BK101 0; have hfz5_1 := fz_ BK101 1) | ((with_reducible refine gate_callee (f := 52) rfl ?_); refine gl_ (some 9) Try.func52 #[.int .i64 a1, .int .i64 0, .int .i64 (wrap64 (a0_0 - 1))] ?_; (with_reducible refine (spec_l01In.calls a1 0 (wrap64 (a0_0 - 1)) t102 _ A3.out).mono ?_); rintro e w' ⟨rfl, ⟨nd, rfl⟩⟩; refine ⟨_, rfl, ?_⟩))
 go_ret
 exact ⟨by first | rfl | (simp [errW_none, errW_some] <;> rfl) | (simp [*, errW_none, errW_some] <;> rfl), bw_⟩

/-! ### spec_GraphOk: function 25 -/
mutual
def spec_GraphOk.j0 : Nat → Bool → Int → List (S76) → Option (Bool)
 | 0, _, _, _ => none
 | k + 1, x15, x104000, x104001 => if x15 = true then (some false) else (spec_GraphOk.l0 k 0 x104000 x104001)
def spec_GraphOk.l0 : Nat → Int → Int → List (S76) → Option (Bool)
 | 0, _, _, _ => none
 | k + 1, x3, x104000, x104001 => if x3 < (x104001.length : Int) then (if 0 ≤ x3 then ((spec_l03Node.f x104000 x104001 ((rd_T76 x104001 x3).f0)).bind fun t107 => (if t107 = true then ((spec_l03Node.f x104000 x104001 ((rd_T76 x104001 x3).f1)).bind fun t108 => (if t108 = true then (if ((rd_T76 x104001 x3).f0) = ((rd_T76 x104001 x3).f1) then (spec_GraphOk.j2 k x3 true x104000 x104001 ((rd_T76 x104001 x3).f0) ((rd_T76 x104001 x3).f1) ((rd_T76 x104001 x3).f2)) else ((spec_l01In.f ((rd_T76 x104001 x3).f2) 1 1000).bind fun t109 => (spec_GraphOk.j2 k x3 (!t109) x104000 x104001 ((rd_T76 x104001 x3).f0) ((rd_T76 x104001 x3).f1) ((rd_T76 x104001 x3).f2)))) else (spec_GraphOk.j2 k x3 true x104000 x104001 ((rd_T76 x104001 x3).f0) ((rd_T76 x104001 x3).f1) ((rd_T76 x104001 x3).f2)))) else (spec_GraphOk.j2 k x3 true x104000 x104001 ((rd_T76 x104001 x3).f0) ((rd_T76 x104001 x3).f1) ((rd_T76 x104001 x3).f2)))) else (none)) else (some true)
def spec_GraphOk.j2 : Nat → Int → Bool → Int → List (S76) → Int → Int → Int → Option (Bool)
 | 0, _, _, _, _, _, _, _ => none
 | k + 1, x3, x52, x104000, x104001, x107000, x107001, x107002 => if x52 = true then (some false) else (if x3 > 0 then (if 0 ≤ (wrap64 (x3 - 1)) then (if (wrap64 (x3 - 1)) < (x104001.length : Int) then (if ((rd_T76 x104001 (wrap64 (x3 - 1))).f0) > x107000 then (some false) else (if ((rd_T76 x104001 (wrap64 (x3 - 1))).f0) = x107000 then (if ((rd_T76 x104001 (wrap64 (x3 - 1))).f1) ≥ x107001 then (some false) else (spec_GraphOk.l0 k (wrap64 (x3 + 1)) x104000 x104001)) else (spec_GraphOk.l0 k (wrap64 (x3 + 1)) x104000 x104001))) else (none)) else (none)) else (spec_GraphOk.l0 k (wrap64 (x3 + 1)) x104000 x104001))
end
def spec_GraphOk.f (k : Nat) (a0_0 : Int) (l0_1 : List (S76)) : Option (Bool) := (spec_l01In.f a0_0 1 10).bind fun t104 => (if t104 = true then (spec_GraphOk.j0 k (decide ((l0_1.length : Int) > 60)) a0_0 l0_1) else (spec_GraphOk.j0 k true a0_0 l0_1))
theorem spec_GraphOk.mono_l : ∀ k, (∀ y0 y1 y2, LeO (spec_GraphOk.j0 k y0 y1 y2) (spec_GraphOk.j0 (k + 1) y0 y1 y2)) ∧ (∀ y0 y1 y2, LeO (spec_GraphOk.l0 k y0 y1 y2) (spec_GraphOk.l0 (k + 1) y0 y1 y2)) ∧ (∀ y0 y1 y2 y3 y4 y5 y6, LeO (spec_GraphOk.j2 k y0 y1 y2 y3 y4 y5 y6) (spec_GraphOk.j2 (k + 1) y0 y1 y2 y3 y4 y5 y6))
 | 0 => ⟨fun _ _ _ r h => by simp [spec_GraphOk.j0] at h, fun _ _ _ r h => by simp [spec_GraphOk.l0] at h, fun _ _ _ _ _ _ _ r h => by simp [spec_GraphOk.j2] at h⟩
 | k + 1 => by
  obtain ⟨ih0, ih1, ih2⟩ := spec_GraphOk.mono_l k
  refine ⟨?_, ?_, ?_⟩
  ·intro y0 y1 y2
   unfold spec_GraphOk.j0
   repeat' first | (with_reducible first | exact ih0 _ _ _ | exact ih1 _ _ _ | exact ih2 _ _ _ _ _ _ _ | exact LeO.refl _ | exact LeO.none _ | refine LeO.ite ?_ ?_ | refine LeO.bind ?_ (fun _ => ?_)) | exact ih0 _ _ _ | exact ih1 _ _ _ | exact ih2 _ _ _ _ _ _ _ | exact LeO.none _ | refine LeO.ite ?_ ?_ | refine LeO.bind ?_ (fun _ => ?_)
  ·intro y0 y1 y2
   unfold spec_GraphOk.l0
   repeat' first | (with_reducible first | exact ih0 _ _ _ | exact ih1 _ _ _ | exact ih2 _ _ _ _ _ _ _ | exact LeO.refl _ | exact LeO.none _ | refine LeO.ite ?_ ?_ | refine LeO.bind ?_ (fun _ => ?_)) | exact ih0 _ _ _ | exact ih1 _ _ _ | exact ih2 _ _ _ _ _ _ _ | exact LeO.none _ | refine LeO.ite ?_ ?_ | refine LeO.bind ?_ (fun _ => ?_)
  ·intro y0 y1 y2 y3 y4 y5 y6
   unfold spec_GraphOk.j2
   repeat' first | (with_reducible first | exact ih0 _ _ _ | exact ih1 _ _ _ | exact ih2 _ _ _ _ _ _ _ | exact LeO.refl _ | exact LeO.none _ | refine LeO.ite ?_ ?_ | refine LeO.bind ?_ (fun _ => ?_)) | exact ih0 _ _ _ | exact ih1 _ _ _ | exact ih2 _ _ _ _ _ _ _ | exact LeO.none _ | refine LeO.ite ?_ ?_ | refine LeO.bind ?_ (fun _ => ?_)
theorem spec_GraphOk.mono : ∀ a0 a1 k, LeO (spec_GraphOk.f k a0 a1) (spec_GraphOk.f (k + 1) a0 a1) := by
 intro a0 a1 k
 obtain ⟨ih0, ih1, ih2⟩ := spec_GraphOk.mono_l k
 unfold spec_GraphOk.f
 repeat' first | (with_reducible first | exact ih0 _ _ _ | exact ih1 _ _ _ | exact ih2 _ _ _ _ _ _ _ | exact LeO.refl _ | exact LeO.none _ | refine LeO.ite ?_ ?_ | refine LeO.bind ?_ (fun _ => ?_)) | exact ih0 _ _ _ | exact ih1 _ _ _ | exact ih2 _ _ _ _ _ _ _ | exact LeO.none _ | refine LeO.ite ?_ ?_ | refine LeO.bind ?_ (fun _ => ?_)
set_option maxHeartbeats 8000000 in
set_option maxRecDepth 100000 in
theorem spec_GraphOk.calls (k : Nat) (a0_0 : Int) (A0_1 : Option Addr) (c0_1 : Nat) (l0_1 : List (S76)) (r : Bool) (w : World) (hr0_1 : Kd.C k76 w A0_1 l0_1.length l0_1) (hc0_1 : l0_1.length ≤ c0_1) (h : spec_GraphOk.f k a0_0 l0_1 = some r) :
  Calls Try.prog 25 #[.agg #[.int .i64 a0_0, .slice A0_1 l0_1.length c0_1]] w fun e w' => e = .returned (.bool r) ∧ Below w.heap.size w w' := by
 have hu30 := Try.underlying30
 have hu76 := Try.underlying76
 have HR0_1 := Aside0.mk hr0_1
 have HC0_1 := Aside0.mk hc0_1
 clear hr0_1 hc0_1
 have HB := Aside0.mk (Below.refl w.heap.size w)
 have H : ((spec_l01In.f a0_0 1 10).bind fun t104 => (if t104 = true then (spec_GraphOk.j0 k (decide ((l0_1.length : Int) > 60)) a0_0 l0_1) else (spec_GraphOk.j0 k true a0_0 l0_1))) = some r := h
 clear h
 have HC2 := Aside0.mk H
 clear H
 go_enter Try.func25, Try.ntmps25
 go_upto_region 1 with ((with_reducible refine gate_dst (N := 1) rfl ?_); refine box_event ?hg (N := 1) ?hd (cs := #[.int .i64 a0_0, .slice A0_1 l0_1.length c0_1]) (t := 30) ?hr ?_; (case hd => rfl); (case hg => rfl); (case hr => first | (go_simp; done) | (go_simp; rfl)); intro gb103 hg w3 hbox hb; have BK103 := Aside0.mk hbox; have GW103 := ge_ HB hg; have GE103 := ge_ HB hg; replace HB := at_ HB hb; clear hb hbox hg)
 (try simp only [Act.put, List.setIfInBounds_toArray, List.set_cons_zero, List.set_cons_succ])
 go_cut [15] (fun v15 wc => ∃ (kq : Nat) (x15_1 : Bool), v15 = .bool x15_1 ∧ Aside0 (spec_GraphOk.j0 kq x15_1 a0_0 l0_1 = some r) ∧ Aside0 (kq ≤ k) ∧ Aside0 (wc.heap[gb103]? = some (.cells #[.int .i64 a0_0, (.slice A0_1 l0_1.length c0_1)] 30 (0, 0))) ∧ Aside0 (Below w.heap.size w wc))
 case first =>
  have H := HC2.out
  clear HC2
  replace H := Option.bind_eq_some_iff.mp H
  obtain ⟨t104, A40, H⟩ := H
  have A4 := Aside0.mk A40
  clear A40
  by_cases c5 : t104 = true
  ·subst c5
   rw [if_pos rfl] at H
   have H' := Aside0.mk H
   clear H
   have hcz6_0 := cz_ BK103 0 (.int .i64 a0_0)
   have hcz6_1 := cz_ BK103 1 (.slice A0_1 l0_1.length c0_1)
   have hfz6_0 := fz_ BK103 0
   have hfz6_1 := fz_ BK103 1
   go_wp2_with ((with_reducible refine gate_callee (f := 52) rfl ?_); refine gl_ (some 8) Try.func52 #[.int .i64 a0_0, .int .i64 1, .int .i64 10] ?_; (with_reducible refine (spec_l01In.calls a0_0 1 10 true _ A4.out).mono ?_); rintro e w' ⟨rfl, ⟨nd, rfl⟩⟩; refine ⟨_, rfl, ?_⟩)
   go_meet
   case rel => exact ⟨_, (decide ((l0_1.length : Int) > 60)), er_, H', ⟨by first | omega | exact Nat.le_refl _⟩, ⟨bx_ BK103⟩, ⟨bw_⟩⟩
  replace c5 := Bool.eq_false_iff.mpr c5
  subst c5
  rw [if_neg (show ¬ (false = true) by decide)] at H
  have H' := Aside0.mk H
  clear H
  have hcz7_0 := cz_ BK103 0 (.int .i64 a0_0)
  have hcz7_1 := cz_ BK103 1 (.slice A0_1 l0_1.length c0_1)
  have hfz7_0 := fz_ BK103 0
  have hfz7_1 := fz_ BK103 1
  go_wp2_with ((with_reducible refine gate_callee (f := 52) rfl ?_); refine gl_ (some 8) Try.func52 #[.int .i64 a0_0, .int .i64 1, .int .i64 10] ?_; (with_reducible refine (spec_l01In.calls a0_0 1 10 false _ A4.out).mono ?_); rintro e w' ⟨rfl, ⟨nd, rfl⟩⟩; refine ⟨_, rfl, ?_⟩)
  go_meet
  case rel => exact ⟨_, (true), er_, H', ⟨by first | omega | exact Nat.le_refl _⟩, ⟨bx_ BK103⟩, ⟨bw_⟩⟩
 case rest =>
  clear HC2
  try clear c2
  try clear p2
  try clear c5
  try clear hcz6_0
  try clear hcz6_1
  try clear hcz7_0
  try clear hcz7_1
  try clear hfz6_0
  try clear hfz6_1
  try clear hfz7_0
  try clear hfz7_1
  obtain ⟨kq, x15_1, rfl, HA, HJ1, BK103, HB⟩ := hcut
  cases kq with
  | zero => exact absurd HA.out (by simp [spec_GraphOk.j0])
  | succ kj1 =>
   have H := HA.out
   clear HA
   simp only [spec_GraphOk.j0] at H
   by_cases c8 : x15_1 = true
   ·subst c8
    rw [if_pos rfl] at H
    obtain rfl := Option.some.inj H
    go_wp2
    go_ret
    exact ⟨by first | rfl | (simp [errW_none, errW_some] <;> rfl) | (simp [*, errW_none, errW_some] <;> rfl), bw_⟩
   replace c8 := Bool.eq_false_iff.mpr c8
   subst c8
   rw [if_neg (show ¬ (false = true) by decide)] at H
   have H' := Aside0.mk H
   clear H
   go_wp2
   go_loopg [3] kj1 (fun kq v3 w' => ∃ (x3_2 : Int), v3 = .int .i64 x3_2 ∧ Aside0 (spec_GraphOk.l0 kq x3_2 a0_0 l0_1 = some r) ∧ Aside0 (kq ≤ kj1) ∧ Aside0 (w'.heap[gb103]? = some (.cells #[.int .i64 a0_0, (.slice A0_1 l0_1.length c0_1)] 30 (0, 0))) ∧ Aside0 (Below w.heap.size w w'))
   case atStart => exact ⟨(0), er_, H', ⟨Nat.le_refl _⟩, ⟨bx_ BK103⟩, ⟨bw_⟩⟩
   case round =>
    clear H'
    try clear c2
    try clear p2
    try clear c5
    try clear c8
    try clear hcz6_0
    try clear hcz6_1
    try clear hcz7_0
    try clear hcz7_1
    try clear hfz6_0
    try clear hfz6_1
    try clear hfz7_0
    try clear hfz7_1
    try clear p2
    obtain ⟨x3_2, rfl, HA, HK2, BK103, HB⟩ := hrel
    cases gk with
    | zero => exact absurd HA.out (by simp [spec_GraphOk.l0])
    | succ k2 =>
     have H := HA.out
     clear HA
     simp only [spec_GraphOk.l0] at H
     by_cases c9 : x3_2 < (l0_1.length : Int)
     rotate_left
     ·rw [if_neg c9] at H
      have c9b0 : decide (x3_2 < (l0_1.length : Int)) = false := decide_eq_false c9
      clear c9
      obtain rfl := Option.some.inj H
      have hcz85_0 := cz_ BK103 0 (.int .i64 a0_0)
      have hcz85_1 := cz_ BK103 1 (.slice A0_1 l0_1.length c0_1)
      have hfz85_0 := fz_ BK103 0
      have hfz85_1 := fz_ BK103 1
      go_wp2
      go_ret
      exact ⟨by first | rfl | (simp [errW_none, errW_some] <;> rfl) | (simp [*, errW_none, errW_some] <;> rfl), bw_⟩
     rw [if_pos c9] at H
     have c9b0 : decide (x3_2 < (l0_1.length : Int)) = true := decide_eq_true c9
     clear c9
     obtain ⟨c10b0, H⟩ := iq_ H
     have HC11 := Aside0.mk H
     clear H
     have hcz12_0 := cz_ BK103 0 (.int .i64 a0_0)
     have hcz12_1 := cz_ BK103 1 (.slice A0_1 l0_1.length c0_1)
     have hfz12_0 := fz_ BK103 0
     have hfz12_1 := fz_ BK103 1
     have p105 : 0 ≤ (x3_2 : Int) := oa_
     have q105 : x3_2 < (l0_1.length : Int) := oa_
     obtain ⟨ad105, e105, hx105_0, hx105_1, hx105_2⟩ := at_T76 HR0_1.out x3_2 p105 q105
     cases e105
     replace hx105_0 := (HB.out.cell (World.block_lt_of_cell? w _ hx105_0)).trans hx105_0
     replace hx105_1 := (HB.out.cell (World.block_lt_of_cell? w _ hx105_1)).trans hx105_1
     replace hx105_2 := (HB.out.cell (World.block_lt_of_cell? w _ hx105_2)).trans hx105_2
     replace p105 := eq_true p105
     replace q105 := eq_true q105
     go_upto_region 7 with ((with_reducible refine gate_dst (N := 4) rfl ?_); refine box_event ?hg (N := 4) ?hd (cs := #[.int .i64 0, .int .i64 0, .int .i64 0]) (t := 76) ?hr ?_; (case hd => rfl); (case hg => rfl); (case hr => first | (go_simp; done) | (go_simp; rfl)); intro gb106 hg w13 hbox hb; have BK106 := Aside0.mk hbox; have GW106 := ge_ HB hg; have GE106 := ge_ HB hg; have NB103_106 := nl_ BK103 hg; have NB106_103 := ng_ BK103 hg; replace HB := at_ HB hb; replace BK103 := ab_ BK103 hb; clear hb hbox hg; have hnb14 := NB106_103.out; have hnc14 := NB103_106.out; have hcz15_0 := cz_ BK106 0 (.int .i64 0); have hcz15_1 := cz_ BK106 1 (.int .i64 0); have hcz15_2 := cz_ BK106 2 (.int .i64 0); have hfz15_0 := fz_ BK106 0; have hfz15_1 := fz_ BK106 1; have hfz15_2 := fz_ BK106 2)
     (try simp only [Act.put, List.setIfInBounds_toArray, List.set_cons_zero, List.set_cons_succ])
     go_cut [52] (fun v52 wc => ∃ (kq : Nat) (x52_10 : Bool), v52 = .bool x52_10 ∧ Aside0 (spec_GraphOk.j2 kq x3_2 x52_10 a0_0 l0_1 ((rd_T76 l0_1 x3_2).f0) ((rd_T76 l0_1 x3_2).f1) ((rd_T76 l0_1 x3_2).f2) = some r) ∧ Aside0 (kq ≤ k2) ∧ Aside0 (wc.heap[gb103]? = some (.cells #[.int .i64 a0_0, (.slice (some ad105) l0_1.length c0_1)] 30 (0, 0))) ∧ Aside0 (wc.heap[gb106]? = some (.cells #[.int .i64 ((rd_T76 l0_1 x3_2).f0), .int .i64 ((rd_T76 l0_1 x3_2).f1), .int .i64 ((rd_T76 l0_1 x3_2).f2)] 76 (0, 0))) ∧ Aside0 (Below w.heap.size w wc))
     case first =>
      have H := HC11.out
      clear HC11
      replace H := Option.bind_eq_some_iff.mp H
      obtain ⟨t107, A160, H⟩ := H
      have A16 := Aside0.mk A160
      clear A160
      by_cases c17 : t107 = true
      rotate_left
      ·replace c17 := Bool.eq_false_iff.mpr c17
       subst c17
       rw [if_neg (show ¬ (false = true) by decide)] at H
       have H' := Aside0.mk H
       clear H
       have hnb45 := NB103_106.out
       have hnc45 := NB106_103.out
       have hcz46_0 := cz_ BK103 0 (.int .i64 a0_0)
       have hcz46_1 := cz_ BK103 1 (.slice (some ad105) l0_1.length c0_1)
       have hfz46_0 := fz_ BK103 0
       have hfz46_1 := fz_ BK103 1
       have hcz47_0 := cz_ BK106 0 (.int .i64 0)
       have hcz47_1 := cz_ BK106 1 (.int .i64 0)
       have hcz47_2 := cz_ BK106 2 (.int .i64 0)
       have hfz47_0 := fz_ BK106 0
       have hfz47_1 := fz_ BK106 1
       have hfz47_2 := fz_ BK106 2
       go_wp2_with ((with_reducible refine gate_callee (f := 45) rfl ?_); refine gl_ (some 31) Try.func45 #[.agg #[.int .i64 a0_0, .slice (some ad105) l0_1.length c0_1], .int .i64 ((rd_T76 l0_1 x3_2).f0)] ?_; (with_reducible refine (spec_l03Node.calls a0_0 _ _ l0_1 ((rd_T76 l0_1 x3_2).f0) false _ ?side1 ?side2 A16.out).mono ?_); (case side1 => exact Kd.C_below HR0_1.out (bw_)); (case side2 => exact HC0_1.out); rintro e w48 ⟨rfl, hb⟩; refine ⟨_, rfl, ?_⟩; replace BK103 := bf_ BK103 NB103_106 hb; replace BK106 := Aside0.mk (blk_below (g := gb106) (o := .cells #[.int .i64 ((rd_T76 l0_1 x3_2).f0), .int .i64 ((rd_T76 l0_1 x3_2).f1), .int .i64 ((rd_T76 l0_1 x3_2).f2)] 76 (0, 0)) (by refine bd_ ?_; refine blk_put (cs := #[.int .i64 ((rd_T76 l0_1 x3_2).f0), .int .i64 ((rd_T76 l0_1 x3_2).f1), .int .i64 0]) ?_ 2 _ rfl; refine bd_ ?_; refine blk_put (cs := #[.int .i64 ((rd_T76 l0_1 x3_2).f0), .int .i64 0, .int .i64 0]) ?_ 1 _ rfl; refine bd_ ?_; refine blk_put (cs := #[.int .i64 0, .int .i64 0, .int .i64 0]) ?_ 0 _ rfl; refine bd_ ?_; exact BK106.out) hb); replace HB := at_ HB hb; (try clear hb); (try clear hb2); (try clear hk); (try clear hi))
       go_meet
       case rel => exact ⟨_, (true), er_, H', ⟨by have := HJ1.out; have := HK2.out; first | omega | exact Nat.le_refl _⟩, ⟨bx_ BK103⟩, ⟨bx_ BK106⟩, ⟨bw_⟩⟩
      subst c17
      rw [if_pos rfl] at H
      replace H := Option.bind_eq_some_iff.mp H
      obtain ⟨t108, A180, H⟩ := H
      have A18 := Aside0.mk A180
      clear A180
      by_cases c19 : t108 = true
      rotate_left
      ·replace c19 := Bool.eq_false_iff.mpr c19
       subst c19
       rw [if_neg (show ¬ (false = true) by decide)] at H
       have H' := Aside0.mk H
       clear H
       have hnb38 := NB103_106.out
       have hnc38 := NB106_103.out
       have hcz39_0 := cz_ BK103 0 (.int .i64 a0_0)
       have hcz39_1 := cz_ BK103 1 (.slice (some ad105) l0_1.length c0_1)
       have hfz39_0 := fz_ BK103 0
       have hfz39_1 := fz_ BK103 1
       have hcz40_0 := cz_ BK106 0 (.int .i64 0)
       have hcz40_1 := cz_ BK106 1 (.int .i64 0)
       have hcz40_2 := cz_ BK106 2 (.int .i64 0)
       have hfz40_0 := fz_ BK106 0
       have hfz40_1 := fz_ BK106 1
       have hfz40_2 := fz_ BK106 2
       go_wp2_with (first | ((with_reducible refine gate_callee (f := 45) rfl ?_); refine gl_ (some 31) Try.func45 #[.agg #[.int .i64 a0_0, .slice (some ad105) l0_1.length c0_1], .int .i64 ((rd_T76 l0_1 x3_2).f0)] ?_; (with_reducible refine (spec_l03Node.calls a0_0 _ _ l0_1 ((rd_T76 l0_1 x3_2).f0) true _ ?side1 ?side2 A16.out).mono ?_); (case side1 => exact Kd.C_below HR0_1.out (bw_)); (case side2 => exact HC0_1.out); rintro e w41 ⟨rfl, hb⟩; refine ⟨_, rfl, ?_⟩; replace BK103 := bf_ BK103 NB103_106 hb; replace BK106 := Aside0.mk (blk_below (g := gb106) (o := .cells #[.int .i64 ((rd_T76 l0_1 x3_2).f0), .int .i64 ((rd_T76 l0_1 x3_2).f1), .int .i64 ((rd_T76 l0_1 x3_2).f2)] 76 (0, 0)) (by refine bd_ ?_; refine blk_put (cs := #[.int .i64 ((rd_T76 l0_1 x3_2).f0), .int .i64 ((rd_T76 l0_1 x3_2).f1), .int .i64 0]) ?_ 2 _ rfl; refine bd_ ?_; refine blk_put (cs := #[.int .i64 ((rd_T76 l0_1 x3_2).f0), .int .i64 0, .int .i64 0]) ?_ 1 _ rfl; refine bd_ ?_; refine blk_put (cs := #[.int .i64 0, .int .i64 0, .int .i64 0]) ?_ 0 _ rfl; refine bd_ ?_; exact BK106.out) hb); replace HB := at_ HB hb; (try clear hb); (try clear hb2); (try clear hk); (try clear hi); have hcz42_0 := cz_ BK103 0 (.int .i64 a0_0); have hcz42_1 := cz_ BK103 1 (.slice (some ad105) l0_1.length c0_1); have hfz42_0 := fz_ BK103 0; have hfz42_1 := fz_ BK103 1; have hcz43_0 := cz_ BK106 0 (.int .i64 ((rd_T76 l0_1 x3_2).f0)); have hcz43_1 := cz_ BK106 1 (.int .i64 ((rd_T76 l0_1 x3_2).f1)); have hcz43_2 := cz_ BK106 2 (.int .i64 ((rd_T76 l0_1 x3_2).f2)); have hfz43_0 := fz_ BK106 0; have hfz43_1 := fz_ BK106 1; have hfz43_2 := fz_ BK106 2) | (go_at_call 45; (with_reducible refine (spec_l03Node.calls a0_0 _ _ l0_1 ((rd_T76 l0_1 x3_2).f1) false _ ?side1 ?side2 A18.out).mono ?_); (case side1 => exact cb_ HR0_1 HB); (case side2 => exact HC0_1.out); rintro e w44 ⟨rfl, hb⟩; replace BK103 := ab_ BK103 hb; replace BK106 := ab_ BK106 hb; replace HB := at_ HB hb; (try clear hb); (try clear hb2); (try clear hk); (try clear hi)))
       go_meet
       case rel => exact ⟨_, (true), er_, H', ⟨by have := HJ1.out; have := HK2.out; first | omega | exact Nat.le_refl _⟩, ⟨bx_ BK103⟩, ⟨bx_ BK106⟩, ⟨bw_⟩⟩
      subst c19
      rw [if_pos rfl] at H
      by_cases c20 : ((rd_T76 l0_1 x3_2).f0) = ((rd_T76 l0_1 x3_2).f1)
      ·rw [if_pos c20] at H
       have c20b0 : (((rd_T76 l0_1 x3_2).f0) == ((rd_T76 l0_1 x3_2).f1)) = true := beq_iff_eq.mpr c20
       have c20b1 : (((rd_T76 l0_1 x3_2).f0) != ((rd_T76 l0_1 x3_2).f1)) = false := bne_eq_false_iff_eq.mpr c20
       clear c20
       (first | rw [c20b0] | (simp only [i64_w, i32_w]; rw [c20b0]) | skip)
       have H' := Aside0.mk H
       clear H
       have hnb21 := NB103_106.out
       have hnc21 := NB106_103.out
       have hcz22_0 := cz_ BK103 0 (.int .i64 a0_0)
       have hcz22_1 := cz_ BK103 1 (.slice (some ad105) l0_1.length c0_1)
       have hfz22_0 := fz_ BK103 0
       have hfz22_1 := fz_ BK103 1
       have hcz23_0 := cz_ BK106 0 (.int .i64 0)
       have hcz23_1 := cz_ BK106 1 (.int .i64 0)
       have hcz23_2 := cz_ BK106 2 (.int .i64 0)
       have hfz23_0 := fz_ BK106 0
       have hfz23_1 := fz_ BK106 1
       have hfz23_2 := fz_ BK106 2
       go_wp2_with (first | ((with_reducible refine gate_callee (f := 45) rfl ?_); refine gl_ (some 31) Try.func45 #[.agg #[.int .i64 a0_0, .slice (some ad105) l0_1.length c0_1], .int .i64 ((rd_T76 l0_1 x3_2).f0)] ?_; (with_reducible refine (spec_l03Node.calls a0_0 _ _ l0_1 ((rd_T76 l0_1 x3_2).f0) true _ ?side1 ?side2 A16.out).mono ?_); (case side1 => exact Kd.C_below HR0_1.out (bw_)); (case side2 => exact HC0_1.out); rintro e w24 ⟨rfl, hb⟩; refine ⟨_, rfl, ?_⟩; replace BK103 := bf_ BK103 NB103_106 hb; replace BK106 := Aside0.mk (blk_below (g := gb106) (o := .cells #[.int .i64 ((rd_T76 l0_1 x3_2).f0), .int .i64 ((rd_T76 l0_1 x3_2).f1), .int .i64 ((rd_T76 l0_1 x3_2).f2)] 76 (0, 0)) (by refine bd_ ?_; refine blk_put (cs := #[.int .i64 ((rd_T76 l0_1 x3_2).f0), .int .i64 ((rd_T76 l0_1 x3_2).f1), .int .i64 0]) ?_ 2 _ rfl; refine bd_ ?_; refine blk_put (cs := #[.int .i64 ((rd_T76 l0_1 x3_2).f0), .int .i64 0, .int .i64 0]) ?_ 1 _ rfl; refine bd_ ?_; refine blk_put (cs := #[.int .i64 0, .int .i64 0, .int .i64 0]) ?_ 0 _ rfl; refine bd_ ?_; exact BK106.out) hb); replace HB := at_ HB hb; (try clear hb); (try clear hb2); (try clear hk); (try clear hi); have hcz25_0 := cz_ BK103 0 (.int .i64 a0_0); have hcz25_1 := cz_ BK103 1 (.slice (some ad105) l0_1.length c0_1); have hfz25_0 := fz_ BK103 0; have hfz25_1 := fz_ BK103 1; have hcz26_0 := cz_ BK106 0 (.int .i64 ((rd_T76 l0_1 x3_2).f0)); have hcz26_1 := cz_ BK106 1 (.int .i64 ((rd_T76 l0_1 x3_2).f1)); have hcz26_2 := cz_ BK106 2 (.int .i64 ((rd_T76 l0_1 x3_2).f2)); have hfz26_0 := fz_ BK106 0; have hfz26_1 := fz_ BK106 1; have hfz26_2 := fz_ BK106 2) | (go_at_call 45; (with_reducible refine (spec_l03Node.calls a0_0 _ _ l0_1 ((rd_T76 l0_1 x3_2).f1) true _ ?side1 ?side2 A18.out).mono ?_); (case side1 => exact cb_ HR0_1 HB); (case side2 => exact HC0_1.out); rintro e w27 ⟨rfl, hb⟩; replace BK103 := ab_ BK103 hb; replace BK106 := ab_ BK106 hb; replace HB := at_ HB hb; (try clear hb); (try clear hb2); (try clear hk); (try clear hi); have hcz28_0 := cz_ BK106 0 (.int .i64 ((rd_T76 l0_1 x3_2).f0)); have hcz28_1 := cz_ BK106 1 (.int .i64 ((rd_T76 l0_1 x3_2).f1)); have hcz28_2 := cz_ BK106 2 (.int .i64 ((rd_T76 l0_1 x3_2).f2)); have hfz28_0 := fz_ BK106 0; have hfz28_1 := fz_ BK106 1; have hfz28_2 := fz_ BK106 2))
       go_meet
       case rel => exact ⟨_, (true), er_, H', ⟨by have := HJ1.out; have := HK2.out; first | omega | exact Nat.le_refl _⟩, ⟨bx_ BK103⟩, ⟨bx_ BK106⟩, ⟨bw_⟩⟩
      rw [if_neg c20] at H
      have c20b0 : (((rd_T76 l0_1 x3_2).f0) == ((rd_T76 l0_1 x3_2).f1)) = false := beq_eq_false_iff_ne.mpr c20
      have c20b1 : (((rd_T76 l0_1 x3_2).f0) != ((rd_T76 l0_1 x3_2).f1)) = true := bne_iff_ne.mpr c20
      (first | rw [c20b0] | (simp only [i64_w, i32_w]; rw [c20b0]) | skip)
      replace H := Option.bind_eq_some_iff.mp H
      obtain ⟨t109, A290, H⟩ := H
      have A29 := Aside0.mk A290
      clear A290
      have H' := Aside0.mk H
      clear H
      have hnb30 := NB103_106.out
      have hnc30 := NB106_103.out
      have hcz31_0 := cz_ BK103 0 (.int .i64 a0_0)
      have hcz31_1 := cz_ BK103 1 (.slice (some ad105) l0_1.length c0_1)
      have hfz31_0 := fz_ BK103 0
      have hfz31_1 := fz_ BK103 1
      have hcz32_0 := cz_ BK106 0 (.int .i64 0)
      have hcz32_1 := cz_ BK106 1 (.int .i64 0)
      have hcz32_2 := cz_ BK106 2 (.int .i64 0)
      have hfz32_0 := fz_ BK106 0
      have hfz32_1 := fz_ BK106 1
      have hfz32_2 := fz_ BK106 2
      go_wp2_with (first | ((with_reducible refine gate_callee (f := 45) rfl ?_); refine gl_ (some 31) Try.func45 #[.agg #[.int .i64 a0_0, .slice (some ad105) l0_1.length c0_1], .int .i64 ((rd_T76 l0_1 x3_2).f0)] ?_; (with_reducible refine (spec_l03Node.calls a0_0 _ _ l0_1 ((rd_T76 l0_1 x3_2).f0) true _ ?side1 ?side2 A16.out).mono ?_); (case side1 => exact Kd.C_below HR0_1.out (bw_)); (case side2 => exact HC0_1.out); rintro e w33 ⟨rfl, hb⟩; refine ⟨_, rfl, ?_⟩; replace BK103 := bf_ BK103 NB103_106 hb; replace BK106 := Aside0.mk (blk_below (g := gb106) (o := .cells #[.int .i64 ((rd_T76 l0_1 x3_2).f0), .int .i64 ((rd_T76 l0_1 x3_2).f1), .int .i64 ((rd_T76 l0_1 x3_2).f2)] 76 (0, 0)) (by refine bd_ ?_; refine blk_put (cs := #[.int .i64 ((rd_T76 l0_1 x3_2).f0), .int .i64 ((rd_T76 l0_1 x3_2).f1), .int .i64 0]) ?_ 2 _ rfl; refine bd_ ?_; refine blk_put (cs := #[.int .i64 ((rd_T76 l0_1 x3_2).f0), .int .i64 0, .int .i64 0]) ?_ 1 _ rfl; refine bd_ ?_; refine blk_put (cs := #[.int .i64 0, .int .i64 0, .int .i64 0]) ?_ 0 _ rfl; refine bd_ ?_; exact BK106.out) hb); replace HB := at_ HB hb; (try clear hb); (try clear hb2); (try clear hk); (try clear hi); have hcz34_0 := cz_ BK103 0 (.int .i64 a0_0); have hcz34_1 := cz_ BK103 1 (.slice (some ad105) l0_1.length c0_1); have hfz34_0 := fz_ BK103 0; have hfz34_1 := fz_ BK103 1; have hcz35_0 := cz_ BK106 0 (.int .i64 ((rd_T76 l0_1 x3_2).f0)); have hcz35_1 := cz_ BK106 1 (.int .i64 ((rd_T76 l0_1 x3_2).f1)); have hcz35_2 := cz_ BK106 2 (.int .i64 ((rd_T76 l0_1 x3_2).f2)); have hfz35_0 := fz_ BK106 0; have hfz35_1 := fz_ BK106 1; have hfz35_2 := fz_ BK106 2) | (go_at_call 45; (with_reducible refine (spec_l03Node.calls a0_0 _ _ l0_1 ((rd_T76 l0_1 x3_2).f1) true _ ?side1 ?side2 A18.out).mono ?_); (case side1 => exact cb_ HR0_1 HB); (case side2 => exact HC0_1.out); rintro e w36 ⟨rfl, hb⟩; replace BK103 := ab_ BK103 hb; replace BK106 := ab_ BK106 hb; replace HB := at_ HB hb; (try clear hb); (try clear hb2); (try clear hk); (try clear hi); have hcz37_0 := cz_ BK106 0 (.int .i64 ((rd_T76 l0_1 x3_2).f0)); have hcz37_1 := cz_ BK106 1 (.int .i64 ((rd_T76 l0_1 x3_2).f1)); have hcz37_2 := cz_ BK106 2 (.int .i64 ((rd_T76 l0_1 x3_2).f2)); have hfz37_0 := fz_ BK106 0; have hfz37_1 := fz_ BK106 1; have hfz37_2 := fz_ BK106 2) | (go_at_call 52; (with_reducible refine (spec_l01In.calls ((rd_T76 l0_1 x3_2).f2) 1 1000 t109 _ A29.out).mono ?_); rintro e w' ⟨rfl, ⟨nd, rfl⟩⟩))
      go_meet
      case rel => exact ⟨_, (!t109), er_, H', ⟨by have := HJ1.out; have := HK2.out; first | omega | exact Nat.le_refl _⟩, ⟨bx_ BK103⟩, ⟨bx_ BK106⟩, ⟨bw_⟩⟩
     case rest =>
      clear HC11
      try clear c1
      try clear p1
      try clear q1
      try clear hx1
      try clear c2
      try clear p2
      try clear c3
      try clear c4
      try clear c5
      try clear c8
      try clear c9
      try clear c9b0
      try clear c10
      try clear c10b0
      try clear p10
      try clear q10
      try clear hx10
      try clear c14
      try clear c17
      try clear c19
      try clear c20
      try clear c20b0
      try clear c20b1
      try clear c21
      try clear c25
      try clear c30
      try clear c38
      try clear c45
      try clear hcz12_0
      try clear hcz12_1
      try clear hcz15_0
      try clear hcz15_1
      try clear hcz15_2
      try clear hcz22_0
      try clear hcz22_1
      try clear hcz23_0
      try clear hcz23_1
      try clear hcz23_2
      try clear hcz25_0
      try clear hcz25_1
      try clear hcz26_0
      try clear hcz26_1
      try clear hcz26_2
      try clear hcz28_0
      try clear hcz28_1
      try clear hcz28_2
      try clear hcz31_0
      try clear hcz31_1
      try clear hcz32_0
      try clear hcz32_1
      try clear hcz32_2
      try clear hcz34_0
      try clear hcz34_1
      try clear hcz35_0
      try clear hcz35_1
      try clear hcz35_2
      try clear hcz37_0
      try clear hcz37_1
      try clear hcz37_2
      try clear hcz39_0
      try clear hcz39_1
      try clear hcz40_0
      try clear hcz40_1
      try clear hcz40_2
      try clear hcz42_0
      try clear hcz42_1
      try clear hcz43_0
      try clear hcz43_1
      try clear hcz43_2
      try clear hcz46_0
      try clear hcz46_1
      try clear hcz47_0
      try clear hcz47_1
      try clear hcz47_2
      try clear hcz6_0
      try clear hcz6_1
      try clear hcz7_0
      try clear hcz7_1
      try clear hfz12_0
      try clear hfz12_1
      try clear hfz15_0
      try clear hfz15_1
      try clear hfz15_2
      try clear hfz22_0
      try clear hfz22_1
      try clear hfz23_0
      try clear hfz23_1
      try clear hfz23_2
      try clear hfz25_0
      try clear hfz25_1
      try clear hfz26_0
      try clear hfz26_1
      try clear hfz26_2
      try clear hfz28_0
      try clear hfz28_1
      try clear hfz28_2
      try clear hfz31_0
      try clear hfz31_1
      try clear hfz32_0
      try clear hfz32_1
      try clear hfz32_2
      try clear hfz34_0
      try clear hfz34_1
      try clear hfz35_0
      try clear hfz35_1
      try clear hfz35_2
      try clear hfz37_0
      try clear hfz37_1
      try clear hfz37_2
      try clear hfz39_0
      try clear hfz39_1
      try clear hfz40_0
      try clear hfz40_1
      try clear hfz40_2
      try clear hfz42_0
      try clear hfz42_1
      try clear hfz43_0
      try clear hfz43_1
      try clear hfz43_2
      try clear hfz46_0
      try clear hfz46_1
      try clear hfz47_0
      try clear hfz47_1
      try clear hfz47_2
      try clear hfz6_0
      try clear hfz6_1
      try clear hfz7_0
      try clear hfz7_1
      try clear hx105_0
      try clear hx105_1
      try clear hx105_2
      try clear p105
      try clear p2
      try clear q105
      obtain ⟨kq, x52_10, rfl, HA, HJ10, BK103, BK106, HB⟩ := hcut
      cases kq with
      | zero => exact absurd HA.out (by simp [spec_GraphOk.j2])
      | succ kj10 =>
       have H := HA.out
       clear HA
       simp only [spec_GraphOk.j2] at H
       by_cases c49 : x52_10 = true
       ·subst c49
        rw [if_pos rfl] at H
        obtain rfl := Option.some.inj H
        go_wp2
        go_ret
        exact ⟨by first | rfl | (simp [errW_none, errW_some] <;> rfl) | (simp [*, errW_none, errW_some] <;> rfl), bw_⟩
       replace c49 := Bool.eq_false_iff.mpr c49
       subst c49
       rw [if_neg (show ¬ (false = true) by decide)] at H
       by_cases c50 : x3_2 > 0
       rotate_left
       ·rw [if_neg c50] at H
        have c50b0 : decide (0 < x3_2) = false := decide_eq_false c50
        clear c50
        have H' := Aside0.mk H
        clear H
        go_wp2
        go_roundg kj10
        case measure => have := HJ1.out; have := HK2.out; have := HJ10.out; omega
        case rel => exact ⟨(wrap64 (x3_2 + 1)), er_, H', ⟨by have := HJ1.out; have := HK2.out; have := HJ10.out; omega⟩, ⟨bx_ BK103⟩, ⟨bw_⟩⟩
       rw [if_pos c50] at H
       have c50b0 : decide (0 < x3_2) = true := decide_eq_true c50
       clear c50
       obtain ⟨ji51, hji51⟩ : ∃ j_ : Int, (wrap64 (x3_2 - 1)) = j_ := ⟨_, rfl⟩
       first | rw [hji51] at H | simp only [hji51] at H
       have hji51w : (IntKind.i64.wrap (x3_2 - 1)) = ji51 := (i64_w _).trans hji51
       obtain ⟨c52b0, H⟩ := iq_ H
       obtain ⟨c53b0, H⟩ := iq_ H
       have Hh_ := Aside0.mk H
       clear H
       have hnb55 := NB103_106.out
       have hnc55 := NB106_103.out
       have hcz56_0 := cz_ BK103 0 (.int .i64 a0_0)
       have hcz56_1 := cz_ BK103 1 (.slice (some ad105) l0_1.length c0_1)
       have hfz56_0 := fz_ BK103 0
       have hfz56_1 := fz_ BK103 1
       have p110 : 0 ≤ ((ji51) : Int) := oa_
       have q110 : (ji51) < (l0_1.length : Int) := oa_
       obtain ⟨ad110, e110, hx110_0, hx110_1, hx110_2⟩ := at_T76 HR0_1.out (ji51) p110 q110
       obtain rfl : ad105 = ad110 := (by injection e110)
       replace hx110_0 := (HB.out.cell (World.block_lt_of_cell? w _ hx110_0)).trans hx110_0
       replace hx110_1 := (HB.out.cell (World.block_lt_of_cell? w _ hx110_1)).trans hx110_1
       replace hx110_2 := (HB.out.cell (World.block_lt_of_cell? w _ hx110_2)).trans hx110_2
       replace p110 := eq_true p110
       replace q110 := eq_true q110
       have H := Hh_.out
       clear Hh_
       by_cases c54 : ((rd_T76 l0_1 (ji51)).f0) > ((rd_T76 l0_1 x3_2).f0)
       ·rw [if_pos c54] at H
        have c54b0 : decide (((rd_T76 l0_1 x3_2).f0) < ((rd_T76 l0_1 (ji51)).f0)) = true := decide_eq_true c54
        clear c54
        obtain rfl := Option.some.inj H
        go_wp2_with ((with_reducible refine gate_dst (N := 5) rfl ?_); refine box_event ?hg (N := 5) ?hd (cs := #[.int .i64 0, .int .i64 0, .int .i64 0]) (t := 76) ?hr ?_; (case hd => rfl); (case hg => rfl); (case hr => first | (go_simp; done) | (go_simp; rfl)); intro gb111 hg w57 hbox hb; have BK111 := Aside0.mk hbox; have GW111 := ge_ HB hg; have GE111 := ge_ HB hg; have NB103_111 := nl_ BK103 hg; have NB111_103 := ng_ BK103 hg; have NB106_111 := nl_ BK106 hg; have NB111_106 := ng_ BK106 hg; replace HB := at_ HB hb; replace BK103 := ab_ BK103 hb; replace BK106 := ab_ BK106 hb; clear hb hbox hg; have hnb58 := NB111_103.out; have hnc58 := NB103_111.out; have hnb59 := NB111_106.out; have hnc59 := NB106_111.out; have hcz60_0 := cz_ BK111 0 (.int .i64 0); have hcz60_1 := cz_ BK111 1 (.int .i64 0); have hcz60_2 := cz_ BK111 2 (.int .i64 0); have hfz60_0 := fz_ BK111 0; have hfz60_1 := fz_ BK111 1; have hfz60_2 := fz_ BK111 2; have hcz61_0 := cz_ BK106 0 (.int .i64 ((rd_T76 l0_1 x3_2).f0)); have hcz61_1 := cz_ BK106 1 (.int .i64 ((rd_T76 l0_1 x3_2).f1)); have hcz61_2 := cz_ BK106 2 (.int .i64 ((rd_T76 l0_1 x3_2).f2)); have hfz61_0 := fz_ BK106 0; have hfz61_1 := fz_ BK106 1; have hfz61_2 := fz_ BK106 2)
        go_ret
        exact ⟨by first | rfl | (simp [errW_none, errW_some] <;> rfl) | (simp only [← hji51]; first | rfl | (simp [errW_none, errW_some] <;> rfl)) | (simp [*, errW_none, errW_some] <;> rfl), bw_⟩
       rw [if_neg c54] at H
       have c54b0 : decide (((rd_T76 l0_1 x3_2).f0) < ((rd_T76 l0_1 (ji51)).f0)) = false := decide_eq_false c54
       clear c54
       by_cases c62 : ((rd_T76 l0_1 (ji51)).f0) = ((rd_T76 l0_1 x3_2).f0)
       rotate_left
       ·rw [if_neg c62] at H
        have c62b0 : (((rd_T76 l0_1 (ji51)).f0) == ((rd_T76 l0_1 x3_2).f0)) = false := beq_eq_false_iff_ne.mpr c62
        have c62b1 : (((rd_T76 l0_1 (ji51)).f0) != ((rd_T76 l0_1 x3_2).f0)) = true := bne_iff_ne.mpr c62
        have H' := Aside0.mk H
        clear H
        go_wp2_with ((with_reducible refine gate_dst (N := 5) rfl ?_); refine box_event ?hg (N := 5) ?hd (cs := #[.int .i64 0, .int .i64 0, .int .i64 0]) (t := 76) ?hr ?_; (case hd => rfl); (case hg => rfl); (case hr => first | (go_simp; done) | (go_simp; rfl)); intro gb111 hg w80 hbox hb; have BK111 := Aside0.mk hbox; have GW111 := ge_ HB hg; have GE111 := ge_ HB hg; have NB103_111 := nl_ BK103 hg; have NB111_103 := ng_ BK103 hg; have NB106_111 := nl_ BK106 hg; have NB111_106 := ng_ BK106 hg; replace HB := at_ HB hb; replace BK103 := ab_ BK103 hb; replace BK106 := ab_ BK106 hb; clear hb hbox hg; have hnb81 := NB111_103.out; have hnc81 := NB103_111.out; have hnb82 := NB111_106.out; have hnc82 := NB106_111.out; have hcz83_0 := cz_ BK111 0 (.int .i64 0); have hcz83_1 := cz_ BK111 1 (.int .i64 0); have hcz83_2 := cz_ BK111 2 (.int .i64 0); have hfz83_0 := fz_ BK111 0; have hfz83_1 := fz_ BK111 1; have hfz83_2 := fz_ BK111 2; have hcz84_0 := cz_ BK106 0 (.int .i64 ((rd_T76 l0_1 x3_2).f0)); have hcz84_1 := cz_ BK106 1 (.int .i64 ((rd_T76 l0_1 x3_2).f1)); have hcz84_2 := cz_ BK106 2 (.int .i64 ((rd_T76 l0_1 x3_2).f2)); have hfz84_0 := fz_ BK106 0; have hfz84_1 := fz_ BK106 1; have hfz84_2 := fz_ BK106 2)
        go_roundg kj10
        case measure => have := HJ1.out; have := HK2.out; have := HJ10.out; omega
        case rel => exact ⟨(wrap64 (x3_2 + 1)), er_, H', ⟨by have := HJ1.out; have := HK2.out; have := HJ10.out; omega⟩, ⟨bc_ BK103⟩, ⟨bw_⟩⟩
       rw [if_pos c62] at H
       have c62b0 : (((rd_T76 l0_1 (ji51)).f0) == ((rd_T76 l0_1 x3_2).f0)) = true := beq_iff_eq.mpr c62
       have c62b1 : (((rd_T76 l0_1 (ji51)).f0) != ((rd_T76 l0_1 x3_2).f0)) = false := bne_eq_false_iff_eq.mpr c62
       clear c62
       by_cases c63 : ((rd_T76 l0_1 (ji51)).f1) ≥ ((rd_T76 l0_1 x3_2).f1)
       ·rw [if_pos c63] at H
        have c63b0 : decide (((rd_T76 l0_1 x3_2).f1) ≤ ((rd_T76 l0_1 (ji51)).f1)) = true := decide_eq_true c63
        clear c63
        obtain rfl := Option.some.inj H
        go_wp2_with ((with_reducible refine gate_dst (N := 5) rfl ?_); refine box_event ?hg (N := 5) ?hd (cs := #[.int .i64 0, .int .i64 0, .int .i64 0]) (t := 76) ?hr ?_; (case hd => rfl); (case hg => rfl); (case hr => first | (go_simp; done) | (go_simp; rfl)); intro gb111 hg w66 hbox hb; have BK111 := Aside0.mk hbox; have GW111 := ge_ HB hg; have GE111 := ge_ HB hg; have NB103_111 := nl_ BK103 hg; have NB111_103 := ng_ BK103 hg; have NB106_111 := nl_ BK106 hg; have NB111_106 := ng_ BK106 hg; replace HB := at_ HB hb; replace BK103 := ab_ BK103 hb; replace BK106 := ab_ BK106 hb; clear hb hbox hg; have hnb67 := NB111_103.out; have hnc67 := NB103_111.out; have hnb68 := NB111_106.out; have hnc68 := NB106_111.out; have hcz69_0 := cz_ BK111 0 (.int .i64 0); have hcz69_1 := cz_ BK111 1 (.int .i64 0); have hcz69_2 := cz_ BK111 2 (.int .i64 0); have hfz69_0 := fz_ BK111 0; have hfz69_1 := fz_ BK111 1; have hfz69_2 := fz_ BK111 2; have hcz70_0 := cz_ BK106 0 (.int .i64 ((rd_T76 l0_1 x3_2).f0)); have hcz70_1 := cz_ BK106 1 (.int .i64 ((rd_T76 l0_1 x3_2).f1)); have hcz70_2 := cz_ BK106 2 (.int .i64 ((rd_T76 l0_1 x3_2).f2)); have hfz70_0 := fz_ BK106 0; have hfz70_1 := fz_ BK106 1; have hfz70_2 := fz_ BK106 2)
        go_ret
        exact ⟨by first | rfl | (simp [errW_none, errW_some] <;> rfl) | (simp only [← hji51]; first | rfl | (simp [errW_none, errW_some] <;> rfl)) | (simp [*, errW_none, errW_some] <;> rfl), bw_⟩
       rw [if_neg c63] at H
       have c63b0 : decide (((rd_T76 l0_1 x3_2).f1) ≤ ((rd_T76 l0_1 (ji51)).f1)) = false := decide_eq_false c63
       clear c63
       have H' := Aside0.mk H
       clear H
       go_wp2_with ((with_reducible refine gate_dst (N := 5) rfl ?_); refine box_event ?hg (N := 5) ?hd (cs := #[.int .i64 0, .int .i64 0, .int .i64 0]) (t := 76) ?hr ?_; (case hd => rfl); (case hg => rfl); (case hr => first | (go_simp; done) | (go_simp; rfl)); intro gb111 hg w73 hbox hb; have BK111 := Aside0.mk hbox; have GW111 := ge_ HB hg; have GE111 := ge_ HB hg; have NB103_111 := nl_ BK103 hg; have NB111_103 := ng_ BK103 hg; have NB106_111 := nl_ BK106 hg; have NB111_106 := ng_ BK106 hg; replace HB := at_ HB hb; replace BK103 := ab_ BK103 hb; replace BK106 := ab_ BK106 hb; clear hb hbox hg; have hnb74 := NB111_103.out; have hnc74 := NB103_111.out; have hnb75 := NB111_106.out; have hnc75 := NB106_111.out; have hcz76_0 := cz_ BK111 0 (.int .i64 0); have hcz76_1 := cz_ BK111 1 (.int .i64 0); have hcz76_2 := cz_ BK111 2 (.int .i64 0); have hfz76_0 := fz_ BK111 0; have hfz76_1 := fz_ BK111 1; have hfz76_2 := fz_ BK111 2; have hcz77_0 := cz_ BK106 0 (.int .i64 ((rd_T76 l0_1 x3_2).f0)); have hcz77_1 := cz_ BK106 1 (.int .i64 ((rd_T76 l0_1 x3_2).f1)); have hcz77_2 := cz_ BK106 2 (.int .i64 ((rd_T76 l0_1 x3_2).f2)); have hfz77_0 := fz_ BK106 0; have hfz77_1 := fz_ BK106 1; have hfz77_2 := fz_ BK106 2)
       go_roundg kj10
       case measure => have := HJ1.out; have := HK2.out; have := HJ10.out; omega
       case rel => exact ⟨(wrap64 (x3_2 + 1)), er_, H', ⟨by have := HJ1.out; have := HK2.out; have := HJ10.out; omega⟩, ⟨bc_ BK103⟩, ⟨bw_⟩⟩

end Go.Proofs.Ythmahcohcphljaa.QFnShares
