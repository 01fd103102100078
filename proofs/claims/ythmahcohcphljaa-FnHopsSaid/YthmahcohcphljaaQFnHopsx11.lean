/- Contracts of functions that the law reaches: what each call returns and what it leaves in memory. Made by this session over the print of the kit. -/
import Derived.Test.YthmahcohcphljaaQFnHopsx0
import Derived.Test.YthmahcohcphljaaQFnHopsx6
import Derived.Test.YthmahcohcphljaaQFnHopsx10
namespace Go.Proofs.Ythmahcohcphljaa.QFnHops
open Go.RowKit Go.Proofs.YthmahcohcphljaaP.PrintWords Go.Proofs.YthmahcohcphljaaP.PrintLast Go.Proofs.YthmahcohcphljaaP.PrintMore
attribute [local go_sem] max2_int min2_int max_two min_two max_three min_three max_four min_four   -- for this text's walks alone
set_option linter.unusedVariables false
set_option linter.unusedSimpArgs false

/-! ### spec_GraphOk: function 25 -/
mutual
def spec_GraphOk.j0 : Nat → Bool → Int → List (S76) → Option (Bool)
 | 0, _, _, _ => none
 | k + 1, x15, x400000, x400001 => if x15 = true then (some false) else (spec_GraphOk.l0 k 0 x400000 x400001)
def spec_GraphOk.l0 : Nat → Int → Int → List (S76) → Option (Bool)
 | 0, _, _, _ => none
 | k + 1, x3, x400000, x400001 => if x3 < (x400001.length : Int) then (if 0 ≤ x3 then ((spec_l03Node.f x400000 x400001 ((rd_T76 x400001 x3).f0)).bind fun t403 => (if t403 = true then ((spec_l03Node.f x400000 x400001 ((rd_T76 x400001 x3).f1)).bind fun t404 => (if t404 = true then (if ((rd_T76 x400001 x3).f0) = ((rd_T76 x400001 x3).f1) then (spec_GraphOk.j2 k x3 true x400000 x400001 ((rd_T76 x400001 x3).f0) ((rd_T76 x400001 x3).f1) ((rd_T76 x400001 x3).f2)) else ((spec_l01In.f ((rd_T76 x400001 x3).f2) 1 1000).bind fun t405 => (spec_GraphOk.j2 k x3 (!t405) x400000 x400001 ((rd_T76 x400001 x3).f0) ((rd_T76 x400001 x3).f1) ((rd_T76 x400001 x3).f2)))) else (spec_GraphOk.j2 k x3 true x400000 x400001 ((rd_T76 x400001 x3).f0) ((rd_T76 x400001 x3).f1) ((rd_T76 x400001 x3).f2)))) else (spec_GraphOk.j2 k x3 true x400000 x400001 ((rd_T76 x400001 x3).f0) ((rd_T76 x400001 x3).f1) ((rd_T76 x400001 x3).f2)))) else (none)) else (some true)
def spec_GraphOk.j2 : Nat → Int → Bool → Int → List (S76) → Int → Int → Int → Option (Bool)
 | 0, _, _, _, _, _, _, _ => none
 | k + 1, x3, x52, x400000, x400001, x403000, x403001, x403002 => if x52 = true then (some false) else (if x3 > 0 then (if 0 ≤ (wrap64 (x3 - 1)) then (if (wrap64 (x3 - 1)) < (x400001.length : Int) then (if ((rd_T76 x400001 (wrap64 (x3 - 1))).f0) > x403000 then (some false) else (if ((rd_T76 x400001 (wrap64 (x3 - 1))).f0) = x403000 then (if ((rd_T76 x400001 (wrap64 (x3 - 1))).f1) ≥ x403001 then (some false) else (spec_GraphOk.l0 k (wrap64 (x3 + 1)) x400000 x400001)) else (spec_GraphOk.l0 k (wrap64 (x3 + 1)) x400000 x400001))) else (none)) else (none)) else (spec_GraphOk.l0 k (wrap64 (x3 + 1)) x400000 x400001))
end
def spec_GraphOk.f (k : Nat) (a0_0 : Int) (l0_1 : List (S76)) : Option (Bool) := (spec_l01In.f a0_0 1 10).bind fun t400 => (if t400 = true then (spec_GraphOk.j0 k (decide ((l0_1.length : Int) > 60)) a0_0 l0_1) else (spec_GraphOk.j0 k true a0_0 l0_1))
theorem spec_GraphOk.mono_l : ∀ k, (∀ y0 y1 y2, LeO (spec_GraphOk.j0 k y0 y1 y2) (spec_GraphOk.j0 (k + 1) y0 y1 y2)) ∧ (∀ y0 y1 y2, LeO (spec_GraphOk.l0 k y0 y1 y2) (spec_GraphOk.l0 (k + 1) y0 y1 y2)) ∧ (∀ y0 y1 y2 y3 y4 y5 y6, LeO (spec_GraphOk.j2 k y0 y1 y2 y3 y4 y5 y6) (spec_GraphOk.j2 (k + 1) y0 y1 y2 y3 y4 y5 y6))
 | 0 => ⟨fun _ _ _ r h => by simp [spec_GraphOk.j0] at h, fun _ _ _ r h => by simp [spec_GraphOk.l0] at h, fun _ _ _ _ _ _ _ r h => by simp [spec_GraphOk.j2] at h⟩
 | k + 1 => by
  obtain ⟨ih0, ih1, ih2⟩ := spec_GraphOk.mono_l k
  refine ⟨?_, ?_, ?_⟩
  ·intro y0 y1 y2
   unfold spec_GraphOk.j0
   repeat' first
   | (with_reducible exact ih0 _ _ _)
   | (with_reducible exact ih1 _ _ _)
   | (with_reducible exact ih2 _ _ _ _ _ _ _)
   | (with_reducible exact LeO.refl _)
   | (with_reducible exact LeO.none _)
   | (with_reducible refine LeO.ite ?_ ?_)
   | (with_reducible refine LeO.bind ?_ (fun _ => ?_))
   | exact ih0 _ _ _
   | exact ih1 _ _ _
   | exact ih2 _ _ _ _ _ _ _
   | exact LeO.none _
   | refine LeO.ite ?_ ?_
   | refine LeO.bind ?_ (fun _ => ?_)
  ·intro y0 y1 y2
   unfold spec_GraphOk.l0
   repeat' first
   | (with_reducible exact ih0 _ _ _)
   | (with_reducible exact ih1 _ _ _)
   | (with_reducible exact ih2 _ _ _ _ _ _ _)
   | (with_reducible exact LeO.refl _)
   | (with_reducible exact LeO.none _)
   | (with_reducible refine LeO.ite ?_ ?_)
   | (with_reducible refine LeO.bind ?_ (fun _ => ?_))
   | exact ih0 _ _ _
   | exact ih1 _ _ _
   | exact ih2 _ _ _ _ _ _ _
   | exact LeO.none _
   | refine LeO.ite ?_ ?_
   | refine LeO.bind ?_ (fun _ => ?_)
  ·intro y0 y1 y2 y3 y4 y5 y6
   unfold spec_GraphOk.j2
   repeat' first
   | (with_reducible exact ih0 _ _ _)
   | (with_reducible exact ih1 _ _ _)
   | (with_reducible exact ih2 _ _ _ _ _ _ _)
   | (with_reducible exact LeO.refl _)
   | (with_reducible exact LeO.none _)
   | (with_reducible refine LeO.ite ?_ ?_)
   | (with_reducible refine LeO.bind ?_ (fun _ => ?_))
   | exact ih0 _ _ _
   | exact ih1 _ _ _
   | exact ih2 _ _ _ _ _ _ _
   | exact LeO.none _
   | refine LeO.ite ?_ ?_
   | refine LeO.bind ?_ (fun _ => ?_)
theorem spec_GraphOk.mono : ∀ a0 a1 k, LeO (spec_GraphOk.f k a0 a1) (spec_GraphOk.f (k + 1) a0 a1) := by
 intro a0 a1 k
 obtain ⟨ih0, ih1, ih2⟩ := spec_GraphOk.mono_l k
 unfold spec_GraphOk.f
 repeat' first
   | (with_reducible exact ih0 _ _ _)
   | (with_reducible exact ih1 _ _ _)
   | (with_reducible exact ih2 _ _ _ _ _ _ _)
   | (with_reducible exact LeO.refl _)
   | (with_reducible exact LeO.none _)
   | (with_reducible refine LeO.ite ?_ ?_)
   | (with_reducible refine LeO.bind ?_ (fun _ => ?_))
   | exact ih0 _ _ _
   | exact ih1 _ _ _
   | exact ih2 _ _ _ _ _ _ _
   | exact LeO.none _
   | refine LeO.ite ?_ ?_
   | refine LeO.bind ?_ (fun _ => ?_)
set_option maxHeartbeats 8000000 in
set_option maxRecDepth 100000 in
theorem spec_GraphOk.calls (k : Nat) (a0_0 : Int) (A0_1 : Option Addr) (c0_1 : Nat) (l0_1 : List (S76)) (r : Bool) (w : World) (hr0_1 : Kd.C k76 w A0_1 l0_1.length l0_1) (hc0_1 : l0_1.length ≤ c0_1) (h : spec_GraphOk.f k a0_0 l0_1 = some r) :
  Calls Try.prog 25 #[.agg #[.int .i64 a0_0, .slice A0_1 l0_1.length c0_1]] w fun e w' => e = .returned (.bool r) ∧ Below w.heap.size w w' := by
 have hu30 := Try.underlying30
 have hu76 := Try.underlying76
 have HR0_1 := Aside0.mk hr0_1
 have HC0_1 := Aside0.mk hc0_1
 clear hr0_1 hc0_1
 have HB := Aside0.mk (Below.refl w.heap.size w)
 have H : ((spec_l01In.f a0_0 1 10).bind fun t400 => (if t400 = true then (spec_GraphOk.j0 k (decide ((l0_1.length : Int) > 60)) a0_0 l0_1) else (spec_GraphOk.j0 k true a0_0 l0_1))) = some r := h
 clear h
 have HC2 := Aside0.mk H
 clear H
 go_enter Try.func25, Try.ntmps25
 go_upto_region 1 with ((with_reducible refine gate_dst (N := 1) rfl ?_); refine box_event ?hg (N := 1) ?hd (cs := #[.int .i64 a0_0, .slice A0_1 l0_1.length c0_1]) (t := 30) ?hr ?_; (case hd => rfl); (case hg => rfl); (case hr => first | (go_simp; done) | (go_simp; rfl)); intro gb399 hg w3 hbox hb; have BK399 := Aside0.mk hbox; have GW399 := ge_ HB hg; have GE399 := ge_ HB hg; replace HB := at_ HB hb; clear hb hbox hg)
 (try simp only [Act.put, List.setIfInBounds_toArray, List.set_cons_zero, List.set_cons_succ])
 go_cut [15] (fun v15 wc => ∃ (kq : Nat) (x15_1 : Bool), v15 = .bool x15_1 ∧ Aside0 (spec_GraphOk.j0 kq x15_1 a0_0 l0_1 = some r) ∧ Aside0 (kq ≤ k) ∧ Aside0 (wc.heap[gb399]? = some (.cells #[.int .i64 a0_0, (.slice A0_1 l0_1.length c0_1)] 30 (0, 0))) ∧ Aside0 (Below w.heap.size w wc))
 case first =>
  have H := HC2.out
  clear HC2
  replace H := Option.bind_eq_some_iff.mp H
  obtain ⟨t400, A40, H⟩ := H
  have A4 := Aside0.mk A40
  clear A40
  by_cases c5 : t400 = true
  ·subst c5
   rw [if_pos rfl] at H
   have H' := Aside0.mk H
   clear H
   have hcz6_0 := cz_ BK399 0 (.int .i64 a0_0)
   have hcz6_1 := cz_ BK399 1 (.slice A0_1 l0_1.length c0_1)
   have hfz6_0 := blk_frozen BK399.out 0
   have hfz6_1 := blk_frozen BK399.out 1
   go_wp2_with ((with_reducible refine gate_callee (f := 52) rfl ?_); refine gl_ (some 8) Try.func52 #[.int .i64 a0_0, .int .i64 1, .int .i64 10] ?_; (with_reducible refine (spec_l01In.calls a0_0 1 10 true _ A4.out).mono ?_); rintro e w' ⟨rfl, ⟨nd, rfl⟩⟩; refine ⟨_, rfl, ?_⟩)
   go_meet
   case rel => exact ⟨_, (decide ((l0_1.length : Int) > 60)), (by first | rfl | (simp; done) | (simp [*]; done)), H', ⟨by first | omega | exact Nat.le_refl _⟩, ⟨bx_ BK399⟩, ⟨bw115_⟩⟩
  replace c5 := Bool.eq_false_iff.mpr c5
  subst c5
  rw [if_neg (show ¬ (false = true) by decide)] at H
  have H' := Aside0.mk H
  clear H
  have hcz7_0 := cz_ BK399 0 (.int .i64 a0_0)
  have hcz7_1 := cz_ BK399 1 (.slice A0_1 l0_1.length c0_1)
  have hfz7_0 := blk_frozen BK399.out 0
  have hfz7_1 := blk_frozen BK399.out 1
  go_wp2_with ((with_reducible refine gate_callee (f := 52) rfl ?_); refine gl_ (some 8) Try.func52 #[.int .i64 a0_0, .int .i64 1, .int .i64 10] ?_; (with_reducible refine (spec_l01In.calls a0_0 1 10 false _ A4.out).mono ?_); rintro e w' ⟨rfl, ⟨nd, rfl⟩⟩; refine ⟨_, rfl, ?_⟩)
  go_meet
  case rel => exact ⟨_, (true), (by first | rfl | (simp; done) | (simp [*]; done)), H', ⟨by first | omega | exact Nat.le_refl _⟩, ⟨bx_ BK399⟩, ⟨bw115_⟩⟩
 case rest =>
  clear HC2
  try clear c2
  try clear p2
  try clear c5
  try clear hcz6_0
  try clear hcz6_1
  try clear hcz7_0
  try clear hcz7_1
  try clear hfz6_0
  try clear hfz6_1
  try clear hfz7_0
  try clear hfz7_1
  obtain ⟨kq, x15_1, rfl, HA, HJ1, BK399, HB⟩ := hcut
  cases kq with
  | zero => exact absurd HA.out (by simp [spec_GraphOk.j0])
  | succ kj1 =>
   have H := HA.out
   clear HA
   simp only [spec_GraphOk.j0] at H
   by_cases c8 : x15_1 = true
   ·subst c8
    rw [if_pos rfl] at H
    obtain rfl := Option.some.inj H
    go_wp2
    go_ret
    exact ⟨by first | rfl | (simp [errW_none, errW_some] <;> rfl) | (simp [*, errW_none, errW_some] <;> rfl), bw115_⟩
   replace c8 := Bool.eq_false_iff.mpr c8
   subst c8
   rw [if_neg (show ¬ (false = true) by decide)] at H
   have H' := Aside0.mk H
   clear H
   go_wp2
   go_loopg [3] kj1 (fun kq v3 w' => ∃ (x3_2 : Int), v3 = .int .i64 x3_2 ∧ Aside0 (spec_GraphOk.l0 kq x3_2 a0_0 l0_1 = some r) ∧ Aside0 (kq ≤ kj1) ∧ Aside0 (w'.heap[gb399]? = some (.cells #[.int .i64 a0_0, (.slice A0_1 l0_1.length c0_1)] 30 (0, 0))) ∧ Aside0 (Below w.heap.size w w'))
   case atStart => exact ⟨(0), (by first | rfl | (simp; done) | (simp [*]; done)), H', ⟨Nat.le_refl _⟩, ⟨bx_ BK399⟩, ⟨bw115_⟩⟩
   case round =>
    clear H'
    try clear c2
    try clear p2
    try clear c5
    try clear c8
    try clear hcz6_0
    try clear hcz6_1
    try clear hcz7_0
    try clear hcz7_1
    try clear hfz6_0
    try clear hfz6_1
    try clear hfz7_0
    try clear hfz7_1
    try clear p2
    obtain ⟨x3_2, rfl, HA, HK2, BK399, HB⟩ := hrel
    cases gk with
    | zero => exact absurd HA.out (by simp [spec_GraphOk.l0])
    | succ k2 =>
     have H := HA.out
     clear HA
     simp only [spec_GraphOk.l0] at H
     by_cases c9 : x3_2 < (l0_1.length : Int)
     rotate_left
     ·rw [if_neg c9] at H
      have c9b0 : decide (x3_2 < (l0_1.length : Int)) = false := decide_eq_false c9
      clear c9
      obtain rfl := Option.some.inj H
      have hcz85_0 := cz_ BK399 0 (.int .i64 a0_0)
      have hcz85_1 := cz_ BK399 1 (.slice A0_1 l0_1.length c0_1)
      have hfz85_0 := blk_frozen BK399.out 0
      have hfz85_1 := blk_frozen BK399.out 1
      go_wp2
      go_ret
      exact ⟨by first | rfl | (simp [errW_none, errW_some] <;> rfl) | (simp [*, errW_none, errW_some] <;> rfl), bw115_⟩
     rw [if_pos c9] at H
     have c9b0 : decide (x3_2 < (l0_1.length : Int)) = true := decide_eq_true c9
     clear c9
     by_cases c10 : 0 ≤ x3_2
     rotate_left
     ·rw [if_neg c10] at H
      exact absurd H (by simp)
     rw [if_pos c10] at H
     have c10b0 : decide (0 ≤ x3_2) = true := decide_eq_true c10
     clear c10
     have HC11 := Aside0.mk H
     clear H
     have hcz12_0 := cz_ BK399 0 (.int .i64 a0_0)
     have hcz12_1 := cz_ BK399 1 (.slice A0_1 l0_1.length c0_1)
     have hfz12_0 := blk_frozen BK399.out 0
     have hfz12_1 := blk_frozen BK399.out 1
     have p401 : 0 ≤ (x3_2 : Int) := of_decide_eq_true (by first | (with_reducible assumption) | assumption)
     have q401 : x3_2 < (l0_1.length : Int) := of_decide_eq_true (by first | (with_reducible assumption) | assumption)
     obtain ⟨ad401, e401, hx401_0, hx401_1, hx401_2⟩ := at_T76 HR0_1.out x3_2 p401 q401
     cases e401
     replace hx401_0 := (HB.out.cell (World.block_lt_of_cell? w _ hx401_0)).trans hx401_0
     replace hx401_1 := (HB.out.cell (World.block_lt_of_cell? w _ hx401_1)).trans hx401_1
     replace hx401_2 := (HB.out.cell (World.block_lt_of_cell? w _ hx401_2)).trans hx401_2
     replace p401 := eq_true p401
     replace q401 := eq_true q401
     go_upto_region 7 with ((with_reducible refine gate_dst (N := 4) rfl ?_); refine box_event ?hg (N := 4) ?hd (cs := #[.int .i64 0, .int .i64 0, .int .i64 0]) (t := 76) ?hr ?_; (case hd => rfl); (case hg => rfl); (case hr => first | (go_simp; done) | (go_simp; rfl)); intro gb402 hg w13 hbox hb; have BK402 := Aside0.mk hbox; have GW402 := ge_ HB hg; have GE402 := ge_ HB hg; have NB399_402 := nl_ BK399 hg; have NB402_399 := ng_ BK399 hg; replace HB := at_ HB hb; replace BK399 := ab_ BK399 hb; clear hb hbox hg; have hnb14 := NB402_399.out; have hnc14 := NB399_402.out; have hcz15_0 := cz_ BK402 0 (.int .i64 0); have hcz15_1 := cz_ BK402 1 (.int .i64 0); have hcz15_2 := cz_ BK402 2 (.int .i64 0); have hfz15_0 := blk_frozen BK402.out 0; have hfz15_1 := blk_frozen BK402.out 1; have hfz15_2 := blk_frozen BK402.out 2)
     (try simp only [Act.put, List.setIfInBounds_toArray, List.set_cons_zero, List.set_cons_succ])
     go_cut [52] (fun v52 wc => ∃ (kq : Nat) (x52_10 : Bool), v52 = .bool x52_10 ∧ Aside0 (spec_GraphOk.j2 kq x3_2 x52_10 a0_0 l0_1 ((rd_T76 l0_1 x3_2).f0) ((rd_T76 l0_1 x3_2).f1) ((rd_T76 l0_1 x3_2).f2) = some r) ∧ Aside0 (kq ≤ k2) ∧ Aside0 (wc.heap[gb399]? = some (.cells #[.int .i64 a0_0, (.slice (some ad401) l0_1.length c0_1)] 30 (0, 0))) ∧ Aside0 (wc.heap[gb402]? = some (.cells #[.int .i64 ((rd_T76 l0_1 x3_2).f0), .int .i64 ((rd_T76 l0_1 x3_2).f1), .int .i64 ((rd_T76 l0_1 x3_2).f2)] 76 (0, 0))) ∧ Aside0 (Below w.heap.size w wc))
     case first =>
      have H := HC11.out
      clear HC11
      replace H := Option.bind_eq_some_iff.mp H
      obtain ⟨t403, A160, H⟩ := H
      have A16 := Aside0.mk A160
      clear A160
      by_cases c17 : t403 = true
      rotate_left
      ·replace c17 := Bool.eq_false_iff.mpr c17
       subst c17
       rw [if_neg (show ¬ (false = true) by decide)] at H
       have H' := Aside0.mk H
       clear H
       have hnb45 := NB399_402.out
       have hnc45 := NB402_399.out
       have hcz46_0 := cz_ BK399 0 (.int .i64 a0_0)
       have hcz46_1 := cz_ BK399 1 (.slice (some ad401) l0_1.length c0_1)
       have hfz46_0 := blk_frozen BK399.out 0
       have hfz46_1 := blk_frozen BK399.out 1
       have hcz47_0 := cz_ BK402 0 (.int .i64 0)
       have hcz47_1 := cz_ BK402 1 (.int .i64 0)
       have hcz47_2 := cz_ BK402 2 (.int .i64 0)
       have hfz47_0 := blk_frozen BK402.out 0
       have hfz47_1 := blk_frozen BK402.out 1
       have hfz47_2 := blk_frozen BK402.out 2
       go_wp2_with ((with_reducible refine gate_callee (f := 45) rfl ?_); refine gl_ (some 31) Try.func45 #[.agg #[.int .i64 a0_0, .slice (some ad401) l0_1.length c0_1], .int .i64 ((rd_T76 l0_1 x3_2).f0)] ?_; (with_reducible refine (spec_l03Node.calls a0_0 _ _ l0_1 ((rd_T76 l0_1 x3_2).f0) false _ ?side1 ?side2 A16.out).mono ?_); (case side1 => exact Kd.C_below HR0_1.out (bw115_)); (case side2 => exact HC0_1.out); rintro e w48 ⟨rfl, hb⟩; refine ⟨_, rfl, ?_⟩; replace BK399 := bf_ BK399 NB399_402 hb; replace BK402 := Aside0.mk (blk_below (g := gb402) (o := .cells #[.int .i64 ((rd_T76 l0_1 x3_2).f0), .int .i64 ((rd_T76 l0_1 x3_2).f1), .int .i64 ((rd_T76 l0_1 x3_2).f2)] 76 (0, 0)) (by (with_reducible repeat (first | refine blk_drewN ?_ _ | refine blk_drew ?_ | refine blk_alloc ?_ _)); refine blk_put (cs := #[.int .i64 ((rd_T76 l0_1 x3_2).f0), .int .i64 ((rd_T76 l0_1 x3_2).f1), .int .i64 0]) ?_ 2 _ rfl; (with_reducible repeat (first | refine blk_drewN ?_ _ | refine blk_drew ?_ | refine blk_alloc ?_ _)); refine blk_put (cs := #[.int .i64 ((rd_T76 l0_1 x3_2).f0), .int .i64 0, .int .i64 0]) ?_ 1 _ rfl; (with_reducible repeat (first | refine blk_drewN ?_ _ | refine blk_drew ?_ | refine blk_alloc ?_ _)); refine blk_put (cs := #[.int .i64 0, .int .i64 0, .int .i64 0]) ?_ 0 _ rfl; (with_reducible repeat (first | refine blk_drewN ?_ _ | refine blk_drew ?_ | refine blk_alloc ?_ _)); exact BK402.out) hb); replace HB := at_ HB hb; (try clear hb); (try clear hb2); (try clear hk); (try clear hi))
       go_meet
       case rel => exact ⟨_, (true), (by first | rfl | (simp; done) | (simp [*]; done)), H', ⟨by have := HJ1.out; have := HK2.out; first | omega | exact Nat.le_refl _⟩, ⟨bx_ BK399⟩, ⟨bx_ BK402⟩, ⟨bw115_⟩⟩
      subst c17
      rw [if_pos rfl] at H
      replace H := Option.bind_eq_some_iff.mp H
      obtain ⟨t404, A180, H⟩ := H
      have A18 := Aside0.mk A180
      clear A180
      by_cases c19 : t404 = true
      rotate_left
      ·replace c19 := Bool.eq_false_iff.mpr c19
       subst c19
       rw [if_neg (show ¬ (false = true) by decide)] at H
       have H' := Aside0.mk H
       clear H
       have hnb38 := NB399_402.out
       have hnc38 := NB402_399.out
       have hcz39_0 := cz_ BK399 0 (.int .i64 a0_0)
       have hcz39_1 := cz_ BK399 1 (.slice (some ad401) l0_1.length c0_1)
       have hfz39_0 := blk_frozen BK399.out 0
       have hfz39_1 := blk_frozen BK399.out 1
       have hcz40_0 := cz_ BK402 0 (.int .i64 0)
       have hcz40_1 := cz_ BK402 1 (.int .i64 0)
       have hcz40_2 := cz_ BK402 2 (.int .i64 0)
       have hfz40_0 := blk_frozen BK402.out 0
       have hfz40_1 := blk_frozen BK402.out 1
       have hfz40_2 := blk_frozen BK402.out 2
       go_wp2_with (first | ((with_reducible refine gate_callee (f := 45) rfl ?_); refine gl_ (some 31) Try.func45 #[.agg #[.int .i64 a0_0, .slice (some ad401) l0_1.length c0_1], .int .i64 ((rd_T76 l0_1 x3_2).f0)] ?_; (with_reducible refine (spec_l03Node.calls a0_0 _ _ l0_1 ((rd_T76 l0_1 x3_2).f0) true _ ?side1 ?side2 A16.out).mono ?_); (case side1 => exact Kd.C_below HR0_1.out (bw115_)); (case side2 => exact HC0_1.out); rintro e w41 ⟨rfl, hb⟩; refine ⟨_, rfl, ?_⟩; replace BK399 := bf_ BK399 NB399_402 hb; replace BK402 := Aside0.mk (blk_below (g := gb402) (o := .cells #[.int .i64 ((rd_T76 l0_1 x3_2).f0), .int .i64 ((rd_T76 l0_1 x3_2).f1), .int .i64 ((rd_T76 l0_1 x3_2).f2)] 76 (0, 0)) (by (with_reducible repeat (first | refine blk_drewN ?_ _ | refine blk_drew ?_ | refine blk_alloc ?_ _)); refine blk_put (cs := #[.int .i64 ((rd_T76 l0_1 x3_2).f0), .int .i64 ((rd_T76 l0_1 x3_2).f1), .int .i64 0]) ?_ 2 _ rfl; (with_reducible repeat (first | refine blk_drewN ?_ _ | refine blk_drew ?_ | refine blk_alloc ?_ _)); refine blk_put (cs := #[.int .i64 ((rd_T76 l0_1 x3_2).f0), .int .i64 0, .int .i64 0]) ?_ 1 _ rfl; (with_reducible repeat (first | refine blk_drewN ?_ _ | refine blk_drew ?_ | refine blk_alloc ?_ _)); refine blk_put (cs := #[.int .i64 0, .int .i64 0, .int .i64 0]) ?_ 0 _ rfl; (with_reducible repeat (first | refine blk_drewN ?_ _ | refine blk_drew ?_ | refine blk_alloc ?_ _)); exact BK402.out) hb); replace HB := at_ HB hb; (try clear hb); (try clear hb2); (try clear hk); (try clear hi); have hcz42_0 := cz_ BK399 0 (.int .i64 a0_0); have hcz42_1 := cz_ BK399 1 (.slice (some ad401) l0_1.length c0_1); have hfz42_0 := blk_frozen BK399.out 0; have hfz42_1 := blk_frozen BK399.out 1; have hcz43_0 := cz_ BK402 0 (.int .i64 ((rd_T76 l0_1 x3_2).f0)); have hcz43_1 := cz_ BK402 1 (.int .i64 ((rd_T76 l0_1 x3_2).f1)); have hcz43_2 := cz_ BK402 2 (.int .i64 ((rd_T76 l0_1 x3_2).f2)); have hfz43_0 := blk_frozen BK402.out 0; have hfz43_1 := blk_frozen BK402.out 1; have hfz43_2 := blk_frozen BK402.out 2) | (go_at_call 45; (with_reducible refine (spec_l03Node.calls a0_0 _ _ l0_1 ((rd_T76 l0_1 x3_2).f1) false _ ?side1 ?side2 A18.out).mono ?_); (case side1 => exact cb_ HR0_1 HB); (case side2 => exact HC0_1.out); rintro e w44 ⟨rfl, hb⟩; replace BK399 := ab_ BK399 hb; replace BK402 := ab_ BK402 hb; replace HB := at_ HB hb; (try clear hb); (try clear hb2); (try clear hk); (try clear hi)))
       go_meet
       case rel => exact ⟨_, (true), (by first | rfl | (simp; done) | (simp [*]; done)), H', ⟨by have := HJ1.out; have := HK2.out; first | omega | exact Nat.le_refl _⟩, ⟨bx_ BK399⟩, ⟨bx_ BK402⟩, ⟨bw115_⟩⟩
      subst c19
      rw [if_pos rfl] at H
      by_cases c20 : ((rd_T76 l0_1 x3_2).f0) = ((rd_T76 l0_1 x3_2).f1)
      ·rw [if_pos c20] at H
       have c20b0 : (((rd_T76 l0_1 x3_2).f0) == ((rd_T76 l0_1 x3_2).f1)) = true := beq_iff_eq.mpr c20
       have c20b1 : (((rd_T76 l0_1 x3_2).f0) != ((rd_T76 l0_1 x3_2).f1)) = false := bne_eq_false_iff_eq.mpr c20
       clear c20
       (first | rw [c20b0] | (simp only [i64_w, i32_w]; rw [c20b0]) | skip)
       have H' := Aside0.mk H
       clear H
       have hnb21 := NB399_402.out
       have hnc21 := NB402_399.out
       have hcz22_0 := cz_ BK399 0 (.int .i64 a0_0)
       have hcz22_1 := cz_ BK399 1 (.slice (some ad401) l0_1.length c0_1)
       have hfz22_0 := blk_frozen BK399.out 0
       have hfz22_1 := blk_frozen BK399.out 1
       have hcz23_0 := cz_ BK402 0 (.int .i64 0)
       have hcz23_1 := cz_ BK402 1 (.int .i64 0)
       have hcz23_2 := cz_ BK402 2 (.int .i64 0)
       have hfz23_0 := blk_frozen BK402.out 0
       have hfz23_1 := blk_frozen BK402.out 1
       have hfz23_2 := blk_frozen BK402.out 2
       go_wp2_with (first | ((with_reducible refine gate_callee (f := 45) rfl ?_); refine gl_ (some 31) Try.func45 #[.agg #[.int .i64 a0_0, .slice (some ad401) l0_1.length c0_1], .int .i64 ((rd_T76 l0_1 x3_2).f0)] ?_; (with_reducible refine (spec_l03Node.calls a0_0 _ _ l0_1 ((rd_T76 l0_1 x3_2).f0) true _ ?side1 ?side2 A16.out).mono ?_); (case side1 => exact Kd.C_below HR0_1.out (bw115_)); (case side2 => exact HC0_1.out); rintro e w24 ⟨rfl, hb⟩; refine ⟨_, rfl, ?_⟩; replace BK399 := bf_ BK399 NB399_402 hb; replace BK402 := Aside0.mk (blk_below (g := gb402) (o := .cells #[.int .i64 ((rd_T76 l0_1 x3_2).f0), .int .i64 ((rd_T76 l0_1 x3_2).f1), .int .i64 ((rd_T76 l0_1 x3_2).f2)] 76 (0, 0)) (by (with_reducible repeat (first | refine blk_drewN ?_ _ | refine blk_drew ?_ | refine blk_alloc ?_ _)); refine blk_put (cs := #[.int .i64 ((rd_T76 l0_1 x3_2).f0), .int .i64 ((rd_T76 l0_1 x3_2).f1), .int .i64 0]) ?_ 2 _ rfl; (with_reducible repeat (first | refine blk_drewN ?_ _ | refine blk_drew ?_ | refine blk_alloc ?_ _)); refine blk_put (cs := #[.int .i64 ((rd_T76 l0_1 x3_2).f0), .int .i64 0, .int .i64 0]) ?_ 1 _ rfl; (with_reducible repeat (first | refine blk_drewN ?_ _ | refine blk_drew ?_ | refine blk_alloc ?_ _)); refine blk_put (cs := #[.int .i64 0, .int .i64 0, .int .i64 0]) ?_ 0 _ rfl; (with_reducible repeat (first | refine blk_drewN ?_ _ | refine blk_drew ?_ | refine blk_alloc ?_ _)); exact BK402.out) hb); replace HB := at_ HB hb; (try clear hb); (try clear hb2); (try clear hk); (try clear hi); have hcz25_0 := cz_ BK399 0 (.int .i64 a0_0); have hcz25_1 := cz_ BK399 1 (.slice (some ad401) l0_1.length c0_1); have hfz25_0 := blk_frozen BK399.out 0; have hfz25_1 := blk_frozen BK399.out 1; have hcz26_0 := cz_ BK402 0 (.int .i64 ((rd_T76 l0_1 x3_2).f0)); have hcz26_1 := cz_ BK402 1 (.int .i64 ((rd_T76 l0_1 x3_2).f1)); have hcz26_2 := cz_ BK402 2 (.int .i64 ((rd_T76 l0_1 x3_2).f2)); have hfz26_0 := blk_frozen BK402.out 0; have hfz26_1 := blk_frozen BK402.out 1; have hfz26_2 := blk_frozen BK402.out 2) | (go_at_call 45; (with_reducible refine (spec_l03Node.calls a0_0 _ _ l0_1 ((rd_T76 l0_1 x3_2).f1) true _ ?side1 ?side2 A18.out).mono ?_); (case side1 => exact cb_ HR0_1 HB); (case side2 => exact HC0_1.out); rintro e w27 ⟨rfl, hb⟩; replace BK399 := ab_ BK399 hb; replace BK402 := ab_ BK402 hb; replace HB := at_ HB hb; (try clear hb); (try clear hb2); (try clear hk); (try clear hi); have hcz28_0 := cz_ BK402 0 (.int .i64 ((rd_T76 l0_1 x3_2).f0)); have hcz28_1 := cz_ BK402 1 (.int .i64 ((rd_T76 l0_1 x3_2).f1)); have hcz28_2 := cz_ BK402 2 (.int .i64 ((rd_T76 l0_1 x3_2).f2)); have hfz28_0 := blk_frozen BK402.out 0; have hfz28_1 := blk_frozen BK402.out 1; have hfz28_2 := blk_frozen BK402.out 2))
       go_meet
       case rel => exact ⟨_, (true), (by first | rfl | (simp; done) | (simp [*]; done)), H', ⟨by have := HJ1.out; have := HK2.out; first | omega | exact Nat.le_refl _⟩, ⟨bx_ BK399⟩, ⟨bx_ BK402⟩, ⟨bw115_⟩⟩
      rw [if_neg c20] at H
      have c20b0 : (((rd_T76 l0_1 x3_2).f0) == ((rd_T76 l0_1 x3_2).f1)) = false := beq_eq_false_iff_ne.mpr c20
      have c20b1 : (((rd_T76 l0_1 x3_2).f0) != ((rd_T76 l0_1 x3_2).f1)) = true := bne_iff_ne.mpr c20
      (first | rw [c20b0] | (simp only [i64_w, i32_w]; rw [c20b0]) | skip)
      replace H := Option.bind_eq_some_iff.mp H
      obtain ⟨t405, A290, H⟩ := H
      have A29 := Aside0.mk A290
      clear A290
      have H' := Aside0.mk H
      clear H
      have hnb30 := NB399_402.out
      have hnc30 := NB402_399.out
      have hcz31_0 := cz_ BK399 0 (.int .i64 a0_0)
      have hcz31_1 := cz_ BK399 1 (.slice (some ad401) l0_1.length c0_1)
      have hfz31_0 := blk_frozen BK399.out 0
      have hfz31_1 := blk_frozen BK399.out 1
      have hcz32_0 := cz_ BK402 0 (.int .i64 0)
      have hcz32_1 := cz_ BK402 1 (.int .i64 0)
      have hcz32_2 := cz_ BK402 2 (.int .i64 0)
      have hfz32_0 := blk_frozen BK402.out 0
      have hfz32_1 := blk_frozen BK402.out 1
      have hfz32_2 := blk_frozen BK402.out 2
      go_wp2_with (first | ((with_reducible refine gate_callee (f := 45) rfl ?_); refine gl_ (some 31) Try.func45 #[.agg #[.int .i64 a0_0, .slice (some ad401) l0_1.length c0_1], .int .i64 ((rd_T76 l0_1 x3_2).f0)] ?_; (with_reducible refine (spec_l03Node.calls a0_0 _ _ l0_1 ((rd_T76 l0_1 x3_2).f0) true _ ?side1 ?side2 A16.out).mono ?_); (case side1 => exact Kd.C_below HR0_1.out (bw115_)); (case side2 => exact HC0_1.out); rintro e w33 ⟨rfl, hb⟩; refine ⟨_, rfl, ?_⟩; replace BK399 := bf_ BK399 NB399_402 hb; replace BK402 := Aside0.mk (blk_below (g := gb402) (o := .cells #[.int .i64 ((rd_T76 l0_1 x3_2).f0), .int .i64 ((rd_T76 l0_1 x3_2).f1), .int .i64 ((rd_T76 l0_1 x3_2).f2)] 76 (0, 0)) (by (with_reducible repeat (first | refine blk_drewN ?_ _ | refine blk_drew ?_ | refine blk_alloc ?_ _)); refine blk_put (cs := #[.int .i64 ((rd_T76 l0_1 x3_2).f0), .int .i64 ((rd_T76 l0_1 x3_2).f1), .int .i64 0]) ?_ 2 _ rfl; (with_reducible repeat (first | refine blk_drewN ?_ _ | refine blk_drew ?_ | refine blk_alloc ?_ _)); refine blk_put (cs := #[.int .i64 ((rd_T76 l0_1 x3_2).f0), .int .i64 0, .int .i64 0]) ?_ 1 _ rfl; (with_reducible repeat (first | refine blk_drewN ?_ _ | refine blk_drew ?_ | refine blk_alloc ?_ _)); refine blk_put (cs := #[.int .i64 0, .int .i64 0, .int .i64 0]) ?_ 0 _ rfl; (with_reducible repeat (first | refine blk_drewN ?_ _ | refine blk_drew ?_ | refine blk_alloc ?_ _)); exact BK402.out) hb); replace HB := at_ HB hb; (try clear hb); (try clear hb2); (try clear hk); (try clear hi); have hcz34_0 := cz_ BK399 0 (.int .i64 a0_0); have hcz34_1 := cz_ BK399 1 (.slice (some ad401) l0_1.length c0_1); have hfz34_0 := blk_frozen BK399.out 0; have hfz34_1 := blk_frozen BK399.out 1; have hcz35_0 := cz_ BK402 0 (.int .i64 ((rd_T76 l0_1 x3_2).f0)); have hcz35_1 := cz_ BK402 1 (.int .i64 ((rd_T76 l0_1 x3_2).f1)); have hcz35_2 := cz_ BK402 2 (.int .i64 ((rd_T76 l0_1 x3_2).f2)); have hfz35_0 := blk_frozen BK402.out 0; have hfz35_1 := blk_frozen BK402.out 1; have hfz35_2 := blk_frozen BK402.out 2) | (go_at_call 45; (with_reducible refine (spec_l03Node.calls a0_0 _ _ l0_1 ((rd_T76 l0_1 x3_2).f1) true _ ?side1 ?side2 A18.out).mono ?_); (case side1 => exact cb_ HR0_1 HB); (case side2 => exact HC0_1.out); rintro e w36 ⟨rfl, hb⟩; replace BK399 := ab_ BK399 hb; replace BK402 := ab_ BK402 hb; replace HB := at_ HB hb; (try clear hb); (try clear hb2); (try clear hk); (try clear hi); have hcz37_0 := cz_ BK402 0 (.int .i64 ((rd_T76 l0_1 x3_2).f0)); have hcz37_1 := cz_ BK402 1 (.int .i64 ((rd_T76 l0_1 x3_2).f1)); have hcz37_2 := cz_ BK402 2 (.int .i64 ((rd_T76 l0_1 x3_2).f2)); have hfz37_0 := blk_frozen BK402.out 0; have hfz37_1 := blk_frozen BK402.out 1; have hfz37_2 := blk_frozen BK402.out 2) | (go_at_call 52; (with_reducible refine (spec_l01In.calls ((rd_T76 l0_1 x3_2).f2) 1 1000 t405 _ A29.out).mono ?_); rintro e w' ⟨rfl, ⟨nd, rfl⟩⟩))
      go_meet
      case rel => exact ⟨_, (!t405), (by first | rfl | (simp; done) | (simp [*]; done)), H', ⟨by have := HJ1.out; have := HK2.out; first | omega | exact Nat.le_refl _⟩, ⟨bx_ BK399⟩, ⟨bx_ BK402⟩, ⟨bw115_⟩⟩
     case rest =>
      clear HC11
      try clear c1
      try clear c2
      try clear p2
      try clear c3
      try clear c4
      try clear p4
      try clear q4
      try clear hx4
      try clear c5
      try clear c8
      try clear c9
      try clear c9b0
      try clear c10
      try clear c10b0
      try clear c14
      try clear c17
      try clear c19
      try clear c20
      try clear c20b0
      try clear c20b1
      try clear c21
      try clear c25
      try clear c30
      try clear c38
      try clear p40
      try clear q40
      try clear hx40
      try clear c45
      try clear hcz12_0
      try clear hcz12_1
      try clear hcz15_0
      try clear hcz15_1
      try clear hcz15_2
      try clear hcz22_0
      try clear hcz22_1
      try clear hcz23_0
      try clear hcz23_1
      try clear hcz23_2
      try clear hcz25_0
      try clear hcz25_1
      try clear hcz26_0
      try clear hcz26_1
      try clear hcz26_2
      try clear hcz28_0
      try clear hcz28_1
      try clear hcz28_2
      try clear hcz31_0
      try clear hcz31_1
      try clear hcz32_0
      try clear hcz32_1
      try clear hcz32_2
      try clear hcz34_0
      try clear hcz34_1
      try clear hcz35_0
      try clear hcz35_1
      try clear hcz35_2
      try clear hcz37_0
      try clear hcz37_1
      try clear hcz37_2
      try clear hcz39_0
      try clear hcz39_1
      try clear hcz40_0
      try clear hcz40_1
      try clear hcz40_2
      try clear hcz42_0
      try clear hcz42_1
      try clear hcz43_0
      try clear hcz43_1
      try clear hcz43_2
      try clear hcz46_0
      try clear hcz46_1
      try clear hcz47_0
      try clear hcz47_1
      try clear hcz47_2
      try clear hcz6_0
      try clear hcz6_1
      try clear hcz7_0
      try clear hcz7_1
      try clear hfz12_0
      try clear hfz12_1
      try clear hfz15_0
      try clear hfz15_1
      try clear hfz15_2
      try clear hfz22_0
      try clear hfz22_1
      try clear hfz23_0
      try clear hfz23_1
      try clear hfz23_2
      try clear hfz25_0
      try clear hfz25_1
      try clear hfz26_0
      try clear hfz26_1
      try clear hfz26_2
      try clear hfz28_0
      try clear hfz28_1
      try clear hfz28_2
      try clear hfz31_0
      try clear hfz31_1
      try clear hfz32_0
      try clear hfz32_1
      try clear hfz32_2
      try clear hfz34_0
      try clear hfz34_1
      try clear hfz35_0
      try clear hfz35_1
      try clear hfz35_2
      try clear hfz37_0
      try clear hfz37_1
      try clear hfz37_2
      try clear hfz39_0
      try clear hfz39_1
      try clear hfz40_0
      try clear hfz40_1
      try clear hfz40_2
      try clear hfz42_0
      try clear hfz42_1
      try clear hfz43_0
      try clear hfz43_1
      try clear hfz43_2
      try clear hfz46_0
      try clear hfz46_1
      try clear hfz47_0
      try clear hfz47_1
      try clear hfz47_2
      try clear hfz6_0
      try clear hfz6_1
      try clear hfz7_0
      try clear hfz7_1
      try clear hx401_0
      try clear hx401_1
      try clear hx401_2
      try clear p2
      try clear p401
      try clear q401
      obtain ⟨kq, x52_10, rfl, HA, HJ10, BK399, BK402, HB⟩ := hcut
      cases kq with
      | zero => exact absurd HA.out (by simp [spec_GraphOk.j2])
      | succ kj10 =>
       have H := HA.out
       clear HA
       simp only [spec_GraphOk.j2] at H
       by_cases c49 : x52_10 = true
       ·subst c49
        rw [if_pos rfl] at H
        obtain rfl := Option.some.inj H
        go_wp2
        go_ret
        exact ⟨by first | rfl | (simp [errW_none, errW_some] <;> rfl) | (simp [*, errW_none, errW_some] <;> rfl), bw115_⟩
       replace c49 := Bool.eq_false_iff.mpr c49
       subst c49
       rw [if_neg (show ¬ (false = true) by decide)] at H
       by_cases c50 : x3_2 > 0
       rotate_left
       ·rw [if_neg c50] at H
        have c50b0 : decide (0 < x3_2) = false := decide_eq_false c50
        clear c50
        have H' := Aside0.mk H
        clear H
        go_wp2
        go_roundg kj10
        case measure => have := HJ1.out; have := HK2.out; have := HJ10.out; omega
        case rel => exact ⟨(wrap64 (x3_2 + 1)), (by first | rfl | (simp; done) | (simp [*]; done)), H', ⟨by have := HJ1.out; have := HK2.out; have := HJ10.out; omega⟩, ⟨bx_ BK399⟩, ⟨bw115_⟩⟩
       rw [if_pos c50] at H
       have c50b0 : decide (0 < x3_2) = true := decide_eq_true c50
       clear c50
       obtain ⟨ji51, hji51⟩ : ∃ j_ : Int, (wrap64 (x3_2 - 1)) = j_ := ⟨_, rfl⟩
       first | rw [hji51] at H | simp only [hji51] at H
       have hji51w : (IntKind.i64.wrap (x3_2 - 1)) = ji51 := (i64_w _).trans hji51
       by_cases c52 : 0 ≤ (ji51)
       rotate_left
       ·rw [if_neg c52] at H
        exact absurd H (by simp)
       rw [if_pos c52] at H
       have c52b0 : decide (0 ≤ (ji51)) = true := decide_eq_true c52
       clear c52
       by_cases c53 : (ji51) < (l0_1.length : Int)
       rotate_left
       ·rw [if_neg c53] at H
        exact absurd H (by simp)
       rw [if_pos c53] at H
       have c53b0 : decide ((ji51) < (l0_1.length : Int)) = true := decide_eq_true c53
       clear c53
       have Hh_ := Aside0.mk H
       clear H
       have hnb55 := NB399_402.out
       have hnc55 := NB402_399.out
       have hcz56_0 := cz_ BK399 0 (.int .i64 a0_0)
       have hcz56_1 := cz_ BK399 1 (.slice (some ad401) l0_1.length c0_1)
       have hfz56_0 := blk_frozen BK399.out 0
       have hfz56_1 := blk_frozen BK399.out 1
       have p406 : 0 ≤ ((ji51) : Int) := of_decide_eq_true (by first | (with_reducible assumption) | assumption)
       have q406 : (ji51) < (l0_1.length : Int) := of_decide_eq_true (by first | (with_reducible assumption) | assumption)
       obtain ⟨ad406, e406, hx406_0, hx406_1, hx406_2⟩ := at_T76 HR0_1.out (ji51) p406 q406
       obtain rfl : ad401 = ad406 := (by injection e406)
       replace hx406_0 := (HB.out.cell (World.block_lt_of_cell? w _ hx406_0)).trans hx406_0
       replace hx406_1 := (HB.out.cell (World.block_lt_of_cell? w _ hx406_1)).trans hx406_1
       replace hx406_2 := (HB.out.cell (World.block_lt_of_cell? w _ hx406_2)).trans hx406_2
       replace p406 := eq_true p406
       replace q406 := eq_true q406
       have H := Hh_.out
       clear Hh_
       by_cases c54 : ((rd_T76 l0_1 (ji51)).f0) > ((rd_T76 l0_1 x3_2).f0)
       ·rw [if_pos c54] at H
        have c54b0 : decide (((rd_T76 l0_1 x3_2).f0) < ((rd_T76 l0_1 (ji51)).f0)) = true := decide_eq_true c54
        clear c54
        obtain rfl := Option.some.inj H
        go_wp2_with ((with_reducible refine gate_dst (N := 5) rfl ?_); refine box_event ?hg (N := 5) ?hd (cs := #[.int .i64 0, .int .i64 0, .int .i64 0]) (t := 76) ?hr ?_; (case hd => rfl); (case hg => rfl); (case hr => first | (go_simp; done) | (go_simp; rfl)); intro gb407 hg w57 hbox hb; have BK407 := Aside0.mk hbox; have GW407 := ge_ HB hg; have GE407 := ge_ HB hg; have NB399_407 := nl_ BK399 hg; have NB407_399 := ng_ BK399 hg; have NB402_407 := nl_ BK402 hg; have NB407_402 := ng_ BK402 hg; replace HB := at_ HB hb; replace BK399 := ab_ BK399 hb; replace BK402 := ab_ BK402 hb; clear hb hbox hg; have hnb58 := NB407_399.out; have hnc58 := NB399_407.out; have hnb59 := NB407_402.out; have hnc59 := NB402_407.out; have hcz60_0 := cz_ BK407 0 (.int .i64 0); have hcz60_1 := cz_ BK407 1 (.int .i64 0); have hcz60_2 := cz_ BK407 2 (.int .i64 0); have hfz60_0 := blk_frozen BK407.out 0; have hfz60_1 := blk_frozen BK407.out 1; have hfz60_2 := blk_frozen BK407.out 2; have hcz61_0 := cz_ BK402 0 (.int .i64 ((rd_T76 l0_1 x3_2).f0)); have hcz61_1 := cz_ BK402 1 (.int .i64 ((rd_T76 l0_1 x3_2).f1)); have hcz61_2 := cz_ BK402 2 (.int .i64 ((rd_T76 l0_1 x3_2).f2)); have hfz61_0 := blk_frozen BK402.out 0; have hfz61_1 := blk_frozen BK402.out 1; have hfz61_2 := blk_frozen BK402.out 2)
        go_ret
        exact ⟨by first | rfl | (simp [errW_none, errW_some] <;> rfl) | (simp only [← hji51]; first | rfl | (simp [errW_none, errW_some] <;> rfl)) | (simp [*, errW_none, errW_some] <;> rfl), bw115_⟩
       rw [if_neg c54] at H
       have c54b0 : decide (((rd_T76 l0_1 x3_2).f0) < ((rd_T76 l0_1 (ji51)).f0)) = false := decide_eq_false c54
       clear c54
       by_cases c62 : ((rd_T76 l0_1 (ji51)).f0) = ((rd_T76 l0_1 x3_2).f0)
       rotate_left
       ·rw [if_neg c62] at H
        have c62b0 : (((rd_T76 l0_1 (ji51)).f0) == ((rd_T76 l0_1 x3_2).f0)) = false := beq_eq_false_iff_ne.mpr c62
        have c62b1 : (((rd_T76 l0_1 (ji51)).f0) != ((rd_T76 l0_1 x3_2).f0)) = true := bne_iff_ne.mpr c62
        have H' := Aside0.mk H
        clear H
        go_wp2_with ((with_reducible refine gate_dst (N := 5) rfl ?_); refine box_event ?hg (N := 5) ?hd (cs := #[.int .i64 0, .int .i64 0, .int .i64 0]) (t := 76) ?hr ?_; (case hd => rfl); (case hg => rfl); (case hr => first | (go_simp; done) | (go_simp; rfl)); intro gb407 hg w80 hbox hb; have BK407 := Aside0.mk hbox; have GW407 := ge_ HB hg; have GE407 := ge_ HB hg; have NB399_407 := nl_ BK399 hg; have NB407_399 := ng_ BK399 hg; have NB402_407 := nl_ BK402 hg; have NB407_402 := ng_ BK402 hg; replace HB := at_ HB hb; replace BK399 := ab_ BK399 hb; replace BK402 := ab_ BK402 hb; clear hb hbox hg; have hnb81 := NB407_399.out; have hnc81 := NB399_407.out; have hnb82 := NB407_402.out; have hnc82 := NB402_407.out; have hcz83_0 := cz_ BK407 0 (.int .i64 0); have hcz83_1 := cz_ BK407 1 (.int .i64 0); have hcz83_2 := cz_ BK407 2 (.int .i64 0); have hfz83_0 := blk_frozen BK407.out 0; have hfz83_1 := blk_frozen BK407.out 1; have hfz83_2 := blk_frozen BK407.out 2; have hcz84_0 := cz_ BK402 0 (.int .i64 ((rd_T76 l0_1 x3_2).f0)); have hcz84_1 := cz_ BK402 1 (.int .i64 ((rd_T76 l0_1 x3_2).f1)); have hcz84_2 := cz_ BK402 2 (.int .i64 ((rd_T76 l0_1 x3_2).f2)); have hfz84_0 := blk_frozen BK402.out 0; have hfz84_1 := blk_frozen BK402.out 1; have hfz84_2 := blk_frozen BK402.out 2)
        go_roundg kj10
        case measure => have := HJ1.out; have := HK2.out; have := HJ10.out; omega
        case rel => exact ⟨(wrap64 (x3_2 + 1)), (by first | rfl | (simp; done) | (simp [*]; done)), H', ⟨by have := HJ1.out; have := HK2.out; have := HJ10.out; omega⟩, ⟨bc_ BK399⟩, ⟨bw115_⟩⟩
       rw [if_pos c62] at H
       have c62b0 : (((rd_T76 l0_1 (ji51)).f0) == ((rd_T76 l0_1 x3_2).f0)) = true := beq_iff_eq.mpr c62
       have c62b1 : (((rd_T76 l0_1 (ji51)).f0) != ((rd_T76 l0_1 x3_2).f0)) = false := bne_eq_false_iff_eq.mpr c62
       clear c62
       by_cases c63 : ((rd_T76 l0_1 (ji51)).f1) ≥ ((rd_T76 l0_1 x3_2).f1)
       ·rw [if_pos c63] at H
        have c63b0 : decide (((rd_T76 l0_1 x3_2).f1) ≤ ((rd_T76 l0_1 (ji51)).f1)) = true := decide_eq_true c63
        clear c63
        obtain rfl := Option.some.inj H
        go_wp2_with ((with_reducible refine gate_dst (N := 5) rfl ?_); refine box_event ?hg (N := 5) ?hd (cs := #[.int .i64 0, .int .i64 0, .int .i64 0]) (t := 76) ?hr ?_; (case hd => rfl); (case hg => rfl); (case hr => first | (go_simp; done) | (go_simp; rfl)); intro gb407 hg w66 hbox hb; have BK407 := Aside0.mk hbox; have GW407 := ge_ HB hg; have GE407 := ge_ HB hg; have NB399_407 := nl_ BK399 hg; have NB407_399 := ng_ BK399 hg; have NB402_407 := nl_ BK402 hg; have NB407_402 := ng_ BK402 hg; replace HB := at_ HB hb; replace BK399 := ab_ BK399 hb; replace BK402 := ab_ BK402 hb; clear hb hbox hg; have hnb67 := NB407_399.out; have hnc67 := NB399_407.out; have hnb68 := NB407_402.out; have hnc68 := NB402_407.out; have hcz69_0 := cz_ BK407 0 (.int .i64 0); have hcz69_1 := cz_ BK407 1 (.int .i64 0); have hcz69_2 := cz_ BK407 2 (.int .i64 0); have hfz69_0 := blk_frozen BK407.out 0; have hfz69_1 := blk_frozen BK407.out 1; have hfz69_2 := blk_frozen BK407.out 2; have hcz70_0 := cz_ BK402 0 (.int .i64 ((rd_T76 l0_1 x3_2).f0)); have hcz70_1 := cz_ BK402 1 (.int .i64 ((rd_T76 l0_1 x3_2).f1)); have hcz70_2 := cz_ BK402 2 (.int .i64 ((rd_T76 l0_1 x3_2).f2)); have hfz70_0 := blk_frozen BK402.out 0; have hfz70_1 := blk_frozen BK402.out 1; have hfz70_2 := blk_frozen BK402.out 2)
        go_ret
        exact ⟨by first | rfl | (simp [errW_none, errW_some] <;> rfl) | (simp only [← hji51]; first | rfl | (simp [errW_none, errW_some] <;> rfl)) | (simp [*, errW_none, errW_some] <;> rfl), bw115_⟩
       rw [if_neg c63] at H
       have c63b0 : decide (((rd_T76 l0_1 x3_2).f1) ≤ ((rd_T76 l0_1 (ji51)).f1)) = false := decide_eq_false c63
       clear c63
       have H' := Aside0.mk H
       clear H
       go_wp2_with ((with_reducible refine gate_dst (N := 5) rfl ?_); refine box_event ?hg (N := 5) ?hd (cs := #[.int .i64 0, .int .i64 0, .int .i64 0]) (t := 76) ?hr ?_; (case hd => rfl); (case hg => rfl); (case hr => first | (go_simp; done) | (go_simp; rfl)); intro gb407 hg w73 hbox hb; have BK407 := Aside0.mk hbox; have GW407 := ge_ HB hg; have GE407 := ge_ HB hg; have NB399_407 := nl_ BK399 hg; have NB407_399 := ng_ BK399 hg; have NB402_407 := nl_ BK402 hg; have NB407_402 := ng_ BK402 hg; replace HB := at_ HB hb; replace BK399 := ab_ BK399 hb; replace BK402 := ab_ BK402 hb; clear hb hbox hg; have hnb74 := NB407_399.out; have hnc74 := NB399_407.out; have hnb75 := NB407_402.out; have hnc75 := NB402_407.out; have hcz76_0 := cz_ BK407 0 (.int .i64 0); have hcz76_1 := cz_ BK407 1 (.int .i64 0); have hcz76_2 := cz_ BK407 2 (.int .i64 0); have hfz76_0 := blk_frozen BK407.out 0; have hfz76_1 := blk_frozen BK407.out 1; have hfz76_2 := blk_frozen BK407.out 2; have hcz77_0 := cz_ BK402 0 (.int .i64 ((rd_T76 l0_1 x3_2).f0)); have hcz77_1 := cz_ BK402 1 (.int .i64 ((rd_T76 l0_1 x3_2).f1)); have hcz77_2 := cz_ BK402 2 (.int .i64 ((rd_T76 l0_1 x3_2).f2)); have hfz77_0 := blk_frozen BK402.out 0; have hfz77_1 := blk_frozen BK402.out 1; have hfz77_2 := blk_frozen BK402.out 2)
       go_roundg kj10
       case measure => have := HJ1.out; have := HK2.out; have := HJ10.out; omega
       case rel => exact ⟨(wrap64 (x3_2 + 1)), (by first | rfl | (simp; done) | (simp [*]; done)), H', ⟨by have := HJ1.out; have := HK2.out; have := HJ10.out; omega⟩, ⟨bc_ BK399⟩, ⟨bw115_⟩⟩

end Go.Proofs.Ythmahcohcphljaa.QFnHops
