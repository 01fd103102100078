/- Contracts of functions that the law reaches: what each call returns and what it leaves in memory. Made by this session over the print of the kit. -/
import Derived.Test.YthmahcohcphljaaQFnSharesx0
import Derived.Test.YthmahcohcphljaaQFnSharesx1
import Derived.Test.YthmahcohcphljaaQFnSharesx2
namespace Go.Proofs.Ythmahcohcphljaa.QFnShares
open Go.RowKit Go.Proofs.YthmahcohcphljaaS.PrintWords Go.Proofs.YthmahcohcphljaaS.PrintLast Go.Proofs.YthmahcohcphljaaS.PrintMore
attribute [local go_sem] max2_int min2_int max_two min_two max_three min_three max_four min_four   -- for this text's walks alone
set_option linter.unusedVariables false
set_option linter.unusedSimpArgs false

/-! ### spec_l03Cost: function 72 -/
mutual
def spec_l03Cost.j0 : Nat → Int → Int → Bool → Int → List (S76) → Option (Int)
 | 0, _, _, _, _, _ => none
 | k + 1, x1, x2, x17, x130000, x130001 => if x17 = true then (some 1000000) else (if x1 = x2 then (some 0) else (spec_l03Cost.l0 k x1 x2 0 x130000 x130001))
def spec_l03Cost.l0 : Nat → Int → Int → Int → Int → List (S76) → Option (Int)
 | 0, _, _, _, _, _ => none
 | k + 1, x1, x2, x7, x130000, x130001 => if x7 < (x130001.length : Int) then (if 0 ≤ x7 then (if ((rd_T76 x130001 x7).f0) = x1 then (if ((rd_T76 x130001 x7).f1) = x2 then (some ((rd_T76 x130001 x7).f2)) else (spec_l03Cost.l0 k x1 x2 (wrap64 (x7 + 1)) x130000 x130001)) else (spec_l03Cost.l0 k x1 x2 (wrap64 (x7 + 1)) x130000 x130001)) else (none)) else (some 1000000)
end
def spec_l03Cost.f (k : Nat) (a0_0 : Int) (l0_1 : List (S76)) (a1 : Int) (a2 : Int) : Option (Int) := (spec_l03Node.f a0_0 l0_1 a1).bind fun t130 => (if t130 = true then ((spec_l03Node.f a0_0 l0_1 a2).bind fun t131 => (spec_l03Cost.j0 k a1 a2 (!t131) a0_0 l0_1)) else (spec_l03Cost.j0 k a1 a2 true a0_0 l0_1))
theorem spec_l03Cost.mono_l : ∀ k, (∀ y0 y1 y2 y3 y4, LeO (spec_l03Cost.j0 k y0 y1 y2 y3 y4) (spec_l03Cost.j0 (k + 1) y0 y1 y2 y3 y4)) ∧ (∀ y0 y1 y2 y3 y4, LeO (spec_l03Cost.l0 k y0 y1 y2 y3 y4) (spec_l03Cost.l0 (k + 1) y0 y1 y2 y3 y4))
 | 0 => ⟨fun _ _ _ _ _ r h => by simp [spec_l03Cost.j0] at h, fun _ _ _ _ _ r h => by simp [spec_l03Cost.l0] at h⟩
 | k + 1 => by
  obtain ⟨ih0, ih1⟩ := spec_l03Cost.mono_l k
  refine ⟨?_, ?_⟩
  ·intro y0 y1 y2 y3 y4
   unfold spec_l03Cost.j0
   repeat' first | (with_reducible first | exact ih0 _ _ _ _ _ | exact ih1 _ _ _ _ _ | exact LeO.refl _ | exact LeO.none _ | refine LeO.ite ?_ ?_ | refine LeO.bind ?_ (fun _ => ?_)) | exact ih0 _ _ _ _ _ | exact ih1 _ _ _ _ _ | exact LeO.none _ | refine LeO.ite ?_ ?_ | refine LeO.bind ?_ (fun _ => ?_)
  ·intro y0 y1 y2 y3 y4
   unfold spec_l03Cost.l0
   repeat' first | (with_reducible first | exact ih0 _ _ _ _ _ | exact ih1 _ _ _ _ _ | exact LeO.refl _ | exact LeO.none _ | refine LeO.ite ?_ ?_ | refine LeO.bind ?_ (fun _ => ?_)) | exact ih0 _ _ _ _ _ | exact ih1 _ _ _ _ _ | exact LeO.none _ | refine LeO.ite ?_ ?_ | refine LeO.bind ?_ (fun _ => ?_)
theorem spec_l03Cost.mono : ∀ a0 a1 a2 a3 k, LeO (spec_l03Cost.f k a0 a1 a2 a3) (spec_l03Cost.f (k + 1) a0 a1 a2 a3) := by
 intro a0 a1 a2 a3 k
 obtain ⟨ih0, ih1⟩ := spec_l03Cost.mono_l k
 unfold spec_l03Cost.f
 repeat' first | (with_reducible first | exact ih0 _ _ _ _ _ | exact ih1 _ _ _ _ _ | exact LeO.refl _ | exact LeO.none _ | refine LeO.ite ?_ ?_ | refine LeO.bind ?_ (fun _ => ?_)) | exact ih0 _ _ _ _ _ | exact ih1 _ _ _ _ _ | exact LeO.none _ | refine LeO.ite ?_ ?_ | refine LeO.bind ?_ (fun _ => ?_)
set_option maxHeartbeats 8000000 in
set_option maxRecDepth 100000 in
theorem spec_l03Cost.calls (k : Nat) (a0_0 : Int) (A0_1 : Option Addr) (c0_1 : Nat) (l0_1 : List (S76)) (a1 : Int) (a2 : Int) (r : Int) (w : World) (hr0_1 : Kd.C k76 w A0_1 l0_1.length l0_1) (hc0_1 : l0_1.length ≤ c0_1) (h : spec_l03Cost.f k a0_0 l0_1 a1 a2 = some r) :
  Calls Try.prog 72 #[.agg #[.int .i64 a0_0, .slice A0_1 l0_1.length c0_1], .int .i64 a1, .int .i64 a2] w fun e w' => e = .returned (.int .i64 r) ∧ Below w.heap.size w w' := by
 have hu30 := Try.underlying30
 have HR0_1 := Aside0.mk hr0_1
 have HC0_1 := Aside0.mk hc0_1
 clear hr0_1 hc0_1
 have HB := Aside0.mk (Below.refl w.heap.size w)
 have H : ((spec_l03Node.f a0_0 l0_1 a1).bind fun t130 => (if t130 = true then ((spec_l03Node.f a0_0 l0_1 a2).bind fun t131 => (spec_l03Cost.j0 k a1 a2 (!t131) a0_0 l0_1)) else (spec_l03Cost.j0 k a1 a2 true a0_0 l0_1))) = some r := h
 clear h
 have HC4 := Aside0.mk H
 clear H
 go_enter Try.func72, Try.ntmps72
 go_upto_region 1 with ((with_reducible refine gate_dst (N := 3) rfl ?_); refine box_event ?hg (N := 3) ?hd (cs := #[.int .i64 a0_0, .slice A0_1 l0_1.length c0_1]) (t := 30) ?hr ?_; (case hd => rfl); (case hg => rfl); (case hr => first | (go_simp; done) | (go_simp; rfl)); intro gb129 hg w5 hbox hb; have BK129 := Aside0.mk hbox; have GW129 := ge_ HB hg; have GE129 := ge_ HB hg; replace HB := at_ HB hb; clear hb hbox hg)
 (try simp only [Act.put, List.setIfInBounds_toArray, List.set_cons_zero, List.set_cons_succ])
 go_cut [17] (fun v17 wc => ∃ (kq : Nat) (x17_3 : Bool), v17 = .bool x17_3 ∧ Aside0 (spec_l03Cost.j0 kq a1 a2 x17_3 a0_0 l0_1 = some r) ∧ Aside0 (kq ≤ k) ∧ Aside0 (wc.heap[gb129]? = some (.cells #[.int .i64 a0_0, (.slice A0_1 l0_1.length c0_1)] 30 (0, 0))) ∧ Aside0 (Below w.heap.size w wc))
 case first =>
  have H := HC4.out
  clear HC4
  replace H := Option.bind_eq_some_iff.mp H
  obtain ⟨t130, A60, H⟩ := H
  have A6 := Aside0.mk A60
  clear A60
  by_cases c7 : t130 = true
  rotate_left
  ·replace c7 := Bool.eq_false_iff.mpr c7
   subst c7
   rw [if_neg (show ¬ (false = true) by decide)] at H
   have H' := Aside0.mk H
   clear H
   have hcz13_0 := cz_ BK129 0 (.int .i64 a0_0)
   have hcz13_1 := cz_ BK129 1 (.slice A0_1 l0_1.length c0_1)
   have hfz13_0 := fz_ BK129 0
   have hfz13_1 := fz_ BK129 1
   go_wp2_with ((with_reducible refine gate_callee (f := 45) rfl ?_); refine gl_ (some 10) Try.func45 #[.agg #[.int .i64 a0_0, .slice A0_1 l0_1.length c0_1], .int .i64 a1] ?_; (with_reducible refine (spec_l03Node.calls a0_0 _ _ l0_1 a1 false _ ?side1 ?side2 A6.out).mono ?_); (case side1 => exact cb_ HR0_1 HB); (case side2 => exact HC0_1.out); rintro e w14 ⟨rfl, hb⟩; refine ⟨_, rfl, ?_⟩; replace BK129 := ab_ BK129 hb; replace HB := at_ HB hb; (try clear hb); (try clear hb2); (try clear hk); (try clear hi))
   go_meet
   case rel => exact ⟨_, (true), er_, H', ⟨by first | omega | exact Nat.le_refl _⟩, ⟨bx_ BK129⟩, ⟨bw_⟩⟩
  subst c7
  rw [if_pos rfl] at H
  replace H := Option.bind_eq_some_iff.mp H
  obtain ⟨t131, A80, H⟩ := H
  have A8 := Aside0.mk A80
  clear A80
  have H' := Aside0.mk H
  clear H
  have hcz9_0 := cz_ BK129 0 (.int .i64 a0_0)
  have hcz9_1 := cz_ BK129 1 (.slice A0_1 l0_1.length c0_1)
  have hfz9_0 := fz_ BK129 0
  have hfz9_1 := fz_ BK129 1
  go_wp2_with (first | ((with_reducible refine gate_callee (f := 45) rfl ?_); refine gl_ (some 10) Try.func45 #[.agg #[.int .i64 a0_0, .slice A0_1 l0_1.length c0_1], .int .i64 a1] ?_; (with_reducible refine (spec_l03Node.calls a0_0 _ _ l0_1 a1 true _ ?side1 ?side2 A6.out).mono ?_); (case side1 => exact cb_ HR0_1 HB); (case side2 => exact HC0_1.out); rintro e w10 ⟨rfl, hb⟩; refine ⟨_, rfl, ?_⟩; replace BK129 := ab_ BK129 hb; replace HB := at_ HB hb; (try clear hb); (try clear hb2); (try clear hk); (try clear hi); have hcz11_0 := cz_ BK129 0 (.int .i64 a0_0); have hcz11_1 := cz_ BK129 1 (.slice A0_1 l0_1.length c0_1); have hfz11_0 := fz_ BK129 0; have hfz11_1 := fz_ BK129 1) | (go_at_call 45; (with_reducible refine (spec_l03Node.calls a0_0 _ _ l0_1 a2 t131 _ ?side1 ?side2 A8.out).mono ?_); (case side1 => exact cb_ HR0_1 HB); (case side2 => exact HC0_1.out); rintro e w12 ⟨rfl, hb⟩; replace BK129 := ab_ BK129 hb; replace HB := at_ HB hb; (try clear hb); (try clear hb2); (try clear hk); (try clear hi)))
  go_meet
  case rel => exact ⟨_, (!t131), er_, H', ⟨by first | omega | exact Nat.le_refl _⟩, ⟨bx_ BK129⟩, ⟨bw_⟩⟩
 case rest =>
  clear HC4
  try clear p2
  try clear c4
  try clear c7
  try clear hcz11_0
  try clear hcz11_1
  try clear hcz13_0
  try clear hcz13_1
  try clear hcz9_0
  try clear hcz9_1
  try clear hfz11_0
  try clear hfz11_1
  try clear hfz13_0
  try clear hfz13_1
  try clear hfz9_0
  try clear hfz9_1
  obtain ⟨kq, x17_3, rfl, HA, HJ3, BK129, HB⟩ := hcut
  cases kq with
  | zero => exact absurd HA.out (by simp [spec_l03Cost.j0])
  | succ kj3 =>
   have H := HA.out
   clear HA
   simp only [spec_l03Cost.j0] at H
   by_cases c15 : x17_3 = true
   ·subst c15
    rw [if_pos rfl] at H
    obtain rfl := Option.some.inj H
    go_wp2
    go_ret
    exact ⟨by first | rfl | (simp [errW_none, errW_some] <;> rfl) | (simp [*, errW_none, errW_some] <;> rfl), bw_⟩
   replace c15 := Bool.eq_false_iff.mpr c15
   subst c15
   rw [if_neg (show ¬ (false = true) by decide)] at H
   by_cases c16 : a1 = a2
   ·rw [if_pos c16] at H
    have c16b0 : (a1 == a2) = true := beq_iff_eq.mpr c16
    have c16b1 : (a1 != a2) = false := bne_eq_false_iff_eq.mpr c16
    clear c16
    obtain rfl := Option.some.inj H
    go_wp2
    go_ret
    exact ⟨by first | rfl | (simp [errW_none, errW_some] <;> rfl) | (simp [*, errW_none, errW_some] <;> rfl), bw_⟩
   rw [if_neg c16] at H
   have c16b0 : (a1 == a2) = false := beq_eq_false_iff_ne.mpr c16
   have c16b1 : (a1 != a2) = true := bne_iff_ne.mpr c16
   have H' := Aside0.mk H
   clear H
   go_wp2
   go_loopg [7] kj3 (fun kq v7 w' => ∃ (x7_2 : Int), v7 = .int .i64 x7_2 ∧ Aside0 (spec_l03Cost.l0 kq a1 a2 x7_2 a0_0 l0_1 = some r) ∧ Aside0 (kq ≤ kj3) ∧ Aside0 (w'.heap[gb129]? = some (.cells #[.int .i64 a0_0, (.slice A0_1 l0_1.length c0_1)] 30 (0, 0))) ∧ Aside0 (Below w.heap.size w w'))
   case atStart => exact ⟨(0), er_, H', ⟨Nat.le_refl _⟩, ⟨bx_ BK129⟩, ⟨bw_⟩⟩
   case round =>
    clear H'
    try clear c1
    try clear p2
    try clear c4
    try clear c7
    try clear c15
    try clear c16
    try clear c16b0
    try clear c16b1
    try clear hcz11_0
    try clear hcz11_1
    try clear hcz13_0
    try clear hcz13_1
    try clear hcz9_0
    try clear hcz9_1
    try clear hfz11_0
    try clear hfz11_1
    try clear hfz13_0
    try clear hfz13_1
    try clear hfz9_0
    try clear hfz9_1
    try clear p2
    obtain ⟨x7_2, rfl, HA, HK2, BK129, HB⟩ := hrel
    cases gk with
    | zero => exact absurd HA.out (by simp [spec_l03Cost.l0])
    | succ k2 =>
     have H := HA.out
     clear HA
     simp only [spec_l03Cost.l0] at H
     by_cases c17 : x7_2 < (l0_1.length : Int)
     rotate_left
     ·rw [if_neg c17] at H
      have c17b0 : decide (x7_2 < (l0_1.length : Int)) = false := decide_eq_false c17
      clear c17
      obtain rfl := Option.some.inj H
      have hcz24_0 := cz_ BK129 0 (.int .i64 a0_0)
      have hcz24_1 := cz_ BK129 1 (.slice A0_1 l0_1.length c0_1)
      have hfz24_0 := fz_ BK129 0
      have hfz24_1 := fz_ BK129 1
      go_wp2
      go_ret
      exact ⟨by first | rfl | (simp [errW_none, errW_some] <;> rfl) | (simp [*, errW_none, errW_some] <;> rfl), bw_⟩
     rw [if_pos c17] at H
     have c17b0 : decide (x7_2 < (l0_1.length : Int)) = true := decide_eq_true c17
     clear c17
     obtain ⟨c18b0, H⟩ := iq_ H
     have Hh_ := Aside0.mk H
     clear H
     have hcz21_0 := cz_ BK129 0 (.int .i64 a0_0)
     have hcz21_1 := cz_ BK129 1 (.slice A0_1 l0_1.length c0_1)
     have hfz21_0 := fz_ BK129 0
     have hfz21_1 := fz_ BK129 1
     have p132 : 0 ≤ (x7_2 : Int) := oa_
     have q132 : x7_2 < (l0_1.length : Int) := oa_
     obtain ⟨ad132, e132, hx132_0, hx132_1, hx132_2⟩ := at_T76 HR0_1.out x7_2 p132 q132
     cases e132
     replace hx132_0 := (HB.out.cell (World.block_lt_of_cell? w _ hx132_0)).trans hx132_0
     replace hx132_1 := (HB.out.cell (World.block_lt_of_cell? w _ hx132_1)).trans hx132_1
     replace hx132_2 := (HB.out.cell (World.block_lt_of_cell? w _ hx132_2)).trans hx132_2
     replace p132 := eq_true p132
     replace q132 := eq_true q132
     have H := Hh_.out
     clear Hh_
     by_cases c19 : ((rd_T76 l0_1 x7_2).f0) = a1
     rotate_left
     ·rw [if_neg c19] at H
      have c19b0 : (((rd_T76 l0_1 x7_2).f0) == a1) = false := beq_eq_false_iff_ne.mpr c19
      have c19b1 : (((rd_T76 l0_1 x7_2).f0) != a1) = true := bne_iff_ne.mpr c19
      have H' := Aside0.mk H
      clear H
      go_wp2
      go_roundg k2
      case measure => have := HJ3.out; have := HK2.out; omega
      case rel => exact ⟨(wrap64 (x7_2 + 1)), er_, H', ⟨by have := HJ3.out; have := HK2.out; omega⟩, ⟨bx_ BK129⟩, ⟨bw_⟩⟩
     rw [if_pos c19] at H
     have c19b0 : (((rd_T76 l0_1 x7_2).f0) == a1) = true := beq_iff_eq.mpr c19
     have c19b1 : (((rd_T76 l0_1 x7_2).f0) != a1) = false := bne_eq_false_iff_eq.mpr c19
     clear c19
     have Hh_ := Aside0.mk H
     clear H
     have p133 : 0 ≤ (x7_2 : Int) := oa_
     have q133 : x7_2 < (l0_1.length : Int) := oa_
     obtain ⟨ad133, e133, hx133_0, hx133_1, hx133_2⟩ := at_T76 HR0_1.out x7_2 p133 q133
     obtain rfl : ad132 = ad133 := (by injection e133)
     replace hx133_0 := (HB.out.cell (World.block_lt_of_cell? w _ hx133_0)).trans hx133_0
     replace hx133_1 := (HB.out.cell (World.block_lt_of_cell? w _ hx133_1)).trans hx133_1
     replace hx133_2 := (HB.out.cell (World.block_lt_of_cell? w _ hx133_2)).trans hx133_2
     replace p133 := eq_true p133
     replace q133 := eq_true q133
     have H := Hh_.out
     clear Hh_
     by_cases c20 : ((rd_T76 l0_1 x7_2).f1) = a2
     rotate_left
     ·rw [if_neg c20] at H
      have c20b0 : (((rd_T76 l0_1 x7_2).f1) == a2) = false := beq_eq_false_iff_ne.mpr c20
      have c20b1 : (((rd_T76 l0_1 x7_2).f1) != a2) = true := bne_iff_ne.mpr c20
      have H' := Aside0.mk H
      clear H
      go_wp2
      go_roundg k2
      case measure => have := HJ3.out; have := HK2.out; omega
      case rel => exact ⟨(wrap64 (x7_2 + 1)), er_, H', ⟨by have := HJ3.out; have := HK2.out; omega⟩, ⟨bx_ BK129⟩, ⟨bw_⟩⟩
     rw [if_pos c20] at H
     have c20b0 : (((rd_T76 l0_1 x7_2).f1) == a2) = true := beq_iff_eq.mpr c20
     have c20b1 : (((rd_T76 l0_1 x7_2).f1) != a2) = false := bne_eq_false_iff_eq.mpr c20
     clear c20
     obtain rfl := Option.some.inj H
     have p134 : 0 ≤ (x7_2 : Int) := oa_
     have q134 : x7_2 < (l0_1.length : Int) := oa_
     obtain ⟨ad134, e134, hx134_0, hx134_1, hx134_2⟩ := at_T76 HR0_1.out x7_2 p134 q134
     obtain rfl : ad132 = ad134 := (by injection e134)
     replace hx134_0 := (HB.out.cell (World.block_lt_of_cell? w _ hx134_0)).trans hx134_0
     replace hx134_1 := (HB.out.cell (World.block_lt_of_cell? w _ hx134_1)).trans hx134_1
     replace hx134_2 := (HB.out.cell (World.block_lt_of_cell? w _ hx134_2)).trans hx134_2
     replace p134 := eq_true p134
     replace q134 := eq_true q134
     go_wp2
     go_ret
     exact ⟨by first | rfl | (simp [errW_none, errW_some] <;> rfl) | (simp [*, errW_none, errW_some] <;> rfl), bw_⟩

/-! ### spec_HopsTo: function 53 -/
mutual
def spec_HopsTo.j0 : Nat → Int → Int → List Int → Bool → Int → List (S76) → Option (List Int)
 | 0, _, _, _, _, _, _ => none
 | k + 1, x1, x2, x7, x31, x136000, x136001 => if x31 = true then (some ([] : List Int)) else ((spec_Distances.f k x136000 x136001 x1).bind fun t142 => (if 0 ≤ x2 then (if x2 < (t142.length : Int) then (if (rd t142 x2) = 1000000 then (some ([] : List Int)) else (spec_HopsTo.l0 k x1 x2 x7 (rd t142 x2) 0 x136000 x136001)) else (none)) else (none)))
def spec_HopsTo.l0 : Nat → Int → Int → List Int → Int → Int → Int → List (S76) → Option (List Int)
 | 0, _, _, _, _, _, _, _ => none
 | k + 1, x1, x2, x7, x8, x9, x136000, x136001 => if x9 < x136000 then ((spec_l03Cost.f k x136000 x136001 x1 x9).bind fun t146 => (if x9 = x1 then (spec_HopsTo.l0 k x1 x2 x7 x8 (wrap64 (x9 + 1)) x136000 x136001) else (if t146 < 1000000 then ((spec_Distances.f k x136000 x136001 x9).bind fun t147 => (if 0 ≤ x2 then (if x2 < (t147.length : Int) then (if (wrap64 (t146 + (rd t147 x2))) = x8 then (if x7.length < 17592186044416 then (spec_HopsTo.l0 k x1 x2 (x7 ++ [x9]) x8 (wrap64 (x9 + 1)) x136000 x136001) else (none)) else (spec_HopsTo.l0 k x1 x2 x7 x8 (wrap64 (x9 + 1)) x136000 x136001)) else (none)) else (none))) else (spec_HopsTo.l0 k x1 x2 x7 x8 (wrap64 (x9 + 1)) x136000 x136001)))) else (some x7)
end
def spec_HopsTo.f (k : Nat) (a0_0 : Int) (l0_1 : List (S76)) (a1 : Int) (a2 : Int) : Option (List Int) := (some (([] : List Int) : List Int)).bind fun y136 => ((spec_GraphOk.f k a0_0 l0_1).bind fun t139 => (if t139 = true then ((spec_l03Node.f a0_0 l0_1 a1).bind fun t140 => (if t140 = true then ((spec_l03Node.f a0_0 l0_1 a2).bind fun t141 => (if t141 = true then (spec_HopsTo.j0 k a1 a2 y136 (a1 == a2) a0_0 l0_1) else (spec_HopsTo.j0 k a1 a2 y136 true a0_0 l0_1))) else (spec_HopsTo.j0 k a1 a2 y136 true a0_0 l0_1))) else (spec_HopsTo.j0 k a1 a2 y136 true a0_0 l0_1)))
theorem spec_HopsTo.mono_l : ∀ k, (∀ y0 y1 y2 y3 y4 y5, LeO (spec_HopsTo.j0 k y0 y1 y2 y3 y4 y5) (spec_HopsTo.j0 (k + 1) y0 y1 y2 y3 y4 y5)) ∧ (∀ y0 y1 y2 y3 y4 y5 y6, LeO (spec_HopsTo.l0 k y0 y1 y2 y3 y4 y5 y6) (spec_HopsTo.l0 (k + 1) y0 y1 y2 y3 y4 y5 y6))
 | 0 => ⟨fun _ _ _ _ _ _ r h => by simp [spec_HopsTo.j0] at h, fun _ _ _ _ _ _ _ r h => by simp [spec_HopsTo.l0] at h⟩
 | k + 1 => by
  obtain ⟨ih0, ih1⟩ := spec_HopsTo.mono_l k
  refine ⟨?_, ?_⟩
  ·intro y0 y1 y2 y3 y4 y5
   unfold spec_HopsTo.j0
   repeat' first | (with_reducible first | exact ih0 _ _ _ _ _ _ | exact ih1 _ _ _ _ _ _ _ | exact spec_Distances.mono _ _ _ _ | exact spec_GraphOk.mono _ _ _ | exact spec_l03Cost.mono _ _ _ _ _ | exact LeO.refl _ | exact LeO.none _ | refine LeO.ite ?_ ?_ | refine LeO.bind ?_ (fun _ => ?_)) | exact ih0 _ _ _ _ _ _ | exact ih1 _ _ _ _ _ _ _ | exact spec_Distances.mono _ _ _ _ | exact spec_GraphOk.mono _ _ _ | exact spec_l03Cost.mono _ _ _ _ _ | exact LeO.none _ | refine LeO.ite ?_ ?_ | refine LeO.bind ?_ (fun _ => ?_)
  ·intro y0 y1 y2 y3 y4 y5 y6
   unfold spec_HopsTo.l0
   repeat' first | (with_reducible first | exact ih0 _ _ _ _ _ _ | exact ih1 _ _ _ _ _ _ _ | exact spec_Distances.mono _ _ _ _ | exact spec_GraphOk.mono _ _ _ | exact spec_l03Cost.mono _ _ _ _ _ | exact LeO.refl _ | exact LeO.none _ | refine LeO.ite ?_ ?_ | refine LeO.bind ?_ (fun _ => ?_)) | exact ih0 _ _ _ _ _ _ | exact ih1 _ _ _ _ _ _ _ | exact spec_Distances.mono _ _ _ _ | exact spec_GraphOk.mono _ _ _ | exact spec_l03Cost.mono _ _ _ _ _ | exact LeO.none _ | refine LeO.ite ?_ ?_ | refine LeO.bind ?_ (fun _ => ?_)
theorem spec_HopsTo.mono : ∀ a0 a1 a2 a3 k, LeO (spec_HopsTo.f k a0 a1 a2 a3) (spec_HopsTo.f (k + 1) a0 a1 a2 a3) := by
 intro a0 a1 a2 a3 k
 obtain ⟨ih0, ih1⟩ := spec_HopsTo.mono_l k
 unfold spec_HopsTo.f
 repeat' first | (with_reducible first | exact ih0 _ _ _ _ _ _ | exact ih1 _ _ _ _ _ _ _ | exact spec_Distances.mono _ _ _ _ | exact spec_GraphOk.mono _ _ _ | exact spec_l03Cost.mono _ _ _ _ _ | exact LeO.refl _ | exact LeO.none _ | refine LeO.ite ?_ ?_ | refine LeO.bind ?_ (fun _ => ?_)) | exact ih0 _ _ _ _ _ _ | exact ih1 _ _ _ _ _ _ _ | exact spec_Distances.mono _ _ _ _ | exact spec_GraphOk.mono _ _ _ | exact spec_l03Cost.mono _ _ _ _ _ | exact LeO.none _ | refine LeO.ite ?_ ?_ | refine LeO.bind ?_ (fun _ => ?_)
set_option maxHeartbeats 8000000 in
set_option maxRecDepth 100000 in
theorem spec_HopsTo.calls (k : Nat) (a0_0 : Int) (A0_1 : Option Addr) (c0_1 : Nat) (l0_1 : List (S76)) (a1 : Int) (a2 : Int) (r : List Int) (w : World) (hr0_1 : Kd.C k76 w A0_1 l0_1.length l0_1) (hc0_1 : l0_1.length ≤ c0_1) (h : spec_HopsTo.f k a0_0 l0_1 a1 a2 = some r) :
  Calls Try.prog 53 #[.agg #[.int .i64 a0_0, .slice A0_1 l0_1.length c0_1], .int .i64 a1, .int .i64 a2] w fun e w' => ∃ v0_ : Value, e = .returned (v0_) ∧ Kd.R (Kd.int .i64) 3 w' w.heap.size (fun _ => True) v0_ r ∧ Below w.heap.size w w' := by
 have hu30 := Try.underlying30
 have HR0_1 := Aside0.mk hr0_1
 have HC0_1 := Aside0.mk hc0_1
 clear hr0_1 hc0_1
 have HB := Aside0.mk (Below.refl w.heap.size w)
 have H : ((some (([] : List Int) : List Int)).bind fun y136 => ((spec_GraphOk.f k a0_0 l0_1).bind fun t139 => (if t139 = true then ((spec_l03Node.f a0_0 l0_1 a1).bind fun t140 => (if t140 = true then ((spec_l03Node.f a0_0 l0_1 a2).bind fun t141 => (if t141 = true then (spec_HopsTo.j0 k a1 a2 y136 (a1 == a2) a0_0 l0_1) else (spec_HopsTo.j0 k a1 a2 y136 true a0_0 l0_1))) else (spec_HopsTo.j0 k a1 a2 y136 true a0_0 l0_1))) else (spec_HopsTo.j0 k a1 a2 y136 true a0_0 l0_1)))) = some r := h
 clear h
 obtain ⟨y136, hy136⟩ : ∃ y_ : List Int, y_ = (([] : List Int)) := ⟨_, rfl⟩
 replace H : ((spec_GraphOk.f k a0_0 l0_1).bind fun t139 => (if t139 = true then ((spec_l03Node.f a0_0 l0_1 a1).bind fun t140 => (if t140 = true then ((spec_l03Node.f a0_0 l0_1 a2).bind fun t141 => (if t141 = true then (spec_HopsTo.j0 k a1 a2 y136 (a1 == a2) a0_0 l0_1) else (spec_HopsTo.j0 k a1 a2 y136 true a0_0 l0_1))) else (spec_HopsTo.j0 k a1 a2 y136 true a0_0 l0_1))) else (spec_HopsTo.j0 k a1 a2 y136 true a0_0 l0_1))) = some r := by first | (rw [hy136]; with_reducible exact H) | (have H2_ := (Option.bind_some _ _).symm.trans H; rw [hy136]; with_reducible exact H2_) | (have H2_ := (Option.bind_some _ _).symm.trans H; with_reducible exact H2_) | with_reducible exact H | (rw [hy136]; exact H) | exact H
 have Ny136 := Aside0.mk hy136
 clear hy136
 have HC4 := Aside0.mk H
 clear H
 go_enter Try.func53, Try.ntmps53
 go_upto_region 2 with (first | ((with_reducible refine gate_dst (N := 3) rfl ?_); refine box_event ?hg (N := 3) ?hd (cs := #[.int .i64 a0_0, .slice A0_1 l0_1.length c0_1]) (t := 30) ?hr ?_; (case hd => rfl); (case hg => rfl); (case hr => first | (go_simp; done) | (go_simp; rfl)); intro gb135 hg w5 hbox hb; have BK135 := Aside0.mk hbox; have GW135 := ge_ HB hg; have GE135 := ge_ HB hg; replace HB := at_ HB hb; clear hb hbox hg) | ((with_reducible refine gate_dst (N := 11) rfl ?_); refine Kd.R_lit (Kd.int .i64) _ 3 ?hg (N := 11) ?hd (xs := ([] : List Int)) (inner := []) (ok := fun _ => True) (okp := fun _ => True) ?hr ?hp (fun _ hk => hk) trivial (Below.refl _ _) (Nat.le_refl _) (by simp) ?_; (case hd => rfl); (case hg => rfl); (case hr => first | (go_simp; done) | (go_simp; rfl)); (case hp => exact (Reps.none _ _)); intro v137 w6 ho7 hb hg_ hnew_; clear hg_ hnew_; (first | rw [← Ny136.out] at ho7 | (simp only [Int.reduceToNat] at ho7; rw [← Ny136.out] at ho7)); have HO138 := Aside0.mk (Kd.R_lower ho7 (bz_ HB)); replace BK135 := ab_ BK135 hb; replace HB := at_ HB hb; clear hb ho7))
 (try simp only [Act.put, List.setIfInBounds_toArray, List.set_cons_zero, List.set_cons_succ])
 go_cut [31] (fun v31 wc => ∃ (kq : Nat) (x31_3 : Bool), v31 = .bool x31_3 ∧ Aside0 (spec_HopsTo.j0 kq a1 a2 y136 x31_3 a0_0 l0_1 = some r) ∧ Aside0 (kq ≤ k) ∧ Aside0 (Kd.R (Kd.int .i64) 3 wc w.heap.size (fun _ => True) v137 y136) ∧ Aside0 (wc.heap[gb135]? = some (.cells #[.int .i64 a0_0, (.slice A0_1 l0_1.length c0_1)] 30 (0, 0))) ∧ Aside0 (Below w.heap.size w wc))
 case first =>
  have H := HC4.out
  clear HC4
  replace H := Option.bind_eq_some_iff.mp H
  obtain ⟨t139, A80, H⟩ := H
  have A8 := Aside0.mk A80
  clear A80
  by_cases c9 : t139 = true
  rotate_left
  ·replace c9 := Bool.eq_false_iff.mpr c9
   subst c9
   rw [if_neg (show ¬ (false = true) by decide)] at H
   have H' := Aside0.mk H
   clear H
   have hcz30_0 := cz_ BK135 0 (.int .i64 a0_0)
   have hcz30_1 := cz_ BK135 1 (.slice A0_1 l0_1.length c0_1)
   have hfz30_0 := fz_ BK135 0
   have hfz30_1 := fz_ BK135 1
   go_wp2_with ((with_reducible refine gate_callee (f := 25) rfl ?_); refine gl_ (some 13) Try.func25 #[.agg #[.int .i64 a0_0, .slice A0_1 l0_1.length c0_1]] ?_; (with_reducible refine (spec_GraphOk.calls k a0_0 _ _ l0_1 false _ ?side1 ?side2 A8.out).mono ?_); (case side1 => exact cb_ HR0_1 HB); (case side2 => exact HC0_1.out); rintro e w31 ⟨rfl, hb⟩; refine ⟨_, rfl, ?_⟩; replace HO138 := rb_ HO138 hb; replace BK135 := ab_ BK135 hb; replace HB := at_ HB hb; (try clear hb); (try clear hb2); (try clear hk); (try clear hi))
   go_meet
   case rel => exact ⟨_, (true), er_, H', ⟨by first | omega | exact Nat.le_refl _⟩, ⟨hd_ HO138⟩, ⟨bx_ BK135⟩, ⟨bw_⟩⟩
  subst c9
  rw [if_pos rfl] at H
  replace H := Option.bind_eq_some_iff.mp H
  obtain ⟨t140, A100, H⟩ := H
  have A10 := Aside0.mk A100
  clear A100
  by_cases c11 : t140 = true
  rotate_left
  ·replace c11 := Bool.eq_false_iff.mpr c11
   subst c11
   rw [if_neg (show ¬ (false = true) by decide)] at H
   have H' := Aside0.mk H
   clear H
   have hcz26_0 := cz_ BK135 0 (.int .i64 a0_0)
   have hcz26_1 := cz_ BK135 1 (.slice A0_1 l0_1.length c0_1)
   have hfz26_0 := fz_ BK135 0
   have hfz26_1 := fz_ BK135 1
   go_wp2_with (first | ((with_reducible refine gate_callee (f := 25) rfl ?_); refine gl_ (some 13) Try.func25 #[.agg #[.int .i64 a0_0, .slice A0_1 l0_1.length c0_1]] ?_; (with_reducible refine (spec_GraphOk.calls k a0_0 _ _ l0_1 true _ ?side1 ?side2 A8.out).mono ?_); (case side1 => exact cb_ HR0_1 HB); (case side2 => exact HC0_1.out); rintro e w27 ⟨rfl, hb⟩; refine ⟨_, rfl, ?_⟩; replace HO138 := rb_ HO138 hb; replace BK135 := ab_ BK135 hb; replace HB := at_ HB hb; (try clear hb); (try clear hb2); (try clear hk); (try clear hi); have hcz28_0 := cz_ BK135 0 (.int .i64 a0_0); have hcz28_1 := cz_ BK135 1 (.slice A0_1 l0_1.length c0_1); have hfz28_0 := fz_ BK135 0; have hfz28_1 := fz_ BK135 1) | (go_at_call 45; (with_reducible refine (spec_l03Node.calls a0_0 _ _ l0_1 a1 false _ ?side1 ?side2 A10.out).mono ?_); (case side1 => exact cb_ HR0_1 HB); (case side2 => exact HC0_1.out); rintro e w29 ⟨rfl, hb⟩; replace HO138 := rb_ HO138 hb; replace BK135 := ab_ BK135 hb; replace HB := at_ HB hb; (try clear hb); (try clear hb2); (try clear hk); (try clear hi)))
   go_meet
   case rel => exact ⟨_, (true), er_, H', ⟨by first | omega | exact Nat.le_refl _⟩, ⟨hd_ HO138⟩, ⟨bx_ BK135⟩, ⟨bw_⟩⟩
  subst c11
  rw [if_pos rfl] at H
  replace H := Option.bind_eq_some_iff.mp H
  obtain ⟨t141, A120, H⟩ := H
  have A12 := Aside0.mk A120
  clear A120
  by_cases c13 : t141 = true
  ·subst c13
   rw [if_pos rfl] at H
   have H' := Aside0.mk H
   clear H
   have hcz14_0 := cz_ BK135 0 (.int .i64 a0_0)
   have hcz14_1 := cz_ BK135 1 (.slice A0_1 l0_1.length c0_1)
   have hfz14_0 := fz_ BK135 0
   have hfz14_1 := fz_ BK135 1
   go_wp2_with (first | ((with_reducible refine gate_callee (f := 25) rfl ?_); refine gl_ (some 13) Try.func25 #[.agg #[.int .i64 a0_0, .slice A0_1 l0_1.length c0_1]] ?_; (with_reducible refine (spec_GraphOk.calls k a0_0 _ _ l0_1 true _ ?side1 ?side2 A8.out).mono ?_); (case side1 => exact cb_ HR0_1 HB); (case side2 => exact HC0_1.out); rintro e w15 ⟨rfl, hb⟩; refine ⟨_, rfl, ?_⟩; replace HO138 := rb_ HO138 hb; replace BK135 := ab_ BK135 hb; replace HB := at_ HB hb; (try clear hb); (try clear hb2); (try clear hk); (try clear hi); have hcz16_0 := cz_ BK135 0 (.int .i64 a0_0); have hcz16_1 := cz_ BK135 1 (.slice A0_1 l0_1.length c0_1); have hfz16_0 := fz_ BK135 0; have hfz16_1 := fz_ BK135 1) | (go_at_call 45; (with_reducible refine (spec_l03Node.calls a0_0 _ _ l0_1 a1 true _ ?side1 ?side2 A10.out).mono ?_); (case side1 => exact cb_ HR0_1 HB); (case side2 => exact HC0_1.out); rintro e w17 ⟨rfl, hb⟩; replace HO138 := rb_ HO138 hb; replace BK135 := ab_ BK135 hb; replace HB := at_ HB hb; (try clear hb); (try clear hb2); (try clear hk); (try clear hi); have hcz18_0 := cz_ BK135 0 (.int .i64 a0_0); have hcz18_1 := cz_ BK135 1 (.slice A0_1 l0_1.length c0_1); have hfz18_0 := fz_ BK135 0; have hfz18_1 := fz_ BK135 1) | (go_at_call 45; (with_reducible refine (spec_l03Node.calls a0_0 _ _ l0_1 a2 true _ ?side1 ?side2 A12.out).mono ?_); (case side1 => exact cb_ HR0_1 HB); (case side2 => exact HC0_1.out); rintro e w19 ⟨rfl, hb⟩; replace HO138 := rb_ HO138 hb; replace BK135 := ab_ BK135 hb; replace HB := at_ HB hb; (try clear hb); (try clear hb2); (try clear hk); (try clear hi)))
   go_meet
   case rel => exact ⟨_, ((a1 == a2)), er_, H', ⟨by first | omega | exact Nat.le_refl _⟩, ⟨hd_ HO138⟩, ⟨bx_ BK135⟩, ⟨bw_⟩⟩
  replace c13 := Bool.eq_false_iff.mpr c13
  subst c13
  rw [if_neg (show ¬ (false = true) by decide)] at H
  have H' := Aside0.mk H
  clear H
  have hcz20_0 := cz_ BK135 0 (.int .i64 a0_0)
  have hcz20_1 := cz_ BK135 1 (.slice A0_1 l0_1.length c0_1)
  have hfz20_0 := fz_ BK135 0
  have hfz20_1 := fz_ BK135 1
  go_wp2_with (first | ((with_reducible refine gate_callee (f := 25) rfl ?_); refine gl_ (some 13) Try.func25 #[.agg #[.int .i64 a0_0, .slice A0_1 l0_1.length c0_1]] ?_; (with_reducible refine (spec_GraphOk.calls k a0_0 _ _ l0_1 true _ ?side1 ?side2 A8.out).mono ?_); (case side1 => exact cb_ HR0_1 HB); (case side2 => exact HC0_1.out); rintro e w21 ⟨rfl, hb⟩; refine ⟨_, rfl, ?_⟩; replace HO138 := rb_ HO138 hb; replace BK135 := ab_ BK135 hb; replace HB := at_ HB hb; (try clear hb); (try clear hb2); (try clear hk); (try clear hi); have hcz22_0 := cz_ BK135 0 (.int .i64 a0_0); have hcz22_1 := cz_ BK135 1 (.slice A0_1 l0_1.length c0_1); have hfz22_0 := fz_ BK135 0; have hfz22_1 := fz_ BK135 1) | (go_at_call 45; (with_reducible refine (spec_l03Node.calls a0_0 _ _ l0_1 a1 true _ ?side1 ?side2 A10.out).mono ?_); (case side1 => exact cb_ HR0_1 HB); (case side2 => exact HC0_1.out); rintro e w23 ⟨rfl, hb⟩; replace HO138 := rb_ HO138 hb; replace BK135 := ab_ BK135 hb; replace HB := at_ HB hb; (try clear hb); (try clear hb2); (try clear hk); (try clear hi); have hcz24_0 := cz_ BK135 0 (.int .i64 a0_0); have hcz24_1 := cz_ BK135 1 (.slice A0_1 l0_1.length c0_1); have hfz24_0 := fz_ BK135 0; have hfz24_1 := fz_ BK135 1) | (go_at_call 45; (with_reducible refine (spec_l03Node.calls a0_0 _ _ l0_1 a2 false _ ?side1 ?side2 A12.out).mono ?_); (case side1 => exact cb_ HR0_1 HB); (case side2 => exact HC0_1.out); rintro e w25 ⟨rfl, hb⟩; replace HO138 := rb_ HO138 hb; replace BK135 := ab_ BK135 hb; replace HB := at_ HB hb; (try clear hb); (try clear hb2); (try clear hk); (try clear hi)))
  go_meet
  case rel => exact ⟨_, (true), er_, H', ⟨by first | omega | exact Nat.le_refl _⟩, ⟨hd_ HO138⟩, ⟨bx_ BK135⟩, ⟨bw_⟩⟩
 case rest =>
  clear HC4
  try clear c1
  try clear c2
  try clear p2
  try clear c5
  try clear c9
  try clear c11
  try clear c13
  try clear c25
  try clear hcz14_0
  try clear hcz14_1
  try clear hcz16_0
  try clear hcz16_1
  try clear hcz18_0
  try clear hcz18_1
  try clear hcz20_0
  try clear hcz20_1
  try clear hcz22_0
  try clear hcz22_1
  try clear hcz24_0
  try clear hcz24_1
  try clear hcz26_0
  try clear hcz26_1
  try clear hcz28_0
  try clear hcz28_1
  try clear hcz30_0
  try clear hcz30_1
  try clear hfz14_0
  try clear hfz14_1
  try clear hfz16_0
  try clear hfz16_1
  try clear hfz18_0
  try clear hfz18_1
  try clear hfz20_0
  try clear hfz20_1
  try clear hfz22_0
  try clear hfz22_1
  try clear hfz24_0
  try clear hfz24_1
  try clear hfz26_0
  try clear hfz26_1
  try clear hfz28_0
  try clear hfz28_1
  try clear hfz30_0
  try clear hfz30_1
  obtain ⟨kq, x31_3, rfl, HA, HJ3, HO_7, BK135, HB⟩ := hcut
  cases kq with
  | zero => exact absurd HA.out (by simp [spec_HopsTo.j0])
  | succ kj3 =>
   have H := HA.out
   clear HA
   simp only [spec_HopsTo.j0] at H
   by_cases c32 : x31_3 = true
   ·subst c32
    rw [if_pos rfl] at H
    obtain rfl := Option.some.inj H
    go_wp2
    go_ret
    exact ⟨_, by first | rfl | (simp [errW_none, errW_some] <;> rfl) | (simp [*, errW_none, errW_some] <;> rfl), by first | exact Kd.R_nil _ _ _ _ _ | exact Kd.N_nil _ _ _ _ _ | exact Kd.V_nil _ _ _ _ _ | exact Kd.Q_nil _ _ _ _ _ | exact Kd.S_nil _ _ _ _ _, bw_⟩
   replace c32 := Bool.eq_false_iff.mpr c32
   subst c32
   rw [if_neg (show ¬ (false = true) by decide)] at H
   replace H := Option.bind_eq_some_iff.mp H
   obtain ⟨t142, A330, H⟩ := H
   have A33 := Aside0.mk A330
   clear A330
   obtain ⟨c34b0, H⟩ := iq_ H
   obtain ⟨c35b0, H⟩ := iq_ H
   by_cases c36 : (rd t142 a2) = 1000000
   ·rw [if_pos c36] at H
    have c36b0 : ((rd t142 a2) == 1000000) = true := beq_iff_eq.mpr c36
    have c36b1 : ((rd t142 a2) != 1000000) = false := bne_eq_false_iff_eq.mpr c36
    clear c36
    obtain rfl := Option.some.inj H
    have hcz37_0 := cz_ BK135 0 (.int .i64 a0_0)
    have hcz37_1 := cz_ BK135 1 (.slice A0_1 l0_1.length c0_1)
    have hfz37_0 := fz_ BK135 0
    have hfz37_1 := fz_ BK135 1
    go_wp2_with ((with_reducible refine gate_callee (f := 33) rfl ?_); refine gl_ (some 34) Try.func33 #[.agg #[.int .i64 a0_0, .slice A0_1 l0_1.length c0_1], .int .i64 a1] ?_; (with_reducible refine (spec_Distances.calls kj3 a0_0 _ _ l0_1 a1 t142 _ ?side1 ?side2 A33.out).mono ?_); (case side1 => exact cb_ HR0_1 HB); (case side2 => exact HC0_1.out); rintro e w38 ⟨v143, rfl, ho0, hb⟩; refine ⟨_, rfl, ?_⟩; have HO144 := Aside0.mk (Kd.R_lower (Kd.R_new' ho0 (Kd.R_lt (hd_ HO_7))) (bz_ HB)); replace HO_7 := Aside0.mk (Kd.R_elder' (hd_ HO_7) (Kd.R_base ho0) hb); replace BK135 := ab_ BK135 hb; replace HB := at_ HB hb; (try clear hb); (try clear hb2); (try clear hk); (try clear hi); (try clear ho0); obtain ⟨Ao39, co39, eo39⟩ := Kd.R_slice HO144.out; subst eo39; have p145 : 0 ≤ (a2 : Int) := oa_; have q145 : a2 < (t142.length : Int) := oa_; obtain ⟨ad145, e145, hx145_0⟩ := Kd.at_int (Kd.R_reads' HO144.out).2.2 a2 p145 q145; cases e145; replace p145 := eq_true p145; replace q145 := eq_true q145)
    go_ret
    exact ⟨_, by first | rfl | (simp [errW_none, errW_some] <;> rfl) | (simp [*, errW_none, errW_some] <;> rfl), by first | exact Kd.R_nil _ _ _ _ _ | exact Kd.N_nil _ _ _ _ _ | exact Kd.V_nil _ _ _ _ _ | exact Kd.Q_nil _ _ _ _ _ | exact Kd.S_nil _ _ _ _ _, bw_⟩
   rw [if_neg c36] at H
   have c36b0 : ((rd t142 a2) == 1000000) = false := beq_eq_false_iff_ne.mpr c36
   have c36b1 : ((rd t142 a2) != 1000000) = true := bne_iff_ne.mpr c36
   have H' := Aside0.mk H
   clear H
   have hcz40_0 := cz_ BK135 0 (.int .i64 a0_0)
   have hcz40_1 := cz_ BK135 1 (.slice A0_1 l0_1.length c0_1)
   have hfz40_0 := fz_ BK135 0
   have hfz40_1 := fz_ BK135 1
   go_wp2_with ((with_reducible refine gate_callee (f := 33) rfl ?_); refine gl_ (some 34) Try.func33 #[.agg #[.int .i64 a0_0, .slice A0_1 l0_1.length c0_1], .int .i64 a1] ?_; (with_reducible refine (spec_Distances.calls kj3 a0_0 _ _ l0_1 a1 t142 _ ?side1 ?side2 A33.out).mono ?_); (case side1 => exact cb_ HR0_1 HB); (case side2 => exact HC0_1.out); rintro e w41 ⟨v143, rfl, ho0, hb⟩; refine ⟨_, rfl, ?_⟩; have HO144 := Aside0.mk (Kd.R_lower (Kd.R_new' ho0 (Kd.R_lt (hd_ HO_7))) (bz_ HB)); replace HO_7 := Aside0.mk (Kd.R_elder' (hd_ HO_7) (Kd.R_base ho0) hb); replace BK135 := ab_ BK135 hb; replace HB := at_ HB hb; (try clear hb); (try clear hb2); (try clear hk); (try clear hi); (try clear ho0); obtain ⟨Ao42, co42, eo42⟩ := Kd.R_slice HO144.out; subst eo42; have p145 : 0 ≤ (a2 : Int) := oa_; have q145 : a2 < (t142.length : Int) := oa_; obtain ⟨ad145, e145, hx145_0⟩ := Kd.at_int (Kd.R_reads' HO144.out).2.2 a2 p145 q145; cases e145; replace p145 := eq_true p145; replace q145 := eq_true q145)
   (try simp only [Act.put, List.setIfInBounds_toArray, List.set_cons_zero, List.set_cons_succ])
   go_loopg [7, 9] kj3 (fun kq v7 v9 w' => ∃ (x7_2 : List Int) (x9_2 : Int), v9 = .int .i64 x9_2 ∧ Aside0 (spec_HopsTo.l0 kq a1 a2 x7_2 (rd t142 a2) x9_2 a0_0 l0_1 = some r) ∧ Aside0 (kq ≤ kj3) ∧ Aside0 (Kd.R (Kd.int .i64) 3 w' w.heap.size (fun _ => True) v7 x7_2) ∧ Aside0 (w'.heap[gb135]? = some (.cells #[.int .i64 a0_0, (.slice A0_1 l0_1.length c0_1)] 30 (0, 0))) ∧ Aside0 (Below w.heap.size w w'))
   case atStart => exact ⟨(y136), (0), er_, H', ⟨Nat.le_refl _⟩, ⟨by (with_reducible repeat (first | apply Kd.R_alloc | apply Kd.R_drewN | apply Kd.R_drew)); exact Kd.R_mono HO_7.out (fun _ hk => trivial)⟩, ⟨bx_ BK135⟩, ⟨bw_⟩⟩
   case round =>
    clear H'
    try clear c1
    try clear p1
    try clear q1
    try clear hx1
    try clear c2
    try clear p2
    try clear c3
    try clear c5
    try clear c9
    try clear c11
    try clear c13
    try clear p14
    try clear q14
    try clear hx14
    try clear c25
    try clear c32
    try clear c33
    try clear c34
    try clear c34b0
    try clear c35
    try clear c35b0
    try clear c36
    try clear c36b0
    try clear c36b1
    try clear hcz14_0
    try clear hcz14_1
    try clear hcz16_0
    try clear hcz16_1
    try clear hcz18_0
    try clear hcz18_1
    try clear hcz20_0
    try clear hcz20_1
    try clear hcz22_0
    try clear hcz22_1
    try clear hcz24_0
    try clear hcz24_1
    try clear hcz26_0
    try clear hcz26_1
    try clear hcz28_0
    try clear hcz28_1
    try clear hcz30_0
    try clear hcz30_1
    try clear hcz37_0
    try clear hcz37_1
    try clear hcz40_0
    try clear hcz40_1
    try clear hfz14_0
    try clear hfz14_1
    try clear hfz16_0
    try clear hfz16_1
    try clear hfz18_0
    try clear hfz18_1
    try clear hfz20_0
    try clear hfz20_1
    try clear hfz22_0
    try clear hfz22_1
    try clear hfz24_0
    try clear hfz24_1
    try clear hfz26_0
    try clear hfz26_1
    try clear hfz28_0
    try clear hfz28_1
    try clear hfz30_0
    try clear hfz30_1
    try clear hfz37_0
    try clear hfz37_1
    try clear hfz40_0
    try clear hfz40_1
    try clear hx145_0
    try clear p145
    try clear p2
    try clear q145
    obtain ⟨x7_2, x9_2, rfl, HA, HK2, HO_7, BK135, HB⟩ := hrel
    cases gk with
    | zero => exact absurd HA.out (by simp [spec_HopsTo.l0])
    | succ k2 =>
     have H := HA.out
     clear HA
     simp only [spec_HopsTo.l0] at H
     by_cases c43 : x9_2 < a0_0
     rotate_left
     ·rw [if_neg c43] at H
      have c43b0 : decide (x9_2 < a0_0) = false := decide_eq_false c43
      clear c43
      obtain rfl := Option.some.inj H
      have hcz67_0 := cz_ BK135 0 (.int .i64 a0_0)
      have hcz67_1 := cz_ BK135 1 (.slice A0_1 l0_1.length c0_1)
      have hfz67_0 := fz_ BK135 0
      have hfz67_1 := fz_ BK135 1
      go_wp2
      go_ret
      exact ⟨_, by first | rfl | (simp [errW_none, errW_some] <;> rfl) | (simp [*, errW_none, errW_some] <;> rfl), by (with_reducible repeat (first | apply Kd.R_alloc | apply Kd.R_drewN | apply Kd.R_drew)); exact HO_7.out, bw_⟩
     rw [if_pos c43] at H
     have c43b0 : decide (x9_2 < a0_0) = true := decide_eq_true c43
     clear c43
     replace H := Option.bind_eq_some_iff.mp H
     obtain ⟨t146, A440, H⟩ := H
     have A44 := Aside0.mk A440
     clear A440
     by_cases c45 : x9_2 = a1
     ·rw [if_pos c45] at H
      have c45b0 : (x9_2 == a1) = true := beq_iff_eq.mpr c45
      have c45b1 : (x9_2 != a1) = false := bne_eq_false_iff_eq.mpr c45
      clear c45
      have H' := Aside0.mk H
      clear H
      have hcz46_0 := cz_ BK135 0 (.int .i64 a0_0)
      have hcz46_1 := cz_ BK135 1 (.slice A0_1 l0_1.length c0_1)
      have hfz46_0 := fz_ BK135 0
      have hfz46_1 := fz_ BK135 1
      go_wp2_with ((with_reducible refine gate_callee (f := 72) rfl ?_); refine gl_ (some 49) Try.func72 #[.agg #[.int .i64 a0_0, .slice A0_1 l0_1.length c0_1], .int .i64 a1, .int .i64 x9_2] ?_; (with_reducible refine (spec_l03Cost.calls k2 a0_0 _ _ l0_1 a1 x9_2 t146 _ ?side1 ?side2 A44.out).mono ?_); (case side1 => exact cb_ HR0_1 HB); (case side2 => exact HC0_1.out); rintro e w47 ⟨rfl, hb⟩; refine ⟨_, rfl, ?_⟩; replace HO_7 := rb_ HO_7 hb; replace BK135 := ab_ BK135 hb; replace HB := at_ HB hb; (try clear hb); (try clear hb2); (try clear hk); (try clear hi))
      go_roundg k2
      case measure => have := HJ3.out; have := HK2.out; omega
      case rel => exact ⟨(x7_2), (wrap64 (x9_2 + 1)), er_, H', ⟨by have := HJ3.out; have := HK2.out; omega⟩, ⟨hd_ HO_7⟩, ⟨bx_ BK135⟩, ⟨bw_⟩⟩
     rw [if_neg c45] at H
     have c45b0 : (x9_2 == a1) = false := beq_eq_false_iff_ne.mpr c45
     have c45b1 : (x9_2 != a1) = true := bne_iff_ne.mpr c45
     by_cases c48 : t146 < 1000000
     rotate_left
     ·rw [if_neg c48] at H
      have c48b0 : decide (t146 < 1000000) = false := decide_eq_false c48
      clear c48
      have H' := Aside0.mk H
      clear H
      have hcz65_0 := cz_ BK135 0 (.int .i64 a0_0)
      have hcz65_1 := cz_ BK135 1 (.slice A0_1 l0_1.length c0_1)
      have hfz65_0 := fz_ BK135 0
      have hfz65_1 := fz_ BK135 1
      go_wp2_with ((with_reducible refine gate_callee (f := 72) rfl ?_); refine gl_ (some 49) Try.func72 #[.agg #[.int .i64 a0_0, .slice A0_1 l0_1.length c0_1], .int .i64 a1, .int .i64 x9_2] ?_; (with_reducible refine (spec_l03Cost.calls k2 a0_0 _ _ l0_1 a1 x9_2 t146 _ ?side1 ?side2 A44.out).mono ?_); (case side1 => exact cb_ HR0_1 HB); (case side2 => exact HC0_1.out); rintro e w66 ⟨rfl, hb⟩; refine ⟨_, rfl, ?_⟩; replace HO_7 := rb_ HO_7 hb; replace BK135 := ab_ BK135 hb; replace HB := at_ HB hb; (try clear hb); (try clear hb2); (try clear hk); (try clear hi))
      go_roundg k2
      case measure => have := HJ3.out; have := HK2.out; omega
      case rel => exact ⟨(x7_2), (wrap64 (x9_2 + 1)), er_, H', ⟨by have := HJ3.out; have := HK2.out; omega⟩, ⟨hd_ HO_7⟩, ⟨bx_ BK135⟩, ⟨bw_⟩⟩
     rw [if_pos c48] at H
     have c48b0 : decide (t146 < 1000000) = true := decide_eq_true c48
     clear c48
     replace H := Option.bind_eq_some_iff.mp H
     obtain ⟨t147, A490, H⟩ := H
     have A49 := Aside0.mk A490
     clear A490
     obtain ⟨c50b0, H⟩ := iq_ H
     obtain ⟨c51b0, H⟩ := iq_ H
     by_cases c52 : (wrap64 (t146 + (rd t147 a2))) = (rd t142 a2)
     rotate_left
     ·rw [if_neg c52] at H
      have c52b0 : ((wrap64 (t146 + (rd t147 a2))) == (rd t142 a2)) = false := beq_eq_false_iff_ne.mpr c52
      have c52b1 : ((wrap64 (t146 + (rd t147 a2))) != (rd t142 a2)) = true := bne_iff_ne.mpr c52
      have H' := Aside0.mk H
      clear H
      have hcz60_0 := cz_ BK135 0 (.int .i64 a0_0)
      have hcz60_1 := cz_ BK135 1 (.slice A0_1 l0_1.length c0_1)
      have hfz60_0 := fz_ BK135 0
      have hfz60_1 := fz_ BK135 1
      go_wp2_with (first | ((with_reducible refine gate_callee (f := 72) rfl ?_); refine gl_ (some 49) Try.func72 #[.agg #[.int .i64 a0_0, .slice A0_1 l0_1.length c0_1], .int .i64 a1, .int .i64 x9_2] ?_; (with_reducible refine (spec_l03Cost.calls k2 a0_0 _ _ l0_1 a1 x9_2 t146 _ ?side1 ?side2 A44.out).mono ?_); (case side1 => exact cb_ HR0_1 HB); (case side2 => exact HC0_1.out); rintro e w61 ⟨rfl, hb⟩; refine ⟨_, rfl, ?_⟩; replace HO_7 := rb_ HO_7 hb; replace BK135 := ab_ BK135 hb; replace HB := at_ HB hb; (try clear hb); (try clear hb2); (try clear hk); (try clear hi); have hcz62_0 := cz_ BK135 0 (.int .i64 a0_0); have hcz62_1 := cz_ BK135 1 (.slice A0_1 l0_1.length c0_1); have hfz62_0 := fz_ BK135 0; have hfz62_1 := fz_ BK135 1) | (go_at_call 33; (with_reducible refine (spec_Distances.calls k2 a0_0 _ _ l0_1 x9_2 t147 _ ?side1 ?side2 A49.out).mono ?_); (case side1 => exact cb_ HR0_1 HB); (case side2 => exact HC0_1.out); rintro e w63 ⟨v148, rfl, ho0, hb⟩; have HO149 := Aside0.mk (Kd.R_lower (Kd.R_new' ho0 (Kd.R_lt (hd_ HO_7))) (bz_ HB)); replace HO_7 := Aside0.mk (Kd.R_elder' (hd_ HO_7) (Kd.R_base ho0) hb); replace BK135 := ab_ BK135 hb; replace HB := at_ HB hb; (try clear hb); (try clear hb2); (try clear hk); (try clear hi); (try clear ho0); obtain ⟨Ao64, co64, eo64⟩ := Kd.R_slice HO149.out; subst eo64; have p150 : 0 ≤ (a2 : Int) := oa_; have q150 : a2 < (t147.length : Int) := oa_; obtain ⟨ad150, e150, hx150_0⟩ := Kd.at_int (Kd.R_reads' HO149.out).2.2 a2 p150 q150; cases e150; replace p150 := eq_true p150; replace q150 := eq_true q150))
      go_roundg k2
      case measure => have := HJ3.out; have := HK2.out; omega
      case rel => exact ⟨(x7_2), (wrap64 (x9_2 + 1)), er_, H', ⟨by have := HJ3.out; have := HK2.out; omega⟩, ⟨by (with_reducible repeat (first | apply Kd.R_alloc | apply Kd.R_drewN | apply Kd.R_drew)); exact Kd.R_mono HO_7.out (fun _ hk => trivial)⟩, ⟨bx_ BK135⟩, ⟨bw_⟩⟩
     rw [if_pos c52] at H
     have c52b0 : ((wrap64 (t146 + (rd t147 a2))) == (rd t142 a2)) = true := beq_iff_eq.mpr c52
     have c52b1 : ((wrap64 (t146 + (rd t147 a2))) != (rd t142 a2)) = false := bne_eq_false_iff_eq.mpr c52
     clear c52
     by_cases c53 : x7_2.length < 17592186044416
     rotate_left
     ·rw [if_neg c53] at H
      exact absurd H (by simp)
     rw [if_pos c53] at H
     have LMc53 := Aside0.mk c53
     clear c53
     obtain ⟨y151, hy151⟩ : ∃ y_ : List Int, y_ = (x7_2 ++ [x9_2]) := ⟨_, rfl⟩
     replace H : (spec_HopsTo.l0 k2 a1 a2 y151 (rd t142 a2) (wrap64 (x9_2 + 1)) a0_0 l0_1) = some r := by first | (rw [hy151]; with_reducible exact H) | (have H2_ := (Option.bind_some _ _).symm.trans H; rw [hy151]; with_reducible exact H2_) | (have H2_ := (Option.bind_some _ _).symm.trans H; with_reducible exact H2_) | with_reducible exact H | (rw [hy151]; exact H) | exact H
     have Ny151 := Aside0.mk hy151
     clear hy151
     have H' := Aside0.mk H
     clear H
     have hcz54_0 := cz_ BK135 0 (.int .i64 a0_0)
     have hcz54_1 := cz_ BK135 1 (.slice A0_1 l0_1.length c0_1)
     have hfz54_0 := fz_ BK135 0
     have hfz54_1 := fz_ BK135 1
     go_wp2_with (first | ((with_reducible refine gate_callee (f := 72) rfl ?_); refine gl_ (some 49) Try.func72 #[.agg #[.int .i64 a0_0, .slice A0_1 l0_1.length c0_1], .int .i64 a1, .int .i64 x9_2] ?_; (with_reducible refine (spec_l03Cost.calls k2 a0_0 _ _ l0_1 a1 x9_2 t146 _ ?side1 ?side2 A44.out).mono ?_); (case side1 => exact cb_ HR0_1 HB); (case side2 => exact HC0_1.out); rintro e w55 ⟨rfl, hb⟩; refine ⟨_, rfl, ?_⟩; replace HO_7 := rb_ HO_7 hb; replace BK135 := ab_ BK135 hb; replace HB := at_ HB hb; (try clear hb); (try clear hb2); (try clear hk); (try clear hi); have hcz56_0 := cz_ BK135 0 (.int .i64 a0_0); have hcz56_1 := cz_ BK135 1 (.slice A0_1 l0_1.length c0_1); have hfz56_0 := fz_ BK135 0; have hfz56_1 := fz_ BK135 1) | (go_at_call 33; (with_reducible refine (spec_Distances.calls k2 a0_0 _ _ l0_1 x9_2 t147 _ ?side1 ?side2 A49.out).mono ?_); (case side1 => exact cb_ HR0_1 HB); (case side2 => exact HC0_1.out); rintro e w57 ⟨v148, rfl, ho0, hb⟩; have HO149 := Aside0.mk (Kd.R_lower (Kd.R_new' ho0 (Kd.R_lt (hd_ HO_7))) (bz_ HB)); replace HO_7 := Aside0.mk (Kd.R_elder' (hd_ HO_7) (Kd.R_base ho0) hb); replace BK135 := ab_ BK135 hb; replace HB := at_ HB hb; (try clear hb); (try clear hb2); (try clear hk); (try clear hi); (try clear ho0); obtain ⟨Ao58, co58, eo58⟩ := Kd.R_slice HO149.out; subst eo58; have p150 : 0 ≤ (a2 : Int) := oa_; have q150 : a2 < (t147.length : Int) := oa_; obtain ⟨ad150, e150, hx150_0⟩ := Kd.at_int (Kd.R_reads' HO149.out).2.2 a2 p150 q150; cases e150; replace p150 := eq_true p150; replace q150 := eq_true q150) | ((with_reducible refine gate_builtin (b := .append) (xs := #[.tmp 69, .tmp 71]) rfl ?_); at_builtin; refine Kd.R_append (Kd.int .i64) (w0 := w) w.heap.size rfl (.tmp 69) (.tmp 71) 26 3 (.int .i64 0) 8 rfl Try.underlying26 info3 rfl (by decide) (by omega) u7 x7_2 x9_2 [.int .i64 x9_2] (fun k_ => some k_ ≠ (.slice (some ad150) t147.length co58 : Value).ownBlock) (fun _ => False) rfl rfl ?aP (fun _ hk => hk.elim) ?aF ?aO ?aB ?aS ?aL ?_; (case aP => exact rfl); (case aB => exact (bw_)); (case aF => exact (fun k_ hk => Kd.fresh' (Kd.R_lt (hd_ HO149)) k_ hk)); (case aO => exact (by (with_reducible repeat (first | apply Kd.R_alloc | apply Kd.R_drewN | apply Kd.R_drew)); exact Kd.R_mono HO_7.out (fun _ hk => hk.2))); (case aS => exact (bz_ HB)); (case aL => have := LMc53.out; omega); intro v152 w59 ho hb hg hat; rw [← Ny151.out] at ho; have HO153 := Aside0.mk ho; replace BK135 := Aside0.mk (blk_grown (g := gb135) (o := .cells #[.int .i64 a0_0, .slice A0_1 l0_1.length c0_1] 30 (0, 0)) (bx_ BK135) hg (Kd.R_ne HO_7.out BK135.out (by decide))); replace HO149 := Aside0.mk (Kd.R_after (ok := (fun _ => True)) (hd_ HO149) hg hat); replace HB := Aside0.mk (hb); clear HO_7; clear ho hb hg hat))
     go_roundg k2
     case measure => have := HJ3.out; have := HK2.out; omega
     case rel => exact ⟨(y151), (wrap64 (x9_2 + 1)), er_, H', ⟨by have := HJ3.out; have := HK2.out; omega⟩, ⟨by (with_reducible repeat (first | apply Kd.R_alloc | apply Kd.R_drewN | apply Kd.R_drew)); exact Kd.R_mono HO153.out (fun _ hk => trivial)⟩, ⟨bx_ BK135⟩, ⟨bw_⟩⟩

end Go.Proofs.Ythmahcohcphljaa.QFnShares
