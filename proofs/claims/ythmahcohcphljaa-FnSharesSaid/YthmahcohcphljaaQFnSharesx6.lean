/- Contracts of functions that the law reaches: what each call returns and what it leaves in memory. Made by this session over the print of the kit. -/
import Derived.Test.YthmahcohcphljaaQFnSharesx0
import Derived.Test.YthmahcohcphljaaQFnSharesx5
namespace Go.Proofs.Ythmahcohcphljaa.QFnShares
open Go.RowKit Go.Proofs.YthmahcohcphljaaS.PrintWords Go.Proofs.YthmahcohcphljaaS.PrintLast Go.Proofs.YthmahcohcphljaaS.PrintMore
attribute [local go_sem] max2_int min2_int max_two min_two max_three min_three max_four min_four   -- for this text's walks alone
set_option linter.unusedVariables false
set_option linter.unusedSimpArgs false
def ba6_0 : Array Bool := bs_ 40 0
def ba6_1 : Array Bool := bs_ 40 2
def ba6_2 : Array Bool := bs_ 40 3
def ba6_3 : Array Bool := bs_ 40 7
def ba6_4 : Array Bool := bs_ 40 15
def ba6_5 : Array Bool := bs_ 40 31
def ba6_6 : Array Bool := bs_ 40 63
def ba6_7 : Array Bool := bs_ 40 191
def ba6_8 : Array Bool := bs_ 40 255
def ba6_9 : Array Bool := bs_ 40 511
def ba6_10 : Array Bool := bs_ 40 1023
def ba6_11 : Array Bool := bs_ 40 2047
def ba6_12 : Array Bool := bs_ 40 4095
def ba6_13 : Array Bool := bs_ 40 8191
def ba6_14 : Array Bool := bs_ 40 16383
def ba6_15 : Array Bool := bs_ 40 49151
def ba6_16 : Array Bool := bs_ 40 65535
def ba6_17 : Array Bool := bs_ 40 131071
def ba6_18 : Array Bool := bs_ 40 262143
def ba6_19 : Array Bool := bs_ 40 524287
def ba6_20 : Array Bool := bs_ 40 1048575
def ba6_21 : Array Bool := bs_ 40 2097151
def ba6_22 : Array Bool := bs_ 40 4194303
def ba6_23 : Array Bool := bs_ 40 8388607
def ba6_24 : Array Bool := bs_ 40 16777215
def ba6_25 : Array Bool := bs_ 40 33554431
def ba6_26 : Array Bool := bs_ 40 67108863
def ba6_27 : Array Bool := bs_ 40 134217727
def ba6_28 : Array Bool := bs_ 40 268435455
def ba6_29 : Array Bool := bs_ 40 536870911
def ba6_30 : Array Bool := bs_ 40 1073741823
def ba6_31 : Array Bool := bs_ 40 2147483647
def ba6_32 : Array Bool := bs_ 40 4294967295
def ba6_33 : Array Bool := bs_ 40 8589934591
def ba6_34 : Array Bool := bs_ 40 17179869183
def ba6_35 : Array Bool := bs_ 40 34359738367
def ba6_36 : Array Bool := bs_ 40 68719476735
def ba6_37 : Array Bool := bs_ 40 137438953471
def ba6_38 : Array Bool := bs_ 40 274877906943
def ba6_39 : Array Bool := bs_ 40 549755813887
def ba6_40 : Array Bool := bs_ 40 1099511627775
def ba6_41 : Array Bool := bs_ 40 3221225471
def ba6_42 : Array Bool := bs_ 40 7516192767
def ba6_43 : Array Bool := bs_ 40 32767
def ba6_44 : Array Bool := bs_ 40 127

/-! ### impl_GraphOk: function 47 -/
mutual
def impl_GraphOk.j0 : Nat → Bool → Int → List (S76) → Option (Bool)
 | 0, _, _, _ => none
 | k + 1, x14, x198000, x198001 => if x14 = true then (some false) else (impl_GraphOk.l0 k x198001 (x198001.length : Int) 0 x198000 x198001)
def impl_GraphOk.l0 : Nat → List (S76) → Int → Int → Int → List (S76) → Option (Bool)
 | 0, _, _, _, _, _ => none
 | k + 1, x16, x17, x18, x198000, x198001 => if x18 < x17 then (if 0 ≤ x18 then (if x18 < (x16.length : Int) then ((impl_Graph_isNode.f x198000 x198001 ((rd_T76 x16 x18).f0)).bind fun t201 => (if t201 = true then ((impl_Graph_isNode.f x198000 x198001 ((rd_T76 x16 x18).f1)).bind fun t202 => (if t202 = true then (if ((rd_T76 x16 x18).f0) = ((rd_T76 x16 x18).f1) then (some false) else ((impl_within.f ((rd_T76 x16 x18).f2) 1 1000).bind fun t203 => (if t203 = true then (if x18 > 0 then (if 0 ≤ (wrap64 (x18 - 1)) then (if (wrap64 (x18 - 1)) < (x198001.length : Int) then ((impl_compareEdges.f ((rd_T76 x198001 (wrap64 (x18 - 1))).f0) ((rd_T76 x198001 (wrap64 (x18 - 1))).f1) ((rd_T76 x198001 (wrap64 (x18 - 1))).f2) ((rd_T76 x16 x18).f0) ((rd_T76 x16 x18).f1) ((rd_T76 x16 x18).f2)).bind fun t205 => (if t205 ≥ 0 then (some false) else (impl_GraphOk.l0 k x16 x17 (wrap64 (x18 + 1)) x198000 x198001))) else (none)) else (none)) else (impl_GraphOk.l0 k x16 x17 (wrap64 (x18 + 1)) x198000 x198001)) else (some false)))) else (some false))) else (some false))) else (none)) else (none)) else (some true)
end
def impl_GraphOk.f (k : Nat) (a0_0 : Int) (l0_1 : List (S76)) : Option (Bool) := (impl_within.f a0_0 1 10).bind fun t198 => (if t198 = true then (impl_GraphOk.j0 k (decide ((l0_1.length : Int) > 60)) a0_0 l0_1) else (impl_GraphOk.j0 k true a0_0 l0_1))
theorem impl_GraphOk.mono_l : ∀ k, (∀ y0 y1 y2, LeO (impl_GraphOk.j0 k y0 y1 y2) (impl_GraphOk.j0 (k + 1) y0 y1 y2)) ∧ (∀ y0 y1 y2 y3 y4, LeO (impl_GraphOk.l0 k y0 y1 y2 y3 y4) (impl_GraphOk.l0 (k + 1) y0 y1 y2 y3 y4))
 | 0 => ⟨fun _ _ _ r h => by simp [impl_GraphOk.j0] at h, fun _ _ _ _ _ r h => by simp [impl_GraphOk.l0] at h⟩
 | k + 1 => by
  obtain ⟨ih0, ih1⟩ := impl_GraphOk.mono_l k
  refine ⟨?_, ?_⟩
  ·intro y0 y1 y2
   unfold impl_GraphOk.j0
   repeat' first | (with_reducible first | exact ih0 _ _ _ | exact ih1 _ _ _ _ _ | exact LeO.refl _ | exact LeO.none _ | refine LeO.ite ?_ ?_ | refine LeO.bind ?_ (fun _ => ?_)) | exact ih0 _ _ _ | exact ih1 _ _ _ _ _ | exact LeO.none _ | refine LeO.ite ?_ ?_ | refine LeO.bind ?_ (fun _ => ?_)
  ·intro y0 y1 y2 y3 y4
   unfold impl_GraphOk.l0
   repeat' first | (with_reducible first | exact ih0 _ _ _ | exact ih1 _ _ _ _ _ | exact LeO.refl _ | exact LeO.none _ | refine LeO.ite ?_ ?_ | refine LeO.bind ?_ (fun _ => ?_)) | exact ih0 _ _ _ | exact ih1 _ _ _ _ _ | exact LeO.none _ | refine LeO.ite ?_ ?_ | refine LeO.bind ?_ (fun _ => ?_)
theorem impl_GraphOk.mono : ∀ a0 a1 k, LeO (impl_GraphOk.f k a0 a1) (impl_GraphOk.f (k + 1) a0 a1) := by
 intro a0 a1 k
 obtain ⟨ih0, ih1⟩ := impl_GraphOk.mono_l k
 unfold impl_GraphOk.f
 repeat' first | (with_reducible first | exact ih0 _ _ _ | exact ih1 _ _ _ _ _ | exact LeO.refl _ | exact LeO.none _ | refine LeO.ite ?_ ?_ | refine LeO.bind ?_ (fun _ => ?_)) | exact ih0 _ _ _ | exact ih1 _ _ _ _ _ | exact LeO.none _ | refine LeO.ite ?_ ?_ | refine LeO.bind ?_ (fun _ => ?_)
def impl_GraphOk.T6 : Bool × List (List Nat × List Nat) := (true, [([], []), ([], []), ([1], [1]), ([0, 2], [0, 2]), ([3], [3]), ([4, 3], [4]), ([5], [5]), ([5], [5]), ([7, 5], [5, 7]), ([6, 8, 5, 5], [5, 6, 8]), ([9, 5], [5, 9]), ([5, 10], [5, 10]), ([11, 9], [11]), ([12], [12]), ([13, 12], [12, 13]), ([12], [12]), ([15, 12], [12, 15]), ([14, 16, 12], [12, 14, 16]), ([12, 17], [12, 17]), ([18, 12], [18]), ([19], [19]), ([20, 19], [19, 20]), ([21, 19, 19], [19, 21]), ([22, 19], [19, 22]), ([19, 23], [19, 23]), ([24, 22], [24]), ([25], [25]), ([26, 25], [25, 26]), ([27, 25, 25], [25, 27]), ([28], [28]), ([29, 28], [28, 29]), ([28], [28]), ([31, 28], [28, 31]), ([30, 32, 28], [28, 30, 32]), ([33, 28], [28, 33]), ([28], [28]), ([34, 35, 28, 28], [28, 34, 35]), ([36, 28], [28, 36]), ([28, 37, 25], [25, 28, 37]), ([25, 38], [25, 38])])
def impl_GraphOk.B6 : List Nat := [0, 0, 2, 7, 15, 31, 63, 63, 191, 511, 1023, 2047, 4095, 8191, 16383, 8191, 40959, 131071, 262143, 524287, 1048575, 2097151, 4194303, 8388607, 16777215, 33554431, 67108863, 134217727, 268435455, 536870911, 1073741823, 536870911, 2684354559, 8589934591, 17179869183, 536870911, 68719476735, 137438953471, 274877906943, 549755813887]
theorem impl_GraphOk.tab6 : rtab .any (opsOf Try.f47 6) = impl_GraphOk.T6 := by kernel_rfl
theorem impl_GraphOk.bits6 : waitsOk impl_GraphOk.T6.2 impl_GraphOk.B6 = true := by kernel_rfl
set_option maxHeartbeats 8000000 in
set_option maxRecDepth 100000 in
theorem impl_GraphOk.calls (k : Nat) (a0_0 : Int) (A0_1 : Option Addr) (c0_1 : Nat) (l0_1 : List (S76)) (r : Bool) (w : World) (hr0_1 : Kd.C k76 w A0_1 l0_1.length l0_1) (hc0_1 : l0_1.length ≤ c0_1) (h : impl_GraphOk.f k a0_0 l0_1 = some r) :
  Calls Try.prog 47 #[.agg #[.int .i64 a0_0, .slice A0_1 l0_1.length c0_1]] w fun e w' => e = .returned (.bool r) ∧ Below w.heap.size w w' := by
 have hu30 := Try.underlying30
 have hu76 := Try.underlying76
 have HR0_1 := Aside0.mk hr0_1
 have HC0_1 := Aside0.mk hc0_1
 clear hr0_1 hc0_1
 have HB := Aside0.mk (Below.refl w.heap.size w)
 have H : ((impl_within.f a0_0 1 10).bind fun t198 => (if t198 = true then (impl_GraphOk.j0 k (decide ((l0_1.length : Int) > 60)) a0_0 l0_1) else (impl_GraphOk.j0 k true a0_0 l0_1))) = some r := h
 clear h
 have HC2 := Aside0.mk H
 clear H
 go_enter Try.func47, Try.ntmps47
 go_upto_region 1 with ((with_reducible refine gate_dst (N := 1) rfl ?_); refine box_event ?hg (N := 1) ?hd (cs := #[.int .i64 a0_0, .slice A0_1 l0_1.length c0_1]) (t := 30) ?hr ?_; (case hd => rfl); (case hg => rfl); (case hr => first | (go_simp; done) | (go_simp; rfl)); intro gb197 hg w3 hbox hb; have BK197 := Aside0.mk hbox; have GW197 := ge_ HB hg; have GE197 := ge_ HB hg; replace HB := at_ HB hb; clear hb hbox hg)
 (try simp only [Act.put, List.setIfInBounds_toArray, List.set_cons_zero, List.set_cons_succ])
 go_cut [14] (fun v14 wc => ∃ (kq : Nat) (x14_1 : Bool), v14 = .bool x14_1 ∧ Aside0 (impl_GraphOk.j0 kq x14_1 a0_0 l0_1 = some r) ∧ Aside0 (kq ≤ k) ∧ Aside0 (wc.heap[gb197]? = some (.cells #[.int .i64 a0_0, (.slice A0_1 l0_1.length c0_1)] 30 (0, 0))) ∧ Aside0 (Below w.heap.size w wc))
 case first =>
  have H := HC2.out
  clear HC2
  replace H := Option.bind_eq_some_iff.mp H
  obtain ⟨t198, A40, H⟩ := H
  have A4 := Aside0.mk A40
  clear A40
  by_cases c5 : t198 = true
  ·subst c5
   rw [if_pos rfl] at H
   have H' := Aside0.mk H
   clear H
   have hcz6_0 := cz_ BK197 0 (.int .i64 a0_0)
   have hcz6_1 := cz_ BK197 1 (.slice A0_1 l0_1.length c0_1)
   have hfz6_0 := fz_ BK197 0
   have hfz6_1 := fz_ BK197 1
   go_wp2_with ((with_reducible refine gate_callee (f := 54) rfl ?_); refine gl_ (some 7) Try.func54 #[.int .i64 a0_0, .int .i64 1, .int .i64 10] ?_; (with_reducible refine (impl_within.calls a0_0 1 10 true _ A4.out).mono ?_); rintro e w' ⟨rfl, ⟨nd, rfl⟩⟩; refine ⟨_, rfl, ?_⟩)
   go_meet
   case rel => exact ⟨_, (decide ((l0_1.length : Int) > 60)), er_, H', ⟨by first | omega | exact Nat.le_refl _⟩, ⟨bx_ BK197⟩, ⟨bw_⟩⟩
  replace c5 := Bool.eq_false_iff.mpr c5
  subst c5
  rw [if_neg (show ¬ (false = true) by decide)] at H
  have H' := Aside0.mk H
  clear H
  have hcz7_0 := cz_ BK197 0 (.int .i64 a0_0)
  have hcz7_1 := cz_ BK197 1 (.slice A0_1 l0_1.length c0_1)
  have hfz7_0 := fz_ BK197 0
  have hfz7_1 := fz_ BK197 1
  go_wp2_with ((with_reducible refine gate_callee (f := 54) rfl ?_); refine gl_ (some 7) Try.func54 #[.int .i64 a0_0, .int .i64 1, .int .i64 10] ?_; (with_reducible refine (impl_within.calls a0_0 1 10 false _ A4.out).mono ?_); rintro e w' ⟨rfl, ⟨nd, rfl⟩⟩; refine ⟨_, rfl, ?_⟩)
  go_meet
  case rel => exact ⟨_, (true), er_, H', ⟨by first | omega | exact Nat.le_refl _⟩, ⟨bx_ BK197⟩, ⟨bw_⟩⟩
 case rest =>
  clear HC2
  try clear p2
  try clear c4
  try clear c5
  try clear hcz6_0
  try clear hcz6_1
  try clear hcz7_0
  try clear hcz7_1
  try clear hfz6_0
  try clear hfz6_1
  try clear hfz7_0
  try clear hfz7_1
  obtain ⟨kq, x14_1, rfl, HA, HJ1, BK197, HB⟩ := hcut
  cases kq with
  | zero => exact absurd HA.out (by simp [impl_GraphOk.j0])
  | succ kj1 =>
   have H := HA.out
   clear HA
   simp only [impl_GraphOk.j0] at H
   by_cases c8 : x14_1 = true
   ·subst c8
    rw [if_pos rfl] at H
    obtain rfl := Option.some.inj H
    go_wp2
    go_ret
    exact ⟨by first | rfl | (simp [errW_none, errW_some] <;> rfl) | (simp [*, errW_none, errW_some] <;> rfl), bw_⟩
   replace c8 := Bool.eq_false_iff.mpr c8
   subst c8
   rw [if_neg (show ¬ (false = true) by decide)] at H
   have H' := Aside0.mk H
   clear H
   have hcz9_0 := cz_ BK197 0 (.int .i64 a0_0)
   have hcz9_1 := cz_ BK197 1 (.slice A0_1 l0_1.length c0_1)
   have hfz9_0 := fz_ BK197 0
   have hfz9_1 := fz_ BK197 1
   go_wp2
   go_loopg [18] kj1 (fun kq v18 w' => ∃ (x18_2 : Int), v18 = .int .i64 x18_2 ∧ Aside0 (impl_GraphOk.l0 kq l0_1 (l0_1.length : Int) x18_2 a0_0 l0_1 = some r) ∧ Aside0 (kq ≤ kj1) ∧ Aside0 (w'.heap[gb197]? = some (.cells #[.int .i64 a0_0, (.slice A0_1 l0_1.length c0_1)] 30 (0, 0))) ∧ Aside0 (Below w.heap.size w w'))
   case atStart => exact ⟨(0), er_, H', ⟨Nat.le_refl _⟩, ⟨bx_ BK197⟩, ⟨bw_⟩⟩
   case round =>
    clear H'
    try clear p2
    try clear c4
    try clear c5
    try clear c8
    try clear hcz6_0
    try clear hcz6_1
    try clear hcz7_0
    try clear hcz7_1
    try clear hcz9_0
    try clear hcz9_1
    try clear hfz6_0
    try clear hfz6_1
    try clear hfz7_0
    try clear hfz7_1
    try clear hfz9_0
    try clear hfz9_1
    try clear p2
    obtain ⟨x18_2, rfl, HA, HK2, BK197, HB⟩ := hrel
    cases gk with
    | zero => exact absurd HA.out (by simp [impl_GraphOk.l0])
    | succ k2 =>
     have H := HA.out
     clear HA
     simp only [impl_GraphOk.l0] at H
     by_cases c10 : x18_2 < (l0_1.length : Int)
     rotate_left
     ·rw [if_neg c10] at H
      have c10b0 : decide (x18_2 < (l0_1.length : Int)) = false := decide_eq_false c10
      clear c10
      obtain rfl := Option.some.inj H
      go_wp2
      go_ret
      exact ⟨by first | rfl | (simp [errW_none, errW_some] <;> rfl) | (simp [*, errW_none, errW_some] <;> rfl), bw_⟩
     rw [if_pos c10] at H
     have c10b0 : decide (x18_2 < (l0_1.length : Int)) = true := decide_eq_true c10
     clear c10
     obtain ⟨c11b0, H⟩ := iq_ H
     obtain ⟨c12b0, H⟩ := iq_ H
     replace H := Option.bind_eq_some_iff.mp H
     obtain ⟨t201, A130, H⟩ := H
     have A13 := Aside0.mk A130
     clear A130
     by_cases c14 : t201 = true
     rotate_left
     ·replace c14 := Bool.eq_false_iff.mpr c14
      subst c14
      rw [if_neg (show ¬ (false = true) by decide)] at H
      obtain rfl := Option.some.inj H
      have p199 : 0 ≤ (x18_2 : Int) := oa_
      have q199 : x18_2 < (l0_1.length : Int) := oa_
      obtain ⟨ad199, e199, hx199_0, hx199_1, hx199_2⟩ := at_T76 HR0_1.out x18_2 p199 q199
      cases e199
      replace hx199_0 := (HB.out.cell (World.block_lt_of_cell? w _ hx199_0)).trans hx199_0
      replace hx199_1 := (HB.out.cell (World.block_lt_of_cell? w _ hx199_1)).trans hx199_1
      replace hx199_2 := (HB.out.cell (World.block_lt_of_cell? w _ hx199_2)).trans hx199_2
      replace p199 := eq_true p199
      replace q199 := eq_true q199
      try go_wp2_with ((with_reducible refine gate_dst (N := 4) rfl ?_); refine box_event ?hg (N := 4) ?hd (cs := #[.int .i64 0, .int .i64 0, .int .i64 0]) (t := 76) ?hr ?_; (case hd => rfl); (case hg => rfl); (case hr => first | (go_simp; done) | (go_simp; rfl)); intro gb200 hg w70 hbox hb; have BK200 := Aside0.mk hbox; have GW200 := ge_ HB hg; have GE200 := ge_ HB hg; have NB197_200 := nl_ BK197 hg; have NB200_197 := ng_ BK197 hg; replace HB := at_ HB hb; replace BK197 := ab_ BK197 hb; clear hb hbox hg; have hnb71 := NB200_197.out; have hnc71 := NB197_200.out; have hcz72_0 := cz_ BK200 0 (.int .i64 0); have hcz72_1 := cz_ BK200 1 (.int .i64 0); have hcz72_2 := cz_ BK200 2 (.int .i64 0); have hfz72_0 := fz_ BK200 0; have hfz72_1 := fz_ BK200 1; have hfz72_2 := fz_ BK200 2)
      have n0_ : Aside0 ((((w70.setCell ⟨gb200, 0, none⟩ (.int .i64 ((rd_T76 l0_1 x18_2).f0))).setCell ⟨gb200, 1, none⟩ (.int .i64 ((rd_T76 l0_1 x18_2).f1))).setCell ⟨gb200, 2, none⟩ (.int .i64 ((rd_T76 l0_1 x18_2).f2))).heap[gb197]? = some (.cells #[.int .i64 a0_0, .slice (some ad199) l0_1.length c0_1] 30 (0, 0))) := ⟨bc_ BK197⟩
      have n1_ : Aside0 ((((w70.setCell ⟨gb200, 0, none⟩ (.int .i64 ((rd_T76 l0_1 x18_2).f0))).setCell ⟨gb200, 1, none⟩ (.int .i64 ((rd_T76 l0_1 x18_2).f1))).setCell ⟨gb200, 2, none⟩ (.int .i64 ((rd_T76 l0_1 x18_2).f2))).heap[gb200]? = some (.cells #[.int .i64 ((rd_T76 l0_1 x18_2).f0), .int .i64 ((rd_T76 l0_1 x18_2).f1), .int .i64 ((rd_T76 l0_1 x18_2).f2)] 76 (0, 0))) := ⟨by refine bd_ ?_; refine blk_put (cs := #[.int .i64 ((rd_T76 l0_1 x18_2).f0), .int .i64 ((rd_T76 l0_1 x18_2).f1), .int .i64 0]) ?_ 2 _ rfl; refine bd_ ?_; refine blk_put (cs := #[.int .i64 ((rd_T76 l0_1 x18_2).f0), .int .i64 0, .int .i64 0]) ?_ 1 _ rfl; refine bd_ ?_; refine blk_put (cs := #[.int .i64 0, .int .i64 0, .int .i64 0]) ?_ 0 _ rfl; refine bd_ ?_; exact BK200.out⟩
      have n2_ : Aside0 (Below w.heap.size w (((w70.setCell ⟨gb200, 0, none⟩ (.int .i64 ((rd_T76 l0_1 x18_2).f0))).setCell ⟨gb200, 1, none⟩ (.int .i64 ((rd_T76 l0_1 x18_2).f1))).setCell ⟨gb200, 2, none⟩ (.int .i64 ((rd_T76 l0_1 x18_2).f2)))) := ⟨bw_⟩
      (try clear BK197)
      (try clear BK200)
      (try clear HB)
      generalize (((w70.setCell ⟨gb200, 0, none⟩ (.int .i64 ((rd_T76 l0_1 x18_2).f0))).setCell ⟨gb200, 1, none⟩ (.int .i64 ((rd_T76 l0_1 x18_2).f1))).setCell ⟨gb200, 2, none⟩ (.int .i64 ((rd_T76 l0_1 x18_2).f2))) = w73 at n0_ n1_ n2_ ⊢
      have BK197 := n0_
      have BK200 := n1_
      have HB := n2_
      clear n0_ n1_ n2_
      replace BK197 := ad_ BK197
      replace BK200 := ad_ BK200
      replace HB := Aside0.mk (below_drew1 HB.out)
      refine start_ (n := 40) (S := fun w' => w'.cell? ⟨gb197, 0, none⟩ = some (.int .i64 a0_0) ∧ w'.cell? ⟨gb197, 1, none⟩ = some (.slice (some ad199) l0_1.length c0_1) ∧ w'.cell? ⟨gb200, 0, none⟩ = some (.int .i64 ((rd_T76 l0_1 x18_2).f0)) ∧ w'.cell? ⟨gb200, 1, none⟩ = some (.int .i64 ((rd_T76 l0_1 x18_2).f1)) ∧ w'.cell? ⟨gb200, 2, none⟩ = some (.int .i64 ((rd_T76 l0_1 x18_2).f2))) (ds := []) ba6_0 (by kernel_rfl) rfl rfl ⟨(blk_cell BK197.out 0).trans rfl, (blk_cell BK197.out 1).trans rfl, (blk_cell BK200.out 0).trans rfl, (blk_cell BK200.out 1).trans rfl, (blk_cell BK200.out 2).trans rfl⟩ (fun hHeld => ?_); refine with_tabW impl_GraphOk.tab6 impl_GraphOk.bits6 (fun HT_ HW_ => ?_)
      generalize w73.drew = w74 at BK197 BK200 HB hHeld ⊢
      refine pz_ 1 24 ba6_1 HT_ ?_
      refine pt_ 0 23 ba6_2 HT_ HW_ hHeld ?_
      refine pt_ 2 25 ba6_3 HT_ HW_ hHeld ?_
      refine one_ (i := 3) (N := some 26) ba6_4 rfl rfl (one_of HT_.out (by kernel_rfl)) (by decide) (fun K hK => ?_)
      refine gz_ Try.func48 #[.agg #[.int .i64 a0_0, .slice (some ad199) l0_1.length c0_1], .int .i64 ((rd_T76 l0_1 x18_2).f0)] ?_
      with_reducible refine (impl_Graph_isNode.calls a0_0 _ _ l0_1 ((rd_T76 l0_1 x18_2).f0) false _ ?side1 ?side2 A13.out).mono ?_
      (case side1 => exact cb_ HR0_1 HB)
      (case side2 => exact HC0_1.out)
      rintro e w75 ⟨rfl, hb⟩
      refine ⟨_, rfl, ?_⟩
      replace BK197 := ab_ BK197 hb
      replace BK200 := ab_ BK200 hb
      replace HB := at_ HB hb
      (try clear hb)
      (try clear hb2)
      (try clear hk)
      (try clear hi)
      refine hK.out _ _ ⟨(blk_cell BK197.out 0).trans rfl, (blk_cell BK197.out 1).trans rfl, (blk_cell BK200.out 0).trans rfl, (blk_cell BK200.out 1).trans rfl, (blk_cell BK200.out 2).trans rfl⟩ (fun hHeld => ?_)
      clear hK K
      refine nz_ 26 ?_
      refine pz_ 4 27 ba6_5 HT_ ?_
      refine pz_ 5 28 ba6_6 HT_ ?_
      refine pu_ 6 29 ba6_44 HT_ ?_
      refine pu_ 7 30 ba6_8 HT_ ?_
      refine pu_ 8 31 ba6_9 HT_ ?_
      refine pu_ 9 32 ba6_10 HT_ ?_
      refine pu_ 10 33 ba6_11 HT_ ?_
      refine pz_ 11 34 ba6_12 HT_ ?_
      refine pz_ 12 35 ba6_13 HT_ ?_
      refine pu_ 13 36 ba6_14 HT_ ?_
      refine pu_ 14 37 ba6_43 HT_ ?_
      refine pu_ 15 38 ba6_16 HT_ ?_
      refine pu_ 16 39 ba6_17 HT_ ?_
      refine pu_ 17 40 ba6_18 HT_ ?_
      refine pz_ 18 41 ba6_19 HT_ ?_
      refine pz_ 19 42 ba6_20 HT_ ?_
      refine pu_ 20 43 ba6_21 HT_ ?_
      refine pu_ 21 44 ba6_22 HT_ ?_
      refine pu_ 22 45 ba6_23 HT_ ?_
      refine pu_ 23 46 ba6_24 HT_ ?_
      refine pz_ 24 47 ba6_25 HT_ ?_
      refine pz_ 25 48 ba6_26 HT_ ?_
      refine pu_ 26 49 ba6_27 HT_ ?_
      refine pu_ 27 50 ba6_28 HT_ ?_
      refine pu_ 28 51 ba6_29 HT_ ?_
      refine pu_ 29 52 ba6_30 HT_ ?_
      refine pu_ 30 53 ba6_31 HT_ ?_
      refine pu_ 31 54 ba6_32 HT_ ?_
      refine pu_ 32 55 ba6_33 HT_ ?_
      refine pu_ 33 56 ba6_34 HT_ ?_
      refine pu_ 34 57 ba6_35 HT_ ?_
      refine pu_ 35 58 ba6_36 HT_ ?_
      refine pu_ 36 59 ba6_37 HT_ ?_
      refine pu_ 37 60 ba6_38 HT_ ?_
      refine pu_ 38 61 ba6_39 HT_ ?_
      refine pz_ 39 62 ba6_40 HT_ ?_
      refine done_ (done_of HT_.out (by kernel_rfl)) ?_
      try go_wp2
      go_ret
      exact ⟨by first | rfl | (simp [errW_none, errW_some] <;> rfl) | (simp [*, errW_none, errW_some] <;> rfl), bw_⟩
     subst c14
     rw [if_pos rfl] at H
     replace H := Option.bind_eq_some_iff.mp H
     obtain ⟨t202, A150, H⟩ := H
     have A15 := Aside0.mk A150
     clear A150
     by_cases c16 : t202 = true
     rotate_left
     ·replace c16 := Bool.eq_false_iff.mpr c16
      subst c16
      rw [if_neg (show ¬ (false = true) by decide)] at H
      obtain rfl := Option.some.inj H
      have p199 : 0 ≤ (x18_2 : Int) := oa_
      have q199 : x18_2 < (l0_1.length : Int) := oa_
      obtain ⟨ad199, e199, hx199_0, hx199_1, hx199_2⟩ := at_T76 HR0_1.out x18_2 p199 q199
      cases e199
      replace hx199_0 := (HB.out.cell (World.block_lt_of_cell? w _ hx199_0)).trans hx199_0
      replace hx199_1 := (HB.out.cell (World.block_lt_of_cell? w _ hx199_1)).trans hx199_1
      replace hx199_2 := (HB.out.cell (World.block_lt_of_cell? w _ hx199_2)).trans hx199_2
      replace p199 := eq_true p199
      replace q199 := eq_true q199
      try go_wp2_with ((with_reducible refine gate_dst (N := 4) rfl ?_); refine box_event ?hg (N := 4) ?hd (cs := #[.int .i64 0, .int .i64 0, .int .i64 0]) (t := 76) ?hr ?_; (case hd => rfl); (case hg => rfl); (case hr => first | (go_simp; done) | (go_simp; rfl)); intro gb200 hg w63 hbox hb; have BK200 := Aside0.mk hbox; have GW200 := ge_ HB hg; have GE200 := ge_ HB hg; have NB197_200 := nl_ BK197 hg; have NB200_197 := ng_ BK197 hg; replace HB := at_ HB hb; replace BK197 := ab_ BK197 hb; clear hb hbox hg; have hnb64 := NB200_197.out; have hnc64 := NB197_200.out; have hcz65_0 := cz_ BK200 0 (.int .i64 0); have hcz65_1 := cz_ BK200 1 (.int .i64 0); have hcz65_2 := cz_ BK200 2 (.int .i64 0); have hfz65_0 := fz_ BK200 0; have hfz65_1 := fz_ BK200 1; have hfz65_2 := fz_ BK200 2)
      have n0_ : Aside0 ((((w63.setCell ⟨gb200, 0, none⟩ (.int .i64 ((rd_T76 l0_1 x18_2).f0))).setCell ⟨gb200, 1, none⟩ (.int .i64 ((rd_T76 l0_1 x18_2).f1))).setCell ⟨gb200, 2, none⟩ (.int .i64 ((rd_T76 l0_1 x18_2).f2))).heap[gb197]? = some (.cells #[.int .i64 a0_0, .slice (some ad199) l0_1.length c0_1] 30 (0, 0))) := ⟨bc_ BK197⟩
      have n1_ : Aside0 ((((w63.setCell ⟨gb200, 0, none⟩ (.int .i64 ((rd_T76 l0_1 x18_2).f0))).setCell ⟨gb200, 1, none⟩ (.int .i64 ((rd_T76 l0_1 x18_2).f1))).setCell ⟨gb200, 2, none⟩ (.int .i64 ((rd_T76 l0_1 x18_2).f2))).heap[gb200]? = some (.cells #[.int .i64 ((rd_T76 l0_1 x18_2).f0), .int .i64 ((rd_T76 l0_1 x18_2).f1), .int .i64 ((rd_T76 l0_1 x18_2).f2)] 76 (0, 0))) := ⟨by refine bd_ ?_; refine blk_put (cs := #[.int .i64 ((rd_T76 l0_1 x18_2).f0), .int .i64 ((rd_T76 l0_1 x18_2).f1), .int .i64 0]) ?_ 2 _ rfl; refine bd_ ?_; refine blk_put (cs := #[.int .i64 ((rd_T76 l0_1 x18_2).f0), .int .i64 0, .int .i64 0]) ?_ 1 _ rfl; refine bd_ ?_; refine blk_put (cs := #[.int .i64 0, .int .i64 0, .int .i64 0]) ?_ 0 _ rfl; refine bd_ ?_; exact BK200.out⟩
      have n2_ : Aside0 (Below w.heap.size w (((w63.setCell ⟨gb200, 0, none⟩ (.int .i64 ((rd_T76 l0_1 x18_2).f0))).setCell ⟨gb200, 1, none⟩ (.int .i64 ((rd_T76 l0_1 x18_2).f1))).setCell ⟨gb200, 2, none⟩ (.int .i64 ((rd_T76 l0_1 x18_2).f2)))) := ⟨bw_⟩
      (try clear BK197)
      (try clear BK200)
      (try clear HB)
      generalize (((w63.setCell ⟨gb200, 0, none⟩ (.int .i64 ((rd_T76 l0_1 x18_2).f0))).setCell ⟨gb200, 1, none⟩ (.int .i64 ((rd_T76 l0_1 x18_2).f1))).setCell ⟨gb200, 2, none⟩ (.int .i64 ((rd_T76 l0_1 x18_2).f2))) = w66 at n0_ n1_ n2_ ⊢
      have BK197 := n0_
      have BK200 := n1_
      have HB := n2_
      clear n0_ n1_ n2_
      replace BK197 := ad_ BK197
      replace BK200 := ad_ BK200
      replace HB := Aside0.mk (below_drew1 HB.out)
      refine start_ (n := 40) (S := fun w' => w'.cell? ⟨gb197, 0, none⟩ = some (.int .i64 a0_0) ∧ w'.cell? ⟨gb197, 1, none⟩ = some (.slice (some ad199) l0_1.length c0_1) ∧ w'.cell? ⟨gb200, 0, none⟩ = some (.int .i64 ((rd_T76 l0_1 x18_2).f0)) ∧ w'.cell? ⟨gb200, 1, none⟩ = some (.int .i64 ((rd_T76 l0_1 x18_2).f1)) ∧ w'.cell? ⟨gb200, 2, none⟩ = some (.int .i64 ((rd_T76 l0_1 x18_2).f2))) (ds := []) ba6_0 (by kernel_rfl) rfl rfl ⟨(blk_cell BK197.out 0).trans rfl, (blk_cell BK197.out 1).trans rfl, (blk_cell BK200.out 0).trans rfl, (blk_cell BK200.out 1).trans rfl, (blk_cell BK200.out 2).trans rfl⟩ (fun hHeld => ?_); refine with_tabW impl_GraphOk.tab6 impl_GraphOk.bits6 (fun HT_ HW_ => ?_)
      generalize w66.drew = w67 at BK197 BK200 HB hHeld ⊢
      refine pz_ 1 24 ba6_1 HT_ ?_
      refine pt_ 0 23 ba6_2 HT_ HW_ hHeld ?_
      refine pt_ 2 25 ba6_3 HT_ HW_ hHeld ?_
      refine one_ (i := 3) (N := some 26) ba6_4 rfl rfl (one_of HT_.out (by kernel_rfl)) (by decide) (fun K hK => ?_)
      refine gz_ Try.func48 #[.agg #[.int .i64 a0_0, .slice (some ad199) l0_1.length c0_1], .int .i64 ((rd_T76 l0_1 x18_2).f0)] ?_
      with_reducible refine (impl_Graph_isNode.calls a0_0 _ _ l0_1 ((rd_T76 l0_1 x18_2).f0) true _ ?side1 ?side2 A13.out).mono ?_
      (case side1 => exact cb_ HR0_1 HB)
      (case side2 => exact HC0_1.out)
      rintro e w68 ⟨rfl, hb⟩
      refine ⟨_, rfl, ?_⟩
      replace BK197 := ab_ BK197 hb
      replace BK200 := ab_ BK200 hb
      replace HB := at_ HB hb
      (try clear hb)
      (try clear hb2)
      (try clear hk)
      (try clear hi)
      refine hK.out _ _ ⟨(blk_cell BK197.out 0).trans rfl, (blk_cell BK197.out 1).trans rfl, (blk_cell BK200.out 0).trans rfl, (blk_cell BK200.out 1).trans rfl, (blk_cell BK200.out 2).trans rfl⟩ (fun hHeld => ?_)
      clear hK K
      refine nz_ 26 ?_
      refine pz_ 4 27 ba6_5 HT_ ?_
      refine pz_ 5 28 ba6_6 HT_ ?_
      refine pz_ 7 30 ba6_7 HT_ ?_
      refine pt_ 6 29 ba6_8 HT_ HW_ hHeld ?_
      refine pt_ 8 31 ba6_9 HT_ HW_ hHeld ?_
      refine one_ (i := 9) (N := some 32) ba6_10 rfl rfl (one_of HT_.out (by kernel_rfl)) (by decide) (fun K hK => ?_)
      refine gz_ Try.func48 #[.agg #[.int .i64 a0_0, .slice (some ad199) l0_1.length c0_1], .int .i64 ((rd_T76 l0_1 x18_2).f1)] ?_
      with_reducible refine (impl_Graph_isNode.calls a0_0 _ _ l0_1 ((rd_T76 l0_1 x18_2).f1) false _ ?side1 ?side2 A15.out).mono ?_
      (case side1 => exact cb_ HR0_1 HB)
      (case side2 => exact HC0_1.out)
      rintro e w69 ⟨rfl, hb⟩
      refine ⟨_, rfl, ?_⟩
      replace BK197 := ab_ BK197 hb
      replace BK200 := ab_ BK200 hb
      replace HB := at_ HB hb
      (try clear hb)
      (try clear hb2)
      (try clear hk)
      (try clear hi)
      refine hK.out _ _ ⟨(blk_cell BK197.out 0).trans rfl, (blk_cell BK197.out 1).trans rfl, (blk_cell BK200.out 0).trans rfl, (blk_cell BK200.out 1).trans rfl, (blk_cell BK200.out 2).trans rfl⟩ (fun hHeld => ?_)
      clear hK K
      refine nz_ 32 ?_
      refine pz_ 10 33 ba6_11 HT_ ?_
      refine pz_ 11 34 ba6_12 HT_ ?_
      refine pz_ 12 35 ba6_13 HT_ ?_
      refine pu_ 13 36 ba6_14 HT_ ?_
      refine pu_ 14 37 ba6_43 HT_ ?_
      refine pu_ 15 38 ba6_16 HT_ ?_
      refine pu_ 16 39 ba6_17 HT_ ?_
      refine pu_ 17 40 ba6_18 HT_ ?_
      refine pz_ 18 41 ba6_19 HT_ ?_
      refine pz_ 19 42 ba6_20 HT_ ?_
      refine pu_ 20 43 ba6_21 HT_ ?_
      refine pu_ 21 44 ba6_22 HT_ ?_
      refine pu_ 22 45 ba6_23 HT_ ?_
      refine pu_ 23 46 ba6_24 HT_ ?_
      refine pz_ 24 47 ba6_25 HT_ ?_
      refine pz_ 25 48 ba6_26 HT_ ?_
      refine pu_ 26 49 ba6_27 HT_ ?_
      refine pu_ 27 50 ba6_28 HT_ ?_
      refine pu_ 28 51 ba6_29 HT_ ?_
      refine pu_ 29 52 ba6_30 HT_ ?_
      refine pu_ 30 53 ba6_31 HT_ ?_
      refine pu_ 31 54 ba6_32 HT_ ?_
      refine pu_ 32 55 ba6_33 HT_ ?_
      refine pu_ 33 56 ba6_34 HT_ ?_
      refine pu_ 34 57 ba6_35 HT_ ?_
      refine pu_ 35 58 ba6_36 HT_ ?_
      refine pu_ 36 59 ba6_37 HT_ ?_
      refine pu_ 37 60 ba6_38 HT_ ?_
      refine pu_ 38 61 ba6_39 HT_ ?_
      refine pz_ 39 62 ba6_40 HT_ ?_
      refine done_ (done_of HT_.out (by kernel_rfl)) ?_
      try go_wp2
      go_ret
      exact ⟨by first | rfl | (simp [errW_none, errW_some] <;> rfl) | (simp [*, errW_none, errW_some] <;> rfl), bw_⟩
     subst c16
     rw [if_pos rfl] at H
     by_cases c17 : ((rd_T76 l0_1 x18_2).f0) = ((rd_T76 l0_1 x18_2).f1)
     ·rw [if_pos c17] at H
      have c17b0 : (((rd_T76 l0_1 x18_2).f0) == ((rd_T76 l0_1 x18_2).f1)) = true := beq_iff_eq.mpr c17
      have c17b1 : (((rd_T76 l0_1 x18_2).f0) != ((rd_T76 l0_1 x18_2).f1)) = false := bne_eq_false_iff_eq.mpr c17
      clear c17
      obtain rfl := Option.some.inj H
      have p199 : 0 ≤ (x18_2 : Int) := oa_
      have q199 : x18_2 < (l0_1.length : Int) := oa_
      obtain ⟨ad199, e199, hx199_0, hx199_1, hx199_2⟩ := at_T76 HR0_1.out x18_2 p199 q199
      cases e199
      replace hx199_0 := (HB.out.cell (World.block_lt_of_cell? w _ hx199_0)).trans hx199_0
      replace hx199_1 := (HB.out.cell (World.block_lt_of_cell? w _ hx199_1)).trans hx199_1
      replace hx199_2 := (HB.out.cell (World.block_lt_of_cell? w _ hx199_2)).trans hx199_2
      replace p199 := eq_true p199
      replace q199 := eq_true q199
      try go_wp2_with ((with_reducible refine gate_dst (N := 4) rfl ?_); refine box_event ?hg (N := 4) ?hd (cs := #[.int .i64 0, .int .i64 0, .int .i64 0]) (t := 76) ?hr ?_; (case hd => rfl); (case hg => rfl); (case hr => first | (go_simp; done) | (go_simp; rfl)); intro gb200 hg w18 hbox hb; have BK200 := Aside0.mk hbox; have GW200 := ge_ HB hg; have GE200 := ge_ HB hg; have NB197_200 := nl_ BK197 hg; have NB200_197 := ng_ BK197 hg; replace HB := at_ HB hb; replace BK197 := ab_ BK197 hb; clear hb hbox hg; have hnb19 := NB200_197.out; have hnc19 := NB197_200.out; have hcz20_0 := cz_ BK200 0 (.int .i64 0); have hcz20_1 := cz_ BK200 1 (.int .i64 0); have hcz20_2 := cz_ BK200 2 (.int .i64 0); have hfz20_0 := fz_ BK200 0; have hfz20_1 := fz_ BK200 1; have hfz20_2 := fz_ BK200 2)
      have n0_ : Aside0 ((((w18.setCell ⟨gb200, 0, none⟩ (.int .i64 ((rd_T76 l0_1 x18_2).f0))).setCell ⟨gb200, 1, none⟩ (.int .i64 ((rd_T76 l0_1 x18_2).f1))).setCell ⟨gb200, 2, none⟩ (.int .i64 ((rd_T76 l0_1 x18_2).f2))).heap[gb197]? = some (.cells #[.int .i64 a0_0, .slice (some ad199) l0_1.length c0_1] 30 (0, 0))) := ⟨bc_ BK197⟩
      have n1_ : Aside0 ((((w18.setCell ⟨gb200, 0, none⟩ (.int .i64 ((rd_T76 l0_1 x18_2).f0))).setCell ⟨gb200, 1, none⟩ (.int .i64 ((rd_T76 l0_1 x18_2).f1))).setCell ⟨gb200, 2, none⟩ (.int .i64 ((rd_T76 l0_1 x18_2).f2))).heap[gb200]? = some (.cells #[.int .i64 ((rd_T76 l0_1 x18_2).f0), .int .i64 ((rd_T76 l0_1 x18_2).f1), .int .i64 ((rd_T76 l0_1 x18_2).f2)] 76 (0, 0))) := ⟨by refine bd_ ?_; refine blk_put (cs := #[.int .i64 ((rd_T76 l0_1 x18_2).f0), .int .i64 ((rd_T76 l0_1 x18_2).f1), .int .i64 0]) ?_ 2 _ rfl; refine bd_ ?_; refine blk_put (cs := #[.int .i64 ((rd_T76 l0_1 x18_2).f0), .int .i64 0, .int .i64 0]) ?_ 1 _ rfl; refine bd_ ?_; refine blk_put (cs := #[.int .i64 0, .int .i64 0, .int .i64 0]) ?_ 0 _ rfl; refine bd_ ?_; exact BK200.out⟩
      have n2_ : Aside0 (Below w.heap.size w (((w18.setCell ⟨gb200, 0, none⟩ (.int .i64 ((rd_T76 l0_1 x18_2).f0))).setCell ⟨gb200, 1, none⟩ (.int .i64 ((rd_T76 l0_1 x18_2).f1))).setCell ⟨gb200, 2, none⟩ (.int .i64 ((rd_T76 l0_1 x18_2).f2)))) := ⟨bw_⟩
      (try clear BK197)
      (try clear BK200)
      (try clear HB)
      generalize (((w18.setCell ⟨gb200, 0, none⟩ (.int .i64 ((rd_T76 l0_1 x18_2).f0))).setCell ⟨gb200, 1, none⟩ (.int .i64 ((rd_T76 l0_1 x18_2).f1))).setCell ⟨gb200, 2, none⟩ (.int .i64 ((rd_T76 l0_1 x18_2).f2))) = w21 at n0_ n1_ n2_ ⊢
      have BK197 := n0_
      have BK200 := n1_
      have HB := n2_
      clear n0_ n1_ n2_
      replace BK197 := ad_ BK197
      replace BK200 := ad_ BK200
      replace HB := Aside0.mk (below_drew1 HB.out)
      refine start_ (n := 40) (S := fun w' => w'.cell? ⟨gb197, 0, none⟩ = some (.int .i64 a0_0) ∧ w'.cell? ⟨gb197, 1, none⟩ = some (.slice (some ad199) l0_1.length c0_1) ∧ w'.cell? ⟨gb200, 0, none⟩ = some (.int .i64 ((rd_T76 l0_1 x18_2).f0)) ∧ w'.cell? ⟨gb200, 1, none⟩ = some (.int .i64 ((rd_T76 l0_1 x18_2).f1)) ∧ w'.cell? ⟨gb200, 2, none⟩ = some (.int .i64 ((rd_T76 l0_1 x18_2).f2))) (ds := []) ba6_0 (by kernel_rfl) rfl rfl ⟨(blk_cell BK197.out 0).trans rfl, (blk_cell BK197.out 1).trans rfl, (blk_cell BK200.out 0).trans rfl, (blk_cell BK200.out 1).trans rfl, (blk_cell BK200.out 2).trans rfl⟩ (fun hHeld => ?_); refine with_tabW impl_GraphOk.tab6 impl_GraphOk.bits6 (fun HT_ HW_ => ?_)
      generalize w21.drew = w22 at BK197 BK200 HB hHeld ⊢
      refine pz_ 1 24 ba6_1 HT_ ?_
      refine pt_ 0 23 ba6_2 HT_ HW_ hHeld ?_
      refine pt_ 2 25 ba6_3 HT_ HW_ hHeld ?_
      refine one_ (i := 3) (N := some 26) ba6_4 rfl rfl (one_of HT_.out (by kernel_rfl)) (by decide) (fun K hK => ?_)
      refine gz_ Try.func48 #[.agg #[.int .i64 a0_0, .slice (some ad199) l0_1.length c0_1], .int .i64 ((rd_T76 l0_1 x18_2).f0)] ?_
      with_reducible refine (impl_Graph_isNode.calls a0_0 _ _ l0_1 ((rd_T76 l0_1 x18_2).f0) true _ ?side1 ?side2 A13.out).mono ?_
      (case side1 => exact cb_ HR0_1 HB)
      (case side2 => exact HC0_1.out)
      rintro e w23 ⟨rfl, hb⟩
      refine ⟨_, rfl, ?_⟩
      replace BK197 := ab_ BK197 hb
      replace BK200 := ab_ BK200 hb
      replace HB := at_ HB hb
      (try clear hb)
      (try clear hb2)
      (try clear hk)
      (try clear hi)
      refine hK.out _ _ ⟨(blk_cell BK197.out 0).trans rfl, (blk_cell BK197.out 1).trans rfl, (blk_cell BK200.out 0).trans rfl, (blk_cell BK200.out 1).trans rfl, (blk_cell BK200.out 2).trans rfl⟩ (fun hHeld => ?_)
      clear hK K
      refine nz_ 26 ?_
      refine pz_ 4 27 ba6_5 HT_ ?_
      refine pz_ 5 28 ba6_6 HT_ ?_
      refine pz_ 7 30 ba6_7 HT_ ?_
      refine pt_ 6 29 ba6_8 HT_ HW_ hHeld ?_
      refine pt_ 8 31 ba6_9 HT_ HW_ hHeld ?_
      refine one_ (i := 9) (N := some 32) ba6_10 rfl rfl (one_of HT_.out (by kernel_rfl)) (by decide) (fun K hK => ?_)
      refine gz_ Try.func48 #[.agg #[.int .i64 a0_0, .slice (some ad199) l0_1.length c0_1], .int .i64 ((rd_T76 l0_1 x18_2).f1)] ?_
      with_reducible refine (impl_Graph_isNode.calls a0_0 _ _ l0_1 ((rd_T76 l0_1 x18_2).f1) true _ ?side1 ?side2 A15.out).mono ?_
      (case side1 => exact cb_ HR0_1 HB)
      (case side2 => exact HC0_1.out)
      rintro e w24 ⟨rfl, hb⟩
      refine ⟨_, rfl, ?_⟩
      replace BK197 := ab_ BK197 hb
      replace BK200 := ab_ BK200 hb
      replace HB := at_ HB hb
      (try clear hb)
      (try clear hb2)
      (try clear hk)
      (try clear hi)
      refine hK.out _ _ ⟨(blk_cell BK197.out 0).trans rfl, (blk_cell BK197.out 1).trans rfl, (blk_cell BK200.out 0).trans rfl, (blk_cell BK200.out 1).trans rfl, (blk_cell BK200.out 2).trans rfl⟩ (fun hHeld => ?_)
      clear hK K
      refine nz_ 32 ?_
      refine pz_ 10 33 ba6_11 HT_ ?_
      refine pz_ 11 34 ba6_12 HT_ ?_
      refine pz_ 12 35 ba6_13 HT_ ?_
      refine pz_ 13 36 ba6_14 HT_ ?_
      refine pz_ 15 38 ba6_15 HT_ ?_
      refine pt_ 14 37 ba6_16 HT_ HW_ hHeld ?_
      refine pt_ 16 39 ba6_17 HT_ HW_ hHeld ?_
      refine pz_ 17 40 ba6_18 HT_ ?_
      refine pz_ 18 41 ba6_19 HT_ ?_
      refine pz_ 19 42 ba6_20 HT_ ?_
      refine pu_ 20 43 ba6_21 HT_ ?_
      refine pu_ 21 44 ba6_22 HT_ ?_
      refine pu_ 22 45 ba6_23 HT_ ?_
      refine pu_ 23 46 ba6_24 HT_ ?_
      refine pz_ 24 47 ba6_25 HT_ ?_
      refine pz_ 25 48 ba6_26 HT_ ?_
      refine pu_ 26 49 ba6_27 HT_ ?_
      refine pu_ 27 50 ba6_28 HT_ ?_
      refine pu_ 28 51 ba6_29 HT_ ?_
      refine pu_ 29 52 ba6_30 HT_ ?_
      refine pu_ 30 53 ba6_31 HT_ ?_
      refine pu_ 31 54 ba6_32 HT_ ?_
      refine pu_ 32 55 ba6_33 HT_ ?_
      refine pu_ 33 56 ba6_34 HT_ ?_
      refine pu_ 34 57 ba6_35 HT_ ?_
      refine pu_ 35 58 ba6_36 HT_ ?_
      refine pu_ 36 59 ba6_37 HT_ ?_
      refine pu_ 37 60 ba6_38 HT_ ?_
      refine pu_ 38 61 ba6_39 HT_ ?_
      refine pz_ 39 62 ba6_40 HT_ ?_
      refine done_ (done_of HT_.out (by kernel_rfl)) ?_
      try go_wp2
      go_ret
      exact ⟨by first | rfl | (simp [errW_none, errW_some] <;> rfl) | (simp [*, errW_none, errW_some] <;> rfl), bw_⟩
     rw [if_neg c17] at H
     have c17b0 : (((rd_T76 l0_1 x18_2).f0) == ((rd_T76 l0_1 x18_2).f1)) = false := beq_eq_false_iff_ne.mpr c17
     have c17b1 : (((rd_T76 l0_1 x18_2).f0) != ((rd_T76 l0_1 x18_2).f1)) = true := bne_iff_ne.mpr c17
     replace H := Option.bind_eq_some_iff.mp H
     obtain ⟨t203, A250, H⟩ := H
     have A25 := Aside0.mk A250
     clear A250
     by_cases c26 : t203 = true
     rotate_left
     ·replace c26 := Bool.eq_false_iff.mpr c26
      subst c26
      rw [if_neg (show ¬ (false = true) by decide)] at H
      obtain rfl := Option.some.inj H
      have p199 : 0 ≤ (x18_2 : Int) := oa_
      have q199 : x18_2 < (l0_1.length : Int) := oa_
      obtain ⟨ad199, e199, hx199_0, hx199_1, hx199_2⟩ := at_T76 HR0_1.out x18_2 p199 q199
      cases e199
      replace hx199_0 := (HB.out.cell (World.block_lt_of_cell? w _ hx199_0)).trans hx199_0
      replace hx199_1 := (HB.out.cell (World.block_lt_of_cell? w _ hx199_1)).trans hx199_1
      replace hx199_2 := (HB.out.cell (World.block_lt_of_cell? w _ hx199_2)).trans hx199_2
      replace p199 := eq_true p199
      replace q199 := eq_true q199
      try go_wp2_with ((with_reducible refine gate_dst (N := 4) rfl ?_); refine box_event ?hg (N := 4) ?hd (cs := #[.int .i64 0, .int .i64 0, .int .i64 0]) (t := 76) ?hr ?_; (case hd => rfl); (case hg => rfl); (case hr => first | (go_simp; done) | (go_simp; rfl)); intro gb200 hg w56 hbox hb; have BK200 := Aside0.mk hbox; have GW200 := ge_ HB hg; have GE200 := ge_ HB hg; have NB197_200 := nl_ BK197 hg; have NB200_197 := ng_ BK197 hg; replace HB := at_ HB hb; replace BK197 := ab_ BK197 hb; clear hb hbox hg; have hnb57 := NB200_197.out; have hnc57 := NB197_200.out; have hcz58_0 := cz_ BK200 0 (.int .i64 0); have hcz58_1 := cz_ BK200 1 (.int .i64 0); have hcz58_2 := cz_ BK200 2 (.int .i64 0); have hfz58_0 := fz_ BK200 0; have hfz58_1 := fz_ BK200 1; have hfz58_2 := fz_ BK200 2)
      have n0_ : Aside0 ((((w56.setCell ⟨gb200, 0, none⟩ (.int .i64 ((rd_T76 l0_1 x18_2).f0))).setCell ⟨gb200, 1, none⟩ (.int .i64 ((rd_T76 l0_1 x18_2).f1))).setCell ⟨gb200, 2, none⟩ (.int .i64 ((rd_T76 l0_1 x18_2).f2))).heap[gb197]? = some (.cells #[.int .i64 a0_0, .slice (some ad199) l0_1.length c0_1] 30 (0, 0))) := ⟨bc_ BK197⟩
      have n1_ : Aside0 ((((w56.setCell ⟨gb200, 0, none⟩ (.int .i64 ((rd_T76 l0_1 x18_2).f0))).setCell ⟨gb200, 1, none⟩ (.int .i64 ((rd_T76 l0_1 x18_2).f1))).setCell ⟨gb200, 2, none⟩ (.int .i64 ((rd_T76 l0_1 x18_2).f2))).heap[gb200]? = some (.cells #[.int .i64 ((rd_T76 l0_1 x18_2).f0), .int .i64 ((rd_T76 l0_1 x18_2).f1), .int .i64 ((rd_T76 l0_1 x18_2).f2)] 76 (0, 0))) := ⟨by refine bd_ ?_; refine blk_put (cs := #[.int .i64 ((rd_T76 l0_1 x18_2).f0), .int .i64 ((rd_T76 l0_1 x18_2).f1), .int .i64 0]) ?_ 2 _ rfl; refine bd_ ?_; refine blk_put (cs := #[.int .i64 ((rd_T76 l0_1 x18_2).f0), .int .i64 0, .int .i64 0]) ?_ 1 _ rfl; refine bd_ ?_; refine blk_put (cs := #[.int .i64 0, .int .i64 0, .int .i64 0]) ?_ 0 _ rfl; refine bd_ ?_; exact BK200.out⟩
      have n2_ : Aside0 (Below w.heap.size w (((w56.setCell ⟨gb200, 0, none⟩ (.int .i64 ((rd_T76 l0_1 x18_2).f0))).setCell ⟨gb200, 1, none⟩ (.int .i64 ((rd_T76 l0_1 x18_2).f1))).setCell ⟨gb200, 2, none⟩ (.int .i64 ((rd_T76 l0_1 x18_2).f2)))) := ⟨bw_⟩
      (try clear BK197)
      (try clear BK200)
      (try clear HB)
      generalize (((w56.setCell ⟨gb200, 0, none⟩ (.int .i64 ((rd_T76 l0_1 x18_2).f0))).setCell ⟨gb200, 1, none⟩ (.int .i64 ((rd_T76 l0_1 x18_2).f1))).setCell ⟨gb200, 2, none⟩ (.int .i64 ((rd_T76 l0_1 x18_2).f2))) = w59 at n0_ n1_ n2_ ⊢
      have BK197 := n0_
      have BK200 := n1_
      have HB := n2_
      clear n0_ n1_ n2_
      replace BK197 := ad_ BK197
      replace BK200 := ad_ BK200
      replace HB := Aside0.mk (below_drew1 HB.out)
      refine start_ (n := 40) (S := fun w' => w'.cell? ⟨gb197, 0, none⟩ = some (.int .i64 a0_0) ∧ w'.cell? ⟨gb197, 1, none⟩ = some (.slice (some ad199) l0_1.length c0_1) ∧ w'.cell? ⟨gb200, 0, none⟩ = some (.int .i64 ((rd_T76 l0_1 x18_2).f0)) ∧ w'.cell? ⟨gb200, 1, none⟩ = some (.int .i64 ((rd_T76 l0_1 x18_2).f1)) ∧ w'.cell? ⟨gb200, 2, none⟩ = some (.int .i64 ((rd_T76 l0_1 x18_2).f2))) (ds := []) ba6_0 (by kernel_rfl) rfl rfl ⟨(blk_cell BK197.out 0).trans rfl, (blk_cell BK197.out 1).trans rfl, (blk_cell BK200.out 0).trans rfl, (blk_cell BK200.out 1).trans rfl, (blk_cell BK200.out 2).trans rfl⟩ (fun hHeld => ?_); refine with_tabW impl_GraphOk.tab6 impl_GraphOk.bits6 (fun HT_ HW_ => ?_)
      generalize w59.drew = w60 at BK197 BK200 HB hHeld ⊢
      refine pz_ 1 24 ba6_1 HT_ ?_
      refine pt_ 0 23 ba6_2 HT_ HW_ hHeld ?_
      refine pt_ 2 25 ba6_3 HT_ HW_ hHeld ?_
      refine one_ (i := 3) (N := some 26) ba6_4 rfl rfl (one_of HT_.out (by kernel_rfl)) (by decide) (fun K hK => ?_)
      refine gz_ Try.func48 #[.agg #[.int .i64 a0_0, .slice (some ad199) l0_1.length c0_1], .int .i64 ((rd_T76 l0_1 x18_2).f0)] ?_
      with_reducible refine (impl_Graph_isNode.calls a0_0 _ _ l0_1 ((rd_T76 l0_1 x18_2).f0) true _ ?side1 ?side2 A13.out).mono ?_
      (case side1 => exact cb_ HR0_1 HB)
      (case side2 => exact HC0_1.out)
      rintro e w61 ⟨rfl, hb⟩
      refine ⟨_, rfl, ?_⟩
      replace BK197 := ab_ BK197 hb
      replace BK200 := ab_ BK200 hb
      replace HB := at_ HB hb
      (try clear hb)
      (try clear hb2)
      (try clear hk)
      (try clear hi)
      refine hK.out _ _ ⟨(blk_cell BK197.out 0).trans rfl, (blk_cell BK197.out 1).trans rfl, (blk_cell BK200.out 0).trans rfl, (blk_cell BK200.out 1).trans rfl, (blk_cell BK200.out 2).trans rfl⟩ (fun hHeld => ?_)
      clear hK K
      refine nz_ 26 ?_
      refine pz_ 4 27 ba6_5 HT_ ?_
      refine pz_ 5 28 ba6_6 HT_ ?_
      refine pz_ 7 30 ba6_7 HT_ ?_
      refine pt_ 6 29 ba6_8 HT_ HW_ hHeld ?_
      refine pt_ 8 31 ba6_9 HT_ HW_ hHeld ?_
      refine one_ (i := 9) (N := some 32) ba6_10 rfl rfl (one_of HT_.out (by kernel_rfl)) (by decide) (fun K hK => ?_)
      refine gz_ Try.func48 #[.agg #[.int .i64 a0_0, .slice (some ad199) l0_1.length c0_1], .int .i64 ((rd_T76 l0_1 x18_2).f1)] ?_
      with_reducible refine (impl_Graph_isNode.calls a0_0 _ _ l0_1 ((rd_T76 l0_1 x18_2).f1) true _ ?side1 ?side2 A15.out).mono ?_
      (case side1 => exact cb_ HR0_1 HB)
      (case side2 => exact HC0_1.out)
      rintro e w62 ⟨rfl, hb⟩
      refine ⟨_, rfl, ?_⟩
      replace BK197 := ab_ BK197 hb
      replace BK200 := ab_ BK200 hb
      replace HB := at_ HB hb
      (try clear hb)
      (try clear hb2)
      (try clear hk)
      (try clear hi)
      refine hK.out _ _ ⟨(blk_cell BK197.out 0).trans rfl, (blk_cell BK197.out 1).trans rfl, (blk_cell BK200.out 0).trans rfl, (blk_cell BK200.out 1).trans rfl, (blk_cell BK200.out 2).trans rfl⟩ (fun hHeld => ?_)
      clear hK K
      refine nz_ 32 ?_
      refine pz_ 10 33 ba6_11 HT_ ?_
      refine pz_ 11 34 ba6_12 HT_ ?_
      refine pz_ 12 35 ba6_13 HT_ ?_
      refine pz_ 13 36 ba6_14 HT_ ?_
      refine pz_ 15 38 ba6_15 HT_ ?_
      refine pt_ 14 37 ba6_16 HT_ HW_ hHeld ?_
      refine pt_ 16 39 ba6_17 HT_ HW_ hHeld ?_
      refine pz_ 17 40 ba6_18 HT_ ?_
      refine pz_ 18 41 ba6_19 HT_ ?_
      refine pz_ 19 42 ba6_20 HT_ ?_
      refine pz_ 20 43 ba6_21 HT_ ?_
      refine pt_ 21 44 ba6_22 HT_ HW_ hHeld ?_
      refine one_ (i := 22) (N := some 45) ba6_23 rfl rfl (one_of HT_.out (by kernel_rfl)) (by decide) (fun K hK => ?_)
      refine gz_ Try.func54 #[.int .i64 ((rd_T76 l0_1 x18_2).f2), .int .i64 1, .int .i64 1000] ?_
      with_reducible refine (impl_within.calls ((rd_T76 l0_1 x18_2).f2) 1 1000 false _ A25.out).mono ?_
      rintro e w' ⟨rfl, ⟨nd, rfl⟩⟩
      refine ⟨_, rfl, ?_⟩
      refine hK.out _ _ ⟨(blk_cell BK197.out 0).trans rfl, (blk_cell BK197.out 1).trans rfl, (blk_cell BK200.out 0).trans rfl, (blk_cell BK200.out 1).trans rfl, (blk_cell BK200.out 2).trans rfl⟩ (fun hHeld => ?_)
      clear hK K
      refine nz_ 45 ?_
      refine pz_ 23 46 ba6_24 HT_ ?_
      refine pz_ 24 47 ba6_25 HT_ ?_
      refine pz_ 25 48 ba6_26 HT_ ?_
      refine pu_ 26 49 ba6_27 HT_ ?_
      refine pu_ 27 50 ba6_28 HT_ ?_
      refine pu_ 28 51 ba6_29 HT_ ?_
      refine pu_ 29 52 ba6_30 HT_ ?_
      refine pu_ 30 53 ba6_31 HT_ ?_
      refine pu_ 31 54 ba6_32 HT_ ?_
      refine pu_ 32 55 ba6_33 HT_ ?_
      refine pu_ 33 56 ba6_34 HT_ ?_
      refine pu_ 34 57 ba6_35 HT_ ?_
      refine pu_ 35 58 ba6_36 HT_ ?_
      refine pu_ 36 59 ba6_37 HT_ ?_
      refine pu_ 37 60 ba6_38 HT_ ?_
      refine pu_ 38 61 ba6_39 HT_ ?_
      refine pz_ 39 62 ba6_40 HT_ ?_
      refine done_ (done_of HT_.out (by kernel_rfl)) ?_
      try go_wp2
      go_ret
      exact ⟨by first | rfl | (simp [errW_none, errW_some] <;> rfl) | (simp [*, errW_none, errW_some] <;> rfl), bw_⟩
     subst c26
     rw [if_pos rfl] at H
     by_cases c27 : x18_2 > 0
     rotate_left
     ·rw [if_neg c27] at H
      have c27b0 : decide (0 < x18_2) = false := decide_eq_false c27
      clear c27
      have H' := Aside0.mk H
      clear H
      have p199 : 0 ≤ (x18_2 : Int) := oa_
      have q199 : x18_2 < (l0_1.length : Int) := oa_
      obtain ⟨ad199, e199, hx199_0, hx199_1, hx199_2⟩ := at_T76 HR0_1.out x18_2 p199 q199
      cases e199
      replace hx199_0 := (HB.out.cell (World.block_lt_of_cell? w _ hx199_0)).trans hx199_0
      replace hx199_1 := (HB.out.cell (World.block_lt_of_cell? w _ hx199_1)).trans hx199_1
      replace hx199_2 := (HB.out.cell (World.block_lt_of_cell? w _ hx199_2)).trans hx199_2
      replace p199 := eq_true p199
      replace q199 := eq_true q199
      try go_wp2_with ((with_reducible refine gate_dst (N := 4) rfl ?_); refine box_event ?hg (N := 4) ?hd (cs := #[.int .i64 0, .int .i64 0, .int .i64 0]) (t := 76) ?hr ?_; (case hd => rfl); (case hg => rfl); (case hr => first | (go_simp; done) | (go_simp; rfl)); intro gb200 hg w49 hbox hb; have BK200 := Aside0.mk hbox; have GW200 := ge_ HB hg; have GE200 := ge_ HB hg; have NB197_200 := nl_ BK197 hg; have NB200_197 := ng_ BK197 hg; replace HB := at_ HB hb; replace BK197 := ab_ BK197 hb; clear hb hbox hg; have hnb50 := NB200_197.out; have hnc50 := NB197_200.out; have hcz51_0 := cz_ BK200 0 (.int .i64 0); have hcz51_1 := cz_ BK200 1 (.int .i64 0); have hcz51_2 := cz_ BK200 2 (.int .i64 0); have hfz51_0 := fz_ BK200 0; have hfz51_1 := fz_ BK200 1; have hfz51_2 := fz_ BK200 2)
      have n0_ : Aside0 ((((w49.setCell ⟨gb200, 0, none⟩ (.int .i64 ((rd_T76 l0_1 x18_2).f0))).setCell ⟨gb200, 1, none⟩ (.int .i64 ((rd_T76 l0_1 x18_2).f1))).setCell ⟨gb200, 2, none⟩ (.int .i64 ((rd_T76 l0_1 x18_2).f2))).heap[gb197]? = some (.cells #[.int .i64 a0_0, .slice (some ad199) l0_1.length c0_1] 30 (0, 0))) := ⟨bc_ BK197⟩
      have n1_ : Aside0 ((((w49.setCell ⟨gb200, 0, none⟩ (.int .i64 ((rd_T76 l0_1 x18_2).f0))).setCell ⟨gb200, 1, none⟩ (.int .i64 ((rd_T76 l0_1 x18_2).f1))).setCell ⟨gb200, 2, none⟩ (.int .i64 ((rd_T76 l0_1 x18_2).f2))).heap[gb200]? = some (.cells #[.int .i64 ((rd_T76 l0_1 x18_2).f0), .int .i64 ((rd_T76 l0_1 x18_2).f1), .int .i64 ((rd_T76 l0_1 x18_2).f2)] 76 (0, 0))) := ⟨by refine bd_ ?_; refine blk_put (cs := #[.int .i64 ((rd_T76 l0_1 x18_2).f0), .int .i64 ((rd_T76 l0_1 x18_2).f1), .int .i64 0]) ?_ 2 _ rfl; refine bd_ ?_; refine blk_put (cs := #[.int .i64 ((rd_T76 l0_1 x18_2).f0), .int .i64 0, .int .i64 0]) ?_ 1 _ rfl; refine bd_ ?_; refine blk_put (cs := #[.int .i64 0, .int .i64 0, .int .i64 0]) ?_ 0 _ rfl; refine bd_ ?_; exact BK200.out⟩
      have n2_ : Aside0 (Below w.heap.size w (((w49.setCell ⟨gb200, 0, none⟩ (.int .i64 ((rd_T76 l0_1 x18_2).f0))).setCell ⟨gb200, 1, none⟩ (.int .i64 ((rd_T76 l0_1 x18_2).f1))).setCell ⟨gb200, 2, none⟩ (.int .i64 ((rd_T76 l0_1 x18_2).f2)))) := ⟨bw_⟩
      (try clear BK197)
      (try clear BK200)
      (try clear HB)
      generalize (((w49.setCell ⟨gb200, 0, none⟩ (.int .i64 ((rd_T76 l0_1 x18_2).f0))).setCell ⟨gb200, 1, none⟩ (.int .i64 ((rd_T76 l0_1 x18_2).f1))).setCell ⟨gb200, 2, none⟩ (.int .i64 ((rd_T76 l0_1 x18_2).f2))) = w52 at n0_ n1_ n2_ ⊢
      have BK197 := n0_
      have BK200 := n1_
      have HB := n2_
      clear n0_ n1_ n2_
      replace BK197 := ad_ BK197
      replace BK200 := ad_ BK200
      replace HB := Aside0.mk (below_drew1 HB.out)
      refine start_ (n := 40) (S := fun w' => w'.cell? ⟨gb197, 0, none⟩ = some (.int .i64 a0_0) ∧ w'.cell? ⟨gb197, 1, none⟩ = some (.slice (some ad199) l0_1.length c0_1) ∧ w'.cell? ⟨gb200, 0, none⟩ = some (.int .i64 ((rd_T76 l0_1 x18_2).f0)) ∧ w'.cell? ⟨gb200, 1, none⟩ = some (.int .i64 ((rd_T76 l0_1 x18_2).f1)) ∧ w'.cell? ⟨gb200, 2, none⟩ = some (.int .i64 ((rd_T76 l0_1 x18_2).f2))) (ds := []) ba6_0 (by kernel_rfl) rfl rfl ⟨(blk_cell BK197.out 0).trans rfl, (blk_cell BK197.out 1).trans rfl, (blk_cell BK200.out 0).trans rfl, (blk_cell BK200.out 1).trans rfl, (blk_cell BK200.out 2).trans rfl⟩ (fun hHeld => ?_); refine with_tabW impl_GraphOk.tab6 impl_GraphOk.bits6 (fun HT_ HW_ => ?_)
      generalize w52.drew = w53 at BK197 BK200 HB hHeld ⊢
      refine pz_ 1 24 ba6_1 HT_ ?_
      refine pt_ 0 23 ba6_2 HT_ HW_ hHeld ?_
      refine pt_ 2 25 ba6_3 HT_ HW_ hHeld ?_
      refine one_ (i := 3) (N := some 26) ba6_4 rfl rfl (one_of HT_.out (by kernel_rfl)) (by decide) (fun K hK => ?_)
      refine gz_ Try.func48 #[.agg #[.int .i64 a0_0, .slice (some ad199) l0_1.length c0_1], .int .i64 ((rd_T76 l0_1 x18_2).f0)] ?_
      with_reducible refine (impl_Graph_isNode.calls a0_0 _ _ l0_1 ((rd_T76 l0_1 x18_2).f0) true _ ?side1 ?side2 A13.out).mono ?_
      (case side1 => exact cb_ HR0_1 HB)
      (case side2 => exact HC0_1.out)
      rintro e w54 ⟨rfl, hb⟩
      refine ⟨_, rfl, ?_⟩
      replace BK197 := ab_ BK197 hb
      replace BK200 := ab_ BK200 hb
      replace HB := at_ HB hb
      (try clear hb)
      (try clear hb2)
      (try clear hk)
      (try clear hi)
      refine hK.out _ _ ⟨(blk_cell BK197.out 0).trans rfl, (blk_cell BK197.out 1).trans rfl, (blk_cell BK200.out 0).trans rfl, (blk_cell BK200.out 1).trans rfl, (blk_cell BK200.out 2).trans rfl⟩ (fun hHeld => ?_)
      clear hK K
      refine nz_ 26 ?_
      refine pz_ 4 27 ba6_5 HT_ ?_
      refine pz_ 5 28 ba6_6 HT_ ?_
      refine pz_ 7 30 ba6_7 HT_ ?_
      refine pt_ 6 29 ba6_8 HT_ HW_ hHeld ?_
      refine pt_ 8 31 ba6_9 HT_ HW_ hHeld ?_
      refine one_ (i := 9) (N := some 32) ba6_10 rfl rfl (one_of HT_.out (by kernel_rfl)) (by decide) (fun K hK => ?_)
      refine gz_ Try.func48 #[.agg #[.int .i64 a0_0, .slice (some ad199) l0_1.length c0_1], .int .i64 ((rd_T76 l0_1 x18_2).f1)] ?_
      with_reducible refine (impl_Graph_isNode.calls a0_0 _ _ l0_1 ((rd_T76 l0_1 x18_2).f1) true _ ?side1 ?side2 A15.out).mono ?_
      (case side1 => exact cb_ HR0_1 HB)
      (case side2 => exact HC0_1.out)
      rintro e w55 ⟨rfl, hb⟩
      refine ⟨_, rfl, ?_⟩
      replace BK197 := ab_ BK197 hb
      replace BK200 := ab_ BK200 hb
      replace HB := at_ HB hb
      (try clear hb)
      (try clear hb2)
      (try clear hk)
      (try clear hi)
      refine hK.out _ _ ⟨(blk_cell BK197.out 0).trans rfl, (blk_cell BK197.out 1).trans rfl, (blk_cell BK200.out 0).trans rfl, (blk_cell BK200.out 1).trans rfl, (blk_cell BK200.out 2).trans rfl⟩ (fun hHeld => ?_)
      clear hK K
      refine nz_ 32 ?_
      refine pz_ 10 33 ba6_11 HT_ ?_
      refine pz_ 11 34 ba6_12 HT_ ?_
      refine pz_ 12 35 ba6_13 HT_ ?_
      refine pz_ 13 36 ba6_14 HT_ ?_
      refine pz_ 15 38 ba6_15 HT_ ?_
      refine pt_ 14 37 ba6_16 HT_ HW_ hHeld ?_
      refine pt_ 16 39 ba6_17 HT_ HW_ hHeld ?_
      refine pz_ 17 40 ba6_18 HT_ ?_
      refine pz_ 18 41 ba6_19 HT_ ?_
      refine pz_ 19 42 ba6_20 HT_ ?_
      refine pz_ 20 43 ba6_21 HT_ ?_
      refine pt_ 21 44 ba6_22 HT_ HW_ hHeld ?_
      refine one_ (i := 22) (N := some 45) ba6_23 rfl rfl (one_of HT_.out (by kernel_rfl)) (by decide) (fun K hK => ?_)
      refine gz_ Try.func54 #[.int .i64 ((rd_T76 l0_1 x18_2).f2), .int .i64 1, .int .i64 1000] ?_
      with_reducible refine (impl_within.calls ((rd_T76 l0_1 x18_2).f2) 1 1000 true _ A25.out).mono ?_
      rintro e w' ⟨rfl, ⟨nd, rfl⟩⟩
      refine ⟨_, rfl, ?_⟩
      refine hK.out _ _ ⟨(blk_cell BK197.out 0).trans rfl, (blk_cell BK197.out 1).trans rfl, (blk_cell BK200.out 0).trans rfl, (blk_cell BK200.out 1).trans rfl, (blk_cell BK200.out 2).trans rfl⟩ (fun hHeld => ?_)
      clear hK K
      refine nz_ 45 ?_
      refine pz_ 23 46 ba6_24 HT_ ?_
      refine pz_ 24 47 ba6_25 HT_ ?_
      refine pz_ 25 48 ba6_26 HT_ ?_
      refine pz_ 26 49 ba6_27 HT_ ?_
      refine pz_ 27 50 ba6_28 HT_ ?_
      refine pz_ 28 51 ba6_29 HT_ ?_
      refine pu_ 29 52 ba6_30 HT_ ?_
      refine pu_ 30 53 ba6_31 HT_ ?_
      refine pu_ 31 54 ba6_32 HT_ ?_
      refine pu_ 32 55 ba6_33 HT_ ?_
      refine pu_ 33 56 ba6_34 HT_ ?_
      refine pu_ 34 57 ba6_35 HT_ ?_
      refine pu_ 35 58 ba6_36 HT_ ?_
      refine pu_ 36 59 ba6_37 HT_ ?_
      refine pu_ 37 60 ba6_38 HT_ ?_
      refine pz_ 38 61 ba6_39 HT_ ?_
      refine pz_ 39 62 ba6_40 HT_ ?_
      refine done_ (done_of HT_.out (by kernel_rfl)) ?_
      try go_wp2
      go_roundg k2
      case measure => have := HJ1.out; have := HK2.out; omega
      case rel => exact ⟨(wrap64 (x18_2 + 1)), er_, H', ⟨by have := HJ1.out; have := HK2.out; omega⟩, ⟨bx_ BK197⟩, ⟨bw_⟩⟩
     rw [if_pos c27] at H
     have c27b0 : decide (0 < x18_2) = true := decide_eq_true c27
     clear c27
     obtain ⟨ji28, hji28⟩ : ∃ j_ : Int, (wrap64 (x18_2 - 1)) = j_ := ⟨_, rfl⟩
     first | rw [hji28] at H | simp only [hji28] at H
     (try rw [hji28] at A13)
     (try rw [hji28] at A15)
     (try rw [hji28] at A25)
     have hji28w : (IntKind.i64.wrap (x18_2 - 1)) = ji28 := (i64_w _).trans hji28
     obtain ⟨c29b0, H⟩ := iq_ H
     obtain ⟨c30b0, H⟩ := iq_ H
     replace H := Option.bind_eq_some_iff.mp H
     obtain ⟨t205, A310, H⟩ := H
     have A31 := Aside0.mk A310
     clear A310
     by_cases c32 : t205 ≥ 0
     ·rw [if_pos c32] at H
      have c32b0 : decide (0 ≤ t205) = true := decide_eq_true c32
      clear c32
      obtain rfl := Option.some.inj H
      have p199 : 0 ≤ (x18_2 : Int) := oa_
      have q199 : x18_2 < (l0_1.length : Int) := oa_
      obtain ⟨ad199, e199, hx199_0, hx199_1, hx199_2⟩ := at_T76 HR0_1.out x18_2 p199 q199
      cases e199
      replace hx199_0 := (HB.out.cell (World.block_lt_of_cell? w _ hx199_0)).trans hx199_0
      replace hx199_1 := (HB.out.cell (World.block_lt_of_cell? w _ hx199_1)).trans hx199_1
      replace hx199_2 := (HB.out.cell (World.block_lt_of_cell? w _ hx199_2)).trans hx199_2
      replace p199 := eq_true p199
      replace q199 := eq_true q199
      try go_wp2_with ((with_reducible refine gate_dst (N := 4) rfl ?_); refine box_event ?hg (N := 4) ?hd (cs := #[.int .i64 0, .int .i64 0, .int .i64 0]) (t := 76) ?hr ?_; (case hd => rfl); (case hg => rfl); (case hr => first | (go_simp; done) | (go_simp; rfl)); intro gb200 hg w33 hbox hb; have BK200 := Aside0.mk hbox; have GW200 := ge_ HB hg; have GE200 := ge_ HB hg; have NB197_200 := nl_ BK197 hg; have NB200_197 := ng_ BK197 hg; replace HB := at_ HB hb; replace BK197 := ab_ BK197 hb; clear hb hbox hg; have hnb34 := NB200_197.out; have hnc34 := NB197_200.out; have hcz35_0 := cz_ BK200 0 (.int .i64 0); have hcz35_1 := cz_ BK200 1 (.int .i64 0); have hcz35_2 := cz_ BK200 2 (.int .i64 0); have hfz35_0 := fz_ BK200 0; have hfz35_1 := fz_ BK200 1; have hfz35_2 := fz_ BK200 2)
      have n0_ : Aside0 ((((w33.setCell ⟨gb200, 0, none⟩ (.int .i64 ((rd_T76 l0_1 x18_2).f0))).setCell ⟨gb200, 1, none⟩ (.int .i64 ((rd_T76 l0_1 x18_2).f1))).setCell ⟨gb200, 2, none⟩ (.int .i64 ((rd_T76 l0_1 x18_2).f2))).heap[gb197]? = some (.cells #[.int .i64 a0_0, .slice (some ad199) l0_1.length c0_1] 30 (0, 0))) := ⟨bc_ BK197⟩
      have n1_ : Aside0 ((((w33.setCell ⟨gb200, 0, none⟩ (.int .i64 ((rd_T76 l0_1 x18_2).f0))).setCell ⟨gb200, 1, none⟩ (.int .i64 ((rd_T76 l0_1 x18_2).f1))).setCell ⟨gb200, 2, none⟩ (.int .i64 ((rd_T76 l0_1 x18_2).f2))).heap[gb200]? = some (.cells #[.int .i64 ((rd_T76 l0_1 x18_2).f0), .int .i64 ((rd_T76 l0_1 x18_2).f1), .int .i64 ((rd_T76 l0_1 x18_2).f2)] 76 (0, 0))) := ⟨by refine bd_ ?_; refine blk_put (cs := #[.int .i64 ((rd_T76 l0_1 x18_2).f0), .int .i64 ((rd_T76 l0_1 x18_2).f1), .int .i64 0]) ?_ 2 _ rfl; refine bd_ ?_; refine blk_put (cs := #[.int .i64 ((rd_T76 l0_1 x18_2).f0), .int .i64 0, .int .i64 0]) ?_ 1 _ rfl; refine bd_ ?_; refine blk_put (cs := #[.int .i64 0, .int .i64 0, .int .i64 0]) ?_ 0 _ rfl; refine bd_ ?_; exact BK200.out⟩
      have n2_ : Aside0 (Below w.heap.size w (((w33.setCell ⟨gb200, 0, none⟩ (.int .i64 ((rd_T76 l0_1 x18_2).f0))).setCell ⟨gb200, 1, none⟩ (.int .i64 ((rd_T76 l0_1 x18_2).f1))).setCell ⟨gb200, 2, none⟩ (.int .i64 ((rd_T76 l0_1 x18_2).f2)))) := ⟨bw_⟩
      (try clear BK197)
      (try clear BK200)
      (try clear HB)
      generalize (((w33.setCell ⟨gb200, 0, none⟩ (.int .i64 ((rd_T76 l0_1 x18_2).f0))).setCell ⟨gb200, 1, none⟩ (.int .i64 ((rd_T76 l0_1 x18_2).f1))).setCell ⟨gb200, 2, none⟩ (.int .i64 ((rd_T76 l0_1 x18_2).f2))) = w36 at n0_ n1_ n2_ ⊢
      have BK197 := n0_
      have BK200 := n1_
      have HB := n2_
      clear n0_ n1_ n2_
      replace BK197 := ad_ BK197
      replace BK200 := ad_ BK200
      replace HB := Aside0.mk (below_drew1 HB.out)
      have p204 : 0 ≤ ((ji28) : Int) := oa_
      have q204 : (ji28) < (l0_1.length : Int) := oa_
      obtain ⟨ad204, e204, hx204_0, hx204_1, hx204_2⟩ := at_T76 HR0_1.out (ji28) p204 q204
      have hw204_2 := hx204_2
      have hw204_1 := hx204_1
      have hw204_0 := hx204_0
      obtain rfl : ad199 = ad204 := (by injection e204)
      replace hx204_0 := (HB.out.cell (World.block_lt_of_cell? w _ hx204_0)).trans hx204_0
      replace hx204_1 := (HB.out.cell (World.block_lt_of_cell? w _ hx204_1)).trans hx204_1
      replace hx204_2 := (HB.out.cell (World.block_lt_of_cell? w _ hx204_2)).trans hx204_2
      replace p204 := eq_true p204
      replace q204 := eq_true q204
      refine start_ (n := 40) (S := fun w' => w'.cell? ⟨gb197, 0, none⟩ = some (.int .i64 a0_0) ∧ w'.cell? ⟨gb197, 1, none⟩ = some (.slice (some ad199) l0_1.length c0_1) ∧ w'.cell? ⟨gb200, 0, none⟩ = some (.int .i64 ((rd_T76 l0_1 x18_2).f0)) ∧ w'.cell? ⟨gb200, 1, none⟩ = some (.int .i64 ((rd_T76 l0_1 x18_2).f1)) ∧ w'.cell? ⟨gb200, 2, none⟩ = some (.int .i64 ((rd_T76 l0_1 x18_2).f2)) ∧ w'.cell? (ad199.add (((ji28)).toNat * 3)) = some (.int .i64 ((rd_T76 l0_1 (ji28)).f0)) ∧ w'.cell? ⟨(ad199.add (((ji28)).toNat * 3)).block, (ad199.add (((ji28)).toNat * 3)).off + 1, none⟩ = some (.int .i64 ((rd_T76 l0_1 (ji28)).f1)) ∧ w'.cell? ⟨(ad199.add (((ji28)).toNat * 3)).block, (ad199.add (((ji28)).toNat * 3)).off + 2, none⟩ = some (.int .i64 ((rd_T76 l0_1 (ji28)).f2))) (ds := []) ba6_0 (by kernel_rfl) rfl rfl ⟨(blk_cell BK197.out 0).trans rfl, (blk_cell BK197.out 1).trans rfl, (blk_cell BK200.out 0).trans rfl, (blk_cell BK200.out 1).trans rfl, (blk_cell BK200.out 2).trans rfl, (hc_ HB hw204_0), (hc_ HB hw204_1), (hc_ HB hw204_2)⟩ (fun hHeld => ?_); refine with_tabW impl_GraphOk.tab6 impl_GraphOk.bits6 (fun HT_ HW_ => ?_)
      generalize w36.drew = w37 at BK197 BK200 HB hx204_0 hx204_1 hx204_2 hHeld ⊢
      refine pz_ 1 24 ba6_1 HT_ ?_
      refine pt_ 0 23 ba6_2 HT_ HW_ hHeld ?_
      refine pt_ 2 25 ba6_3 HT_ HW_ hHeld ?_
      refine one_ (i := 3) (N := some 26) ba6_4 rfl rfl (one_of HT_.out (by kernel_rfl)) (by decide) (fun K hK => ?_)
      refine gz_ Try.func48 #[.agg #[.int .i64 a0_0, .slice (some ad199) l0_1.length c0_1], .int .i64 ((rd_T76 l0_1 x18_2).f0)] ?_
      with_reducible refine (impl_Graph_isNode.calls a0_0 _ _ l0_1 ((rd_T76 l0_1 x18_2).f0) true _ ?side1 ?side2 A13.out).mono ?_
      (case side1 => exact cb_ HR0_1 HB)
      (case side2 => exact HC0_1.out)
      rintro e w38 ⟨rfl, hb⟩
      refine ⟨_, rfl, ?_⟩
      replace BK197 := ab_ BK197 hb
      replace BK200 := ab_ BK200 hb
      replace HB := at_ HB hb
      (try clear hb)
      (try clear hb2)
      (try clear hk)
      (try clear hi)
      refine hK.out _ _ ⟨(blk_cell BK197.out 0).trans rfl, (blk_cell BK197.out 1).trans rfl, (blk_cell BK200.out 0).trans rfl, (blk_cell BK200.out 1).trans rfl, (blk_cell BK200.out 2).trans rfl, (hc_ HB hw204_0), (hc_ HB hw204_1), (hc_ HB hw204_2)⟩ (fun hHeld => ?_)
      clear hK K
      refine nz_ 26 ?_
      refine pz_ 4 27 ba6_5 HT_ ?_
      refine pz_ 5 28 ba6_6 HT_ ?_
      refine pz_ 7 30 ba6_7 HT_ ?_
      refine pt_ 6 29 ba6_8 HT_ HW_ hHeld ?_
      refine pt_ 8 31 ba6_9 HT_ HW_ hHeld ?_
      refine one_ (i := 9) (N := some 32) ba6_10 rfl rfl (one_of HT_.out (by kernel_rfl)) (by decide) (fun K hK => ?_)
      refine gz_ Try.func48 #[.agg #[.int .i64 a0_0, .slice (some ad199) l0_1.length c0_1], .int .i64 ((rd_T76 l0_1 x18_2).f1)] ?_
      with_reducible refine (impl_Graph_isNode.calls a0_0 _ _ l0_1 ((rd_T76 l0_1 x18_2).f1) true _ ?side1 ?side2 A15.out).mono ?_
      (case side1 => exact cb_ HR0_1 HB)
      (case side2 => exact HC0_1.out)
      rintro e w39 ⟨rfl, hb⟩
      refine ⟨_, rfl, ?_⟩
      replace BK197 := ab_ BK197 hb
      replace BK200 := ab_ BK200 hb
      replace HB := at_ HB hb
      (try clear hb)
      (try clear hb2)
      (try clear hk)
      (try clear hi)
      refine hK.out _ _ ⟨(blk_cell BK197.out 0).trans rfl, (blk_cell BK197.out 1).trans rfl, (blk_cell BK200.out 0).trans rfl, (blk_cell BK200.out 1).trans rfl, (blk_cell BK200.out 2).trans rfl, (hc_ HB hw204_0), (hc_ HB hw204_1), (hc_ HB hw204_2)⟩ (fun hHeld => ?_)
      clear hK K
      refine nz_ 32 ?_
      refine pz_ 10 33 ba6_11 HT_ ?_
      refine pz_ 11 34 ba6_12 HT_ ?_
      refine pz_ 12 35 ba6_13 HT_ ?_
      refine pz_ 13 36 ba6_14 HT_ ?_
      refine pz_ 15 38 ba6_15 HT_ ?_
      refine pt_ 14 37 ba6_16 HT_ HW_ hHeld ?_
      refine pt_ 16 39 ba6_17 HT_ HW_ hHeld ?_
      refine pz_ 17 40 ba6_18 HT_ ?_
      refine pz_ 18 41 ba6_19 HT_ ?_
      refine pz_ 19 42 ba6_20 HT_ ?_
      refine pz_ 20 43 ba6_21 HT_ ?_
      refine pt_ 21 44 ba6_22 HT_ HW_ hHeld ?_
      refine one_ (i := 22) (N := some 45) ba6_23 rfl rfl (one_of HT_.out (by kernel_rfl)) (by decide) (fun K hK => ?_)
      refine gz_ Try.func54 #[.int .i64 ((rd_T76 l0_1 x18_2).f2), .int .i64 1, .int .i64 1000] ?_
      with_reducible refine (impl_within.calls ((rd_T76 l0_1 x18_2).f2) 1 1000 true _ A25.out).mono ?_
      rintro e w' ⟨rfl, ⟨nd, rfl⟩⟩
      refine ⟨_, rfl, ?_⟩
      refine hK.out _ _ ⟨(blk_cell BK197.out 0).trans rfl, (blk_cell BK197.out 1).trans rfl, (blk_cell BK200.out 0).trans rfl, (blk_cell BK200.out 1).trans rfl, (blk_cell BK200.out 2).trans rfl, (hc_ HB hw204_0), (hc_ HB hw204_1), (hc_ HB hw204_2)⟩ (fun hHeld => ?_)
      clear hK K
      refine nz_ 45 ?_
      refine pz_ 23 46 ba6_24 HT_ ?_
      refine pz_ 24 47 ba6_25 HT_ ?_
      refine pz_ 25 48 ba6_26 HT_ ?_
      refine pz_ 26 49 ba6_27 HT_ ?_
      refine pz_ 27 50 ba6_28 HT_ ?_
      refine pz_ 28 51 ba6_29 HT_ ?_
      refine pz_ 29 52 ba6_30 HT_ ?_
      refine pz_ 31 54 ba6_41 HT_ ?_
      refine pz_ 32 55 ba6_42 HT_ ?_
      refine pt_ 30 53 ba6_33 HT_ HW_ hHeld ?_
      refine pz_ 33 56 ba6_34 HT_ ?_
      refine pt_ 34 57 ba6_35 HT_ HW_ hHeld ?_
      refine pt_ 35 58 ba6_36 HT_ HW_ hHeld ?_
      refine one_ (i := 36) (N := some 59) ba6_37 rfl rfl (one_of HT_.out (by kernel_rfl)) (by decide) (fun K hK => ?_)
      refine goes_ Try.func76 (by kernel_rfl) rfl #[.agg #[.int .i64 ((rd_T76 l0_1 (ji28)).f0), .int .i64 ((rd_T76 l0_1 (ji28)).f1), .int .i64 ((rd_T76 l0_1 (ji28)).f2)], .agg #[.int .i64 ((rd_T76 l0_1 x18_2).f0), .int .i64 ((rd_T76 l0_1 x18_2).f1), .int .i64 ((rd_T76 l0_1 x18_2).f2)]] (by rfl) rfl rfl (by (try simp only [List.map_toArray, List.map_cons, List.map_nil]); first | done | (simp only [hji28]; rfl) | rfl | (simp only [List.length_drop, List.length_take]; rfl)) ?_
      with_reducible refine (impl_compareEdges.calls ((rd_T76 l0_1 (ji28)).f0) ((rd_T76 l0_1 (ji28)).f1) ((rd_T76 l0_1 (ji28)).f2) ((rd_T76 l0_1 x18_2).f0) ((rd_T76 l0_1 x18_2).f1) ((rd_T76 l0_1 x18_2).f2) t205 _ A31.out).mono ?_
      rintro e w40 ⟨rfl, hb⟩
      refine ⟨_, rfl, ?_⟩
      replace BK197 := ab_ BK197 hb
      replace BK200 := ab_ BK200 hb
      replace HB := at_ HB hb
      (try clear hb)
      (try clear hb2)
      (try clear hk)
      (try clear hi)
      refine hK.out _ _ ⟨(blk_cell BK197.out 0).trans rfl, (blk_cell BK197.out 1).trans rfl, (blk_cell BK200.out 0).trans rfl, (blk_cell BK200.out 1).trans rfl, (blk_cell BK200.out 2).trans rfl, (hc_ HB hw204_0), (hc_ HB hw204_1), (hc_ HB hw204_2)⟩ (fun hHeld => ?_)
      clear hK K
      refine nz_ 59 ?_
      refine pz_ 37 60 ba6_38 HT_ ?_
      refine pz_ 38 61 ba6_39 HT_ ?_
      refine pz_ 39 62 ba6_40 HT_ ?_
      refine done_ (done_of HT_.out (by kernel_rfl)) ?_
      try go_wp2
      go_ret
      exact ⟨by first | rfl | (simp [errW_none, errW_some] <;> rfl) | (simp only [← hji28]; first | rfl | (simp [errW_none, errW_some] <;> rfl)) | (simp [*, errW_none, errW_some] <;> rfl), bw_⟩
     rw [if_neg c32] at H
     have c32b0 : decide (0 ≤ t205) = false := decide_eq_false c32
     clear c32
     have H' := Aside0.mk H
     clear H
     have p199 : 0 ≤ (x18_2 : Int) := oa_
     have q199 : x18_2 < (l0_1.length : Int) := oa_
     obtain ⟨ad199, e199, hx199_0, hx199_1, hx199_2⟩ := at_T76 HR0_1.out x18_2 p199 q199
     cases e199
     replace hx199_0 := (HB.out.cell (World.block_lt_of_cell? w _ hx199_0)).trans hx199_0
     replace hx199_1 := (HB.out.cell (World.block_lt_of_cell? w _ hx199_1)).trans hx199_1
     replace hx199_2 := (HB.out.cell (World.block_lt_of_cell? w _ hx199_2)).trans hx199_2
     replace p199 := eq_true p199
     replace q199 := eq_true q199
     try go_wp2_with ((with_reducible refine gate_dst (N := 4) rfl ?_); refine box_event ?hg (N := 4) ?hd (cs := #[.int .i64 0, .int .i64 0, .int .i64 0]) (t := 76) ?hr ?_; (case hd => rfl); (case hg => rfl); (case hr => first | (go_simp; done) | (go_simp; rfl)); intro gb200 hg w41 hbox hb; have BK200 := Aside0.mk hbox; have GW200 := ge_ HB hg; have GE200 := ge_ HB hg; have NB197_200 := nl_ BK197 hg; have NB200_197 := ng_ BK197 hg; replace HB := at_ HB hb; replace BK197 := ab_ BK197 hb; clear hb hbox hg; have hnb42 := NB200_197.out; have hnc42 := NB197_200.out; have hcz43_0 := cz_ BK200 0 (.int .i64 0); have hcz43_1 := cz_ BK200 1 (.int .i64 0); have hcz43_2 := cz_ BK200 2 (.int .i64 0); have hfz43_0 := fz_ BK200 0; have hfz43_1 := fz_ BK200 1; have hfz43_2 := fz_ BK200 2)
     have n0_ : Aside0 ((((w41.setCell ⟨gb200, 0, none⟩ (.int .i64 ((rd_T76 l0_1 x18_2).f0))).setCell ⟨gb200, 1, none⟩ (.int .i64 ((rd_T76 l0_1 x18_2).f1))).setCell ⟨gb200, 2, none⟩ (.int .i64 ((rd_T76 l0_1 x18_2).f2))).heap[gb197]? = some (.cells #[.int .i64 a0_0, .slice (some ad199) l0_1.length c0_1] 30 (0, 0))) := ⟨bc_ BK197⟩
     have n1_ : Aside0 ((((w41.setCell ⟨gb200, 0, none⟩ (.int .i64 ((rd_T76 l0_1 x18_2).f0))).setCell ⟨gb200, 1, none⟩ (.int .i64 ((rd_T76 l0_1 x18_2).f1))).setCell ⟨gb200, 2, none⟩ (.int .i64 ((rd_T76 l0_1 x18_2).f2))).heap[gb200]? = some (.cells #[.int .i64 ((rd_T76 l0_1 x18_2).f0), .int .i64 ((rd_T76 l0_1 x18_2).f1), .int .i64 ((rd_T76 l0_1 x18_2).f2)] 76 (0, 0))) := ⟨by refine bd_ ?_; refine blk_put (cs := #[.int .i64 ((rd_T76 l0_1 x18_2).f0), .int .i64 ((rd_T76 l0_1 x18_2).f1), .int .i64 0]) ?_ 2 _ rfl; refine bd_ ?_; refine blk_put (cs := #[.int .i64 ((rd_T76 l0_1 x18_2).f0), .int .i64 0, .int .i64 0]) ?_ 1 _ rfl; refine bd_ ?_; refine blk_put (cs := #[.int .i64 0, .int .i64 0, .int .i64 0]) ?_ 0 _ rfl; refine bd_ ?_; exact BK200.out⟩
     have n2_ : Aside0 (Below w.heap.size w (((w41.setCell ⟨gb200, 0, none⟩ (.int .i64 ((rd_T76 l0_1 x18_2).f0))).setCell ⟨gb200, 1, none⟩ (.int .i64 ((rd_T76 l0_1 x18_2).f1))).setCell ⟨gb200, 2, none⟩ (.int .i64 ((rd_T76 l0_1 x18_2).f2)))) := ⟨bw_⟩
     (try clear BK197)
     (try clear BK200)
     (try clear HB)
     generalize (((w41.setCell ⟨gb200, 0, none⟩ (.int .i64 ((rd_T76 l0_1 x18_2).f0))).setCell ⟨gb200, 1, none⟩ (.int .i64 ((rd_T76 l0_1 x18_2).f1))).setCell ⟨gb200, 2, none⟩ (.int .i64 ((rd_T76 l0_1 x18_2).f2))) = w44 at n0_ n1_ n2_ ⊢
     have BK197 := n0_
     have BK200 := n1_
     have HB := n2_
     clear n0_ n1_ n2_
     replace BK197 := ad_ BK197
     replace BK200 := ad_ BK200
     replace HB := Aside0.mk (below_drew1 HB.out)
     have p204 : 0 ≤ ((ji28) : Int) := oa_
     have q204 : (ji28) < (l0_1.length : Int) := oa_
     obtain ⟨ad204, e204, hx204_0, hx204_1, hx204_2⟩ := at_T76 HR0_1.out (ji28) p204 q204
     have hw204_2 := hx204_2
     have hw204_1 := hx204_1
     have hw204_0 := hx204_0
     obtain rfl : ad199 = ad204 := (by injection e204)
     replace hx204_0 := (HB.out.cell (World.block_lt_of_cell? w _ hx204_0)).trans hx204_0
     replace hx204_1 := (HB.out.cell (World.block_lt_of_cell? w _ hx204_1)).trans hx204_1
     replace hx204_2 := (HB.out.cell (World.block_lt_of_cell? w _ hx204_2)).trans hx204_2
     replace p204 := eq_true p204
     replace q204 := eq_true q204
     refine start_ (n := 40) (S := fun w' => w'.cell? ⟨gb197, 0, none⟩ = some (.int .i64 a0_0) ∧ w'.cell? ⟨gb197, 1, none⟩ = some (.slice (some ad199) l0_1.length c0_1) ∧ w'.cell? ⟨gb200, 0, none⟩ = some (.int .i64 ((rd_T76 l0_1 x18_2).f0)) ∧ w'.cell? ⟨gb200, 1, none⟩ = some (.int .i64 ((rd_T76 l0_1 x18_2).f1)) ∧ w'.cell? ⟨gb200, 2, none⟩ = some (.int .i64 ((rd_T76 l0_1 x18_2).f2)) ∧ w'.cell? (ad199.add (((ji28)).toNat * 3)) = some (.int .i64 ((rd_T76 l0_1 (ji28)).f0)) ∧ w'.cell? ⟨(ad199.add (((ji28)).toNat * 3)).block, (ad199.add (((ji28)).toNat * 3)).off + 1, none⟩ = some (.int .i64 ((rd_T76 l0_1 (ji28)).f1)) ∧ w'.cell? ⟨(ad199.add (((ji28)).toNat * 3)).block, (ad199.add (((ji28)).toNat * 3)).off + 2, none⟩ = some (.int .i64 ((rd_T76 l0_1 (ji28)).f2))) (ds := []) ba6_0 (by kernel_rfl) rfl rfl ⟨(blk_cell BK197.out 0).trans rfl, (blk_cell BK197.out 1).trans rfl, (blk_cell BK200.out 0).trans rfl, (blk_cell BK200.out 1).trans rfl, (blk_cell BK200.out 2).trans rfl, (hc_ HB hw204_0), (hc_ HB hw204_1), (hc_ HB hw204_2)⟩ (fun hHeld => ?_); refine with_tabW impl_GraphOk.tab6 impl_GraphOk.bits6 (fun HT_ HW_ => ?_)
     generalize w44.drew = w45 at BK197 BK200 HB hx204_0 hx204_1 hx204_2 hHeld ⊢
     refine pz_ 1 24 ba6_1 HT_ ?_
     refine pt_ 0 23 ba6_2 HT_ HW_ hHeld ?_
     refine pt_ 2 25 ba6_3 HT_ HW_ hHeld ?_
     refine one_ (i := 3) (N := some 26) ba6_4 rfl rfl (one_of HT_.out (by kernel_rfl)) (by decide) (fun K hK => ?_)
     refine gz_ Try.func48 #[.agg #[.int .i64 a0_0, .slice (some ad199) l0_1.length c0_1], .int .i64 ((rd_T76 l0_1 x18_2).f0)] ?_
     with_reducible refine (impl_Graph_isNode.calls a0_0 _ _ l0_1 ((rd_T76 l0_1 x18_2).f0) true _ ?side1 ?side2 A13.out).mono ?_
     (case side1 => exact cb_ HR0_1 HB)
     (case side2 => exact HC0_1.out)
     rintro e w46 ⟨rfl, hb⟩
     refine ⟨_, rfl, ?_⟩
     replace BK197 := ab_ BK197 hb
     replace BK200 := ab_ BK200 hb
     replace HB := at_ HB hb
     (try clear hb)
     (try clear hb2)
     (try clear hk)
     (try clear hi)
     refine hK.out _ _ ⟨(blk_cell BK197.out 0).trans rfl, (blk_cell BK197.out 1).trans rfl, (blk_cell BK200.out 0).trans rfl, (blk_cell BK200.out 1).trans rfl, (blk_cell BK200.out 2).trans rfl, (hc_ HB hw204_0), (hc_ HB hw204_1), (hc_ HB hw204_2)⟩ (fun hHeld => ?_)
     clear hK K
     refine nz_ 26 ?_
     refine pz_ 4 27 ba6_5 HT_ ?_
     refine pz_ 5 28 ba6_6 HT_ ?_
     refine pz_ 7 30 ba6_7 HT_ ?_
     refine pt_ 6 29 ba6_8 HT_ HW_ hHeld ?_
     refine pt_ 8 31 ba6_9 HT_ HW_ hHeld ?_
     refine one_ (i := 9) (N := some 32) ba6_10 rfl rfl (one_of HT_.out (by kernel_rfl)) (by decide) (fun K hK => ?_)
     refine gz_ Try.func48 #[.agg #[.int .i64 a0_0, .slice (some ad199) l0_1.length c0_1], .int .i64 ((rd_T76 l0_1 x18_2).f1)] ?_
     with_reducible refine (impl_Graph_isNode.calls a0_0 _ _ l0_1 ((rd_T76 l0_1 x18_2).f1) true _ ?side1 ?side2 A15.out).mono ?_
     (case side1 => exact cb_ HR0_1 HB)
     (case side2 => exact HC0_1.out)
     rintro e w47 ⟨rfl, hb⟩
     refine ⟨_, rfl, ?_⟩
     replace BK197 := ab_ BK197 hb
     replace BK200 := ab_ BK200 hb
     replace HB := at_ HB hb
     (try clear hb)
     (try clear hb2)
     (try clear hk)
     (try clear hi)
     refine hK.out _ _ ⟨(blk_cell BK197.out 0).trans rfl, (blk_cell BK197.out 1).trans rfl, (blk_cell BK200.out 0).trans rfl, (blk_cell BK200.out 1).trans rfl, (blk_cell BK200.out 2).trans rfl, (hc_ HB hw204_0), (hc_ HB hw204_1), (hc_ HB hw204_2)⟩ (fun hHeld => ?_)
     clear hK K
     refine nz_ 32 ?_
     refine pz_ 10 33 ba6_11 HT_ ?_
     refine pz_ 11 34 ba6_12 HT_ ?_
     refine pz_ 12 35 ba6_13 HT_ ?_
     refine pz_ 13 36 ba6_14 HT_ ?_
     refine pz_ 15 38 ba6_15 HT_ ?_
     refine pt_ 14 37 ba6_16 HT_ HW_ hHeld ?_
     refine pt_ 16 39 ba6_17 HT_ HW_ hHeld ?_
     refine pz_ 17 40 ba6_18 HT_ ?_
     refine pz_ 18 41 ba6_19 HT_ ?_
     refine pz_ 19 42 ba6_20 HT_ ?_
     refine pz_ 20 43 ba6_21 HT_ ?_
     refine pt_ 21 44 ba6_22 HT_ HW_ hHeld ?_
     refine one_ (i := 22) (N := some 45) ba6_23 rfl rfl (one_of HT_.out (by kernel_rfl)) (by decide) (fun K hK => ?_)
     refine gz_ Try.func54 #[.int .i64 ((rd_T76 l0_1 x18_2).f2), .int .i64 1, .int .i64 1000] ?_
     with_reducible refine (impl_within.calls ((rd_T76 l0_1 x18_2).f2) 1 1000 true _ A25.out).mono ?_
     rintro e w' ⟨rfl, ⟨nd, rfl⟩⟩
     refine ⟨_, rfl, ?_⟩
     refine hK.out _ _ ⟨(blk_cell BK197.out 0).trans rfl, (blk_cell BK197.out 1).trans rfl, (blk_cell BK200.out 0).trans rfl, (blk_cell BK200.out 1).trans rfl, (blk_cell BK200.out 2).trans rfl, (hc_ HB hw204_0), (hc_ HB hw204_1), (hc_ HB hw204_2)⟩ (fun hHeld => ?_)
     clear hK K
     refine nz_ 45 ?_
     refine pz_ 23 46 ba6_24 HT_ ?_
     refine pz_ 24 47 ba6_25 HT_ ?_
     refine pz_ 25 48 ba6_26 HT_ ?_
     refine pz_ 26 49 ba6_27 HT_ ?_
     refine pz_ 27 50 ba6_28 HT_ ?_
     refine pz_ 28 51 ba6_29 HT_ ?_
     refine pz_ 29 52 ba6_30 HT_ ?_
     refine pz_ 31 54 ba6_41 HT_ ?_
     refine pz_ 32 55 ba6_42 HT_ ?_
     refine pt_ 30 53 ba6_33 HT_ HW_ hHeld ?_
     refine pz_ 33 56 ba6_34 HT_ ?_
     refine pt_ 34 57 ba6_35 HT_ HW_ hHeld ?_
     refine pt_ 35 58 ba6_36 HT_ HW_ hHeld ?_
     refine one_ (i := 36) (N := some 59) ba6_37 rfl rfl (one_of HT_.out (by kernel_rfl)) (by decide) (fun K hK => ?_)
     refine goes_ Try.func76 (by kernel_rfl) rfl #[.agg #[.int .i64 ((rd_T76 l0_1 (ji28)).f0), .int .i64 ((rd_T76 l0_1 (ji28)).f1), .int .i64 ((rd_T76 l0_1 (ji28)).f2)], .agg #[.int .i64 ((rd_T76 l0_1 x18_2).f0), .int .i64 ((rd_T76 l0_1 x18_2).f1), .int .i64 ((rd_T76 l0_1 x18_2).f2)]] (by rfl) rfl rfl (by (try simp only [List.map_toArray, List.map_cons, List.map_nil]); first | done | (simp only [hji28]; rfl) | rfl | (simp only [List.length_drop, List.length_take]; rfl)) ?_
     with_reducible refine (impl_compareEdges.calls ((rd_T76 l0_1 (ji28)).f0) ((rd_T76 l0_1 (ji28)).f1) ((rd_T76 l0_1 (ji28)).f2) ((rd_T76 l0_1 x18_2).f0) ((rd_T76 l0_1 x18_2).f1) ((rd_T76 l0_1 x18_2).f2) t205 _ A31.out).mono ?_
     rintro e w48 ⟨rfl, hb⟩
     refine ⟨_, rfl, ?_⟩
     replace BK197 := ab_ BK197 hb
     replace BK200 := ab_ BK200 hb
     replace HB := at_ HB hb
     (try clear hb)
     (try clear hb2)
     (try clear hk)
     (try clear hi)
     refine hK.out _ _ ⟨(blk_cell BK197.out 0).trans rfl, (blk_cell BK197.out 1).trans rfl, (blk_cell BK200.out 0).trans rfl, (blk_cell BK200.out 1).trans rfl, (blk_cell BK200.out 2).trans rfl, (hc_ HB hw204_0), (hc_ HB hw204_1), (hc_ HB hw204_2)⟩ (fun hHeld => ?_)
     clear hK K
     refine nz_ 59 ?_
     refine pz_ 37 60 ba6_38 HT_ ?_
     refine pz_ 38 61 ba6_39 HT_ ?_
     refine pz_ 39 62 ba6_40 HT_ ?_
     refine done_ (done_of HT_.out (by kernel_rfl)) ?_
     try go_wp2
     go_roundg k2
     case measure => have := HJ1.out; have := HK2.out; omega
     case rel => exact ⟨(wrap64 (x18_2 + 1)), er_, H', ⟨by have := HJ1.out; have := HK2.out; omega⟩, ⟨bx_ BK197⟩, ⟨bw_⟩⟩

end Go.Proofs.Ythmahcohcphljaa.QFnShares
