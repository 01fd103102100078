/- Contracts of functions that the law reaches: what each call returns and what it leaves in memory. Made by this session over the print of the kit. -/
import Derived.Test.YthmahcohcphljaaQFnCheapestx0
import Derived.Test.YthmahcohcphljaaQFnCheapestx3
namespace Go.Proofs.Ythmahcohcphljaa.QFnCheapest
open Go.RowKit Go.Proofs.YthmahcohcphljaaC.PrintWords Go.Proofs.YthmahcohcphljaaC.PrintLast Go.Proofs.YthmahcohcphljaaC.PrintMore
attribute [local go_sem] max2_int min2_int max_two min_two max_three min_three max_four min_four
set_option linter.unusedVariables false
set_option linter.unusedSimpArgs false
def ba4_0 := bs_ 40 0
def ba4_1 := bs_ 40 2
def ba4_2 := bs_ 40 3
def ba4_3 := bs_ 40 7
def ba4_4 := bs_ 40 15
def ba4_5 := bs_ 40 31
def ba4_6 := bs_ 40 63
def ba4_7 := bs_ 40 191
def ba4_8 := bs_ 40 255
def ba4_9 := bs_ 40 511
def ba4_10 := bs_ 40 1023
def ba4_11 := bs_ 40 2047
def ba4_12 := bs_ 40 4095
def ba4_13 := bs_ 40 8191
def ba4_14 := bs_ 40 16383
def ba4_15 := bs_ 40 49151
def ba4_16 := bs_ 40 65535
def ba4_17 := bs_ 40 131071
def ba4_18 := bs_ 40 262143
def ba4_19 := bs_ 40 524287
def ba4_20 := bs_ 40 1048575
def ba4_21 := bs_ 40 2097151
def ba4_22 := bs_ 40 4194303
def ba4_23 := bs_ 40 8388607
def ba4_24 := bs_ 40 16777215
def ba4_25 := bs_ 40 33554431
def ba4_26 := bs_ 40 67108863
def ba4_27 := bs_ 40 134217727
def ba4_28 := bs_ 40 268435455
def ba4_29 := bs_ 40 536870911
def ba4_30 := bs_ 40 1073741823
def ba4_31 := bs_ 40 2147483647
def ba4_32 := bs_ 40 4294967295
def ba4_33 := bs_ 40 8589934591
def ba4_34 := bs_ 40 17179869183
def ba4_35 := bs_ 40 34359738367
def ba4_36 := bs_ 40 68719476735
def ba4_37 := bs_ 40 137438953471
def ba4_38 := bs_ 40 274877906943
def ba4_39 := bs_ 40 549755813887
def ba4_40 := bs_ 40 1099511627775
def ba4_41 := bs_ 40 3221225471
def ba4_42 := bs_ 40 7516192767
def ba4_43 := bs_ 40 32767
def ba4_44 := bs_ 40 127
mutual
def impl_GraphOk.j0 : Nat → Bool → Int → List (S76) → Option (Bool)
 | 0, _, _, _ => none
 | k + 1, x14, x136000, x136001 => if x14 = true then (some false) else (impl_GraphOk.l0 k x136001 (x136001.length : Int) 0 x136000 x136001)
def impl_GraphOk.l0 : Nat → List (S76) → Int → Int → Int → List (S76) → Option (Bool)
 | 0, _, _, _, _, _ => none
 | k + 1, x16, x17, x18, x136000, x136001 => if x18 < x17 then (if 0 ≤ x18 then (if x18 < (x16.length : Int) then ((impl_Graph_isNode.f x136000 x136001 ((rd_T76 x16 x18).f0)).bind fun t139 => (if t139 = true then ((impl_Graph_isNode.f x136000 x136001 ((rd_T76 x16 x18).f1)).bind fun t140 => (if t140 = true then (if ((rd_T76 x16 x18).f0) = ((rd_T76 x16 x18).f1) then (some false) else ((impl_within.f ((rd_T76 x16 x18).f2) 1 1000).bind fun t141 => (if t141 = true then (if x18 > 0 then (if 0 ≤ (wrap64 (x18 - 1)) then (if (wrap64 (x18 - 1)) < (x136001.length : Int) then ((impl_compareEdges.f ((rd_T76 x136001 (wrap64 (x18 - 1))).f0) ((rd_T76 x136001 (wrap64 (x18 - 1))).f1) ((rd_T76 x136001 (wrap64 (x18 - 1))).f2) ((rd_T76 x16 x18).f0) ((rd_T76 x16 x18).f1) ((rd_T76 x16 x18).f2)).bind fun t143 => (if t143 ≥ 0 then (some false) else (impl_GraphOk.l0 k x16 x17 (wrap64 (x18 + 1)) x136000 x136001))) else (none)) else (none)) else (impl_GraphOk.l0 k x16 x17 (wrap64 (x18 + 1)) x136000 x136001)) else (some false)))) else (some false))) else (some false))) else (none)) else (none)) else (some true)
end
def impl_GraphOk.f (k : Nat) (a0_0 : Int) (l0_1 : List (S76)) : Option (Bool) := (impl_within.f a0_0 1 10).bind fun t136 => (if t136 = true then (impl_GraphOk.j0 k (decide ((l0_1.length : Int) > 60)) a0_0 l0_1) else (impl_GraphOk.j0 k true a0_0 l0_1))
def impl_GraphOk.T6 : Bool × List (List Nat × List Nat) := (true, [([], []), ([], []), ([1], [1]), ([0, 2], [0, 2]), ([3], [3]), ([4, 3], [4]), ([5], [5]), ([5], [5]), ([7, 5], [5, 7]), ([6, 8, 5, 5], [5, 6, 8]), ([9, 5], [5, 9]), ([5, 10], [5, 10]), ([11, 9], [11]), ([12], [12]), ([13, 12], [12, 13]), ([12], [12]), ([15, 12], [12, 15]), ([14, 16, 12], [12, 14, 16]), ([12, 17], [12, 17]), ([18, 12], [18]), ([19], [19]), ([20, 19], [19, 20]), ([21, 19, 19], [19, 21]), ([22, 19], [19, 22]), ([19, 23], [19, 23]), ([24, 22], [24]), ([25], [25]), ([26, 25], [25, 26]), ([27, 25, 25], [25, 27]), ([28], [28]), ([29, 28], [28, 29]), ([28], [28]), ([31, 28], [28, 31]), ([30, 32, 28], [28, 30, 32]), ([33, 28], [28, 33]), ([28], [28]), ([34, 35, 28, 28], [28, 34, 35]), ([36, 28], [28, 36]), ([28, 37, 25], [25, 28, 37]), ([25, 38], [25, 38])])
def impl_GraphOk.B6 : List Nat := [0, 0, 2, 7, 15, 31, 63, 63, 191, 511, 1023, 2047, 4095, 8191, 16383, 8191, 40959, 131071, 262143, 524287, 1048575, 2097151, 4194303, 8388607, 16777215, 33554431, 67108863, 134217727, 268435455, 536870911, 1073741823, 536870911, 2684354559, 8589934591, 17179869183, 536870911, 68719476735, 137438953471, 274877906943, 549755813887]
theorem impl_GraphOk.tab6 : rtab .any (opsOf Try.f47 6) = impl_GraphOk.T6 := by kernel_rfl
theorem impl_GraphOk.bits6 : waitsOk impl_GraphOk.T6.2 impl_GraphOk.B6 = true := by kernel_rfl
set_option maxHeartbeats 8000000 in
set_option maxRecDepth 100000 in
theorem impl_GraphOk.calls (k : Nat) (a0_0 : Int) (A0_1 : Option Addr) (c0_1 : Nat) (l0_1 : List (S76)) (r : Bool) (w : World) (hr0_1 : Kd.C k76 w A0_1 l0_1.length l0_1) (hc0_1 : l0_1.length ≤ c0_1) (h : impl_GraphOk.f k a0_0 l0_1 = some r) :
  Calls Try.prog 47 #[.agg #[.int .i64 a0_0, .slice A0_1 l0_1.length c0_1]] w fun e w' => e = .returned (.bool r) ∧ Below w.heap.size w w' := by
 have hu30 := Try.underlying30
 have hu76 := Try.underlying76
 have HR0_1 := Aside0.mk hr0_1
 have HC0_1 := Aside0.mk hc0_1
 clear hr0_1 hc0_1
 have HB := Aside0.mk (Below.refl w.heap.size w)
 have H : ((impl_within.f a0_0 1 10).bind fun t136 => (if t136 = true then (impl_GraphOk.j0 k (decide ((l0_1.length : Int) > 60)) a0_0 l0_1) else (impl_GraphOk.j0 k true a0_0 l0_1))) = some r := h
 clear h
 have HC2 := Aside0.mk H
 clear H
 go_enter Try.func47, Try.ntmps47
 go_upto_region 1 with ((with_reducible refine gate_dst (N := 1) rfl ?_); refine be_ 1 #[.int .i64 a0_0, .slice A0_1 l0_1.length c0_1] 30 ?_; intro gb135 hg w3 BK135 hb; have GW135 := ge_ HB hg; have GE135 := ge_ HB hg; replace HB := at_ HB hb; clear hb hg)
 (try simp only [Act.put, List.setIfInBounds_toArray, List.set_cons_zero, List.set_cons_succ])
 go_cut [14] (fun v14 wc => ∃ (kq : Nat) (x14_1 : Bool), v14 = .bool x14_1 ∧ Aside0 (impl_GraphOk.j0 kq x14_1 a0_0 l0_1 = some r) ∧ Aside0 (kq ≤ k) ∧ Aside0 (wc.heap[gb135]? = some (.cells #[.int .i64 a0_0, (.slice A0_1 l0_1.length c0_1)] 30 (0, 0))) ∧ Aside0 (Below w.heap.size w wc))
 case first =>
  have H := HC2.out
  clear HC2
  obtain ⟨t136, A4, H⟩ := ob_ H
  by_cases c5 : t136 = true
  ·subst c5
   rw [if_pos rfl] at H
   have H' := Aside0.mk H
   clear H
   have hcz6_0 := cz_ BK135 0 (.int .i64 a0_0)
   have hcz6_1 := cz_ BK135 1 (.slice A0_1 l0_1.length c0_1)
   have hfz6_0 := fz_ BK135 0
   have hfz6_1 := fz_ BK135 1
   go_wp2_with ((with_reducible refine gate_callee (f := 54) rfl ?_); refine gl_ (some 7) Try.func54 #[.int .i64 a0_0, .int .i64 1, .int .i64 10] ?_; (with_reducible refine (impl_within.calls a0_0 1 10 true _ A4.out).mono ?_); rintro e w' ⟨rfl, ⟨nd, rfl⟩⟩; refine ⟨_, rfl, ?_⟩)
   go_meet
   case rel => exact ⟨_, (decide ((l0_1.length : Int) > 60)), er_, H', ⟨by first | omega | exact Nat.le_refl _⟩, ⟨bx_ BK135⟩, ⟨bw_⟩⟩
  replace c5 := Bool.eq_false_iff.mpr c5
  subst c5
  rw [if_neg (show ¬ (false = true) by decide)] at H
  have H' := Aside0.mk H
  clear H
  have hcz7_0 := cz_ BK135 0 (.int .i64 a0_0)
  have hcz7_1 := cz_ BK135 1 (.slice A0_1 l0_1.length c0_1)
  have hfz7_0 := fz_ BK135 0
  have hfz7_1 := fz_ BK135 1
  go_wp2_with ((with_reducible refine gate_callee (f := 54) rfl ?_); refine gl_ (some 7) Try.func54 #[.int .i64 a0_0, .int .i64 1, .int .i64 10] ?_; (with_reducible refine (impl_within.calls a0_0 1 10 false _ A4.out).mono ?_); rintro e w' ⟨rfl, ⟨nd, rfl⟩⟩; refine ⟨_, rfl, ?_⟩)
  go_meet
  case rel => exact ⟨_, (true), er_, H', ⟨by first | omega | exact Nat.le_refl _⟩, ⟨bx_ BK135⟩, ⟨bw_⟩⟩
 clear HC2
 obtain ⟨kq, x14_1, rfl, HA, HJ1, BK135, HB⟩ := hcut
 cases kq with
 | zero => exact absurd HA.out (by simp [impl_GraphOk.j0])
 | succ kj1 =>
  have H := HA.out
  clear HA
  simp only [impl_GraphOk.j0] at H
  by_cases c8 : x14_1 = true
  ·subst c8
   rw [if_pos rfl] at H
   obtain rfl := Option.some.inj H
   go_wp2
   go_ret
   exact ⟨ew_, bw_⟩
  replace c8 := Bool.eq_false_iff.mpr c8
  subst c8
  rw [if_neg (show ¬ (false = true) by decide)] at H
  have H' := Aside0.mk H
  clear H
  have hcz9_0 := cz_ BK135 0 (.int .i64 a0_0)
  have hcz9_1 := cz_ BK135 1 (.slice A0_1 l0_1.length c0_1)
  have hfz9_0 := fz_ BK135 0
  have hfz9_1 := fz_ BK135 1
  go_wp2
  go_loopg [18] kj1 (fun kq v18 w' => ∃ (x18_2 : Int), v18 = .int .i64 x18_2 ∧ Aside0 (impl_GraphOk.l0 kq l0_1 (l0_1.length : Int) x18_2 a0_0 l0_1 = some r) ∧ Aside0 (kq ≤ kj1) ∧ Aside0 (w'.heap[gb135]? = some (.cells #[.int .i64 a0_0, (.slice A0_1 l0_1.length c0_1)] 30 (0, 0))) ∧ Aside0 (Below w.heap.size w w'))
  case atStart => exact ⟨(0), er_, H', ⟨Nat.le_refl _⟩, ⟨bx_ BK135⟩, ⟨bw_⟩⟩
  clear H' hcz9_0 hcz9_1 hfz9_0 hfz9_1
  obtain ⟨x18_2, rfl, HA, HK2, BK135, HB⟩ := hrel
  cases gk with
  | zero => exact absurd HA.out (by simp [impl_GraphOk.l0])
  | succ k2 =>
   have H := HA.out
   clear HA
   simp only [impl_GraphOk.l0] at H
   by_cases c10 : x18_2 < (l0_1.length : Int)
   rotate_left
   ·rw [if_neg c10] at H
    have c10b0 : decide (x18_2 < (l0_1.length : Int)) = false := decide_eq_false c10
    clear c10
    obtain rfl := Option.some.inj H
    go_wp2
    go_ret
    exact ⟨ew_, bw_⟩
   rw [if_pos c10] at H
   have c10b0 : decide (x18_2 < (l0_1.length : Int)) = true := decide_eq_true c10
   clear c10
   obtain ⟨c11b0, H⟩ := iq_ H
   obtain ⟨c12b0, H⟩ := iq_ H
   obtain ⟨t139, A13, H⟩ := ob_ H
   by_cases c14 : t139 = true
   rotate_left
   ·replace c14 := Bool.eq_false_iff.mpr c14
    subst c14
    rw [if_neg (show ¬ (false = true) by decide)] at H
    obtain rfl := Option.some.inj H
    have p137 : 0 ≤ (x18_2 : Int) := oa_
    have q137 : x18_2 < (l0_1.length : Int) := oa_
    obtain ⟨ad137, e137, hx137_0, hx137_1, hx137_2⟩ := at_T76 HR0_1.out x18_2 p137 q137
    cases e137
    replace hx137_0 := hc5_ HB hx137_0
    replace hx137_1 := hc5_ HB hx137_1
    replace hx137_2 := hc5_ HB hx137_2
    obtain ⟨p137, q137⟩ := et_ p137 q137
    try go_wp2_with ((with_reducible refine gate_dst (N := 4) rfl ?_); refine be_ 4 #[.int .i64 0, .int .i64 0, .int .i64 0] 76 ?_; intro gb138 hg w70 BK138 hb; have GW138 := ge_ HB hg; have GE138 := ge_ HB hg; have NB135_138 := nl_ BK135 hg; have NB138_135 := ng_ BK135 hg; replace HB := at_ HB hb; replace BK135 := ab_ BK135 hb; clear hb hg; have hnb71 := NB138_135.out; have hnc71 := NB135_138.out; have hcz72_0 := cz_ BK138 0 (.int .i64 0); have hcz72_1 := cz_ BK138 1 (.int .i64 0); have hcz72_2 := cz_ BK138 2 (.int .i64 0); have hfz72_0 := fz_ BK138 0; have hfz72_1 := fz_ BK138 1; have hfz72_2 := fz_ BK138 2)
    generalize hW_ : (((w70.setCell ⟨gb138, 0, none⟩ (.int .i64 ((rd_T76 l0_1 x18_2).f0))).setCell ⟨gb138, 1, none⟩ (.int .i64 ((rd_T76 l0_1 x18_2).f1))).setCell ⟨gb138, 2, none⟩ (.int .i64 ((rd_T76 l0_1 x18_2).f2))) = w73
    have n0_ : Aside0 (w73.heap[gb135]? = some (.cells #[.int .i64 a0_0, .slice (some ad137) l0_1.length c0_1] 30 (0, 0))) := by subst hW_; exact ⟨bc_ BK135⟩
    have n1_ : Aside0 (w73.heap[gb138]? = some (.cells #[.int .i64 ((rd_T76 l0_1 x18_2).f0), .int .i64 ((rd_T76 l0_1 x18_2).f1), .int .i64 ((rd_T76 l0_1 x18_2).f2)] 76 (0, 0))) := by subst hW_; exact ⟨by refine bd_ ?_; refine blk_put (cs := #[.int .i64 ((rd_T76 l0_1 x18_2).f0), .int .i64 ((rd_T76 l0_1 x18_2).f1), .int .i64 0]) ?_ 2 _ rfl; refine bd_ ?_; refine blk_put (cs := #[.int .i64 ((rd_T76 l0_1 x18_2).f0), .int .i64 0, .int .i64 0]) ?_ 1 _ rfl; refine bd_ ?_; refine blk_put (cs := #[.int .i64 0, .int .i64 0, .int .i64 0]) ?_ 0 _ rfl; refine bd_ ?_; exact BK138.out⟩
    have n2_ : Aside0 (Below w.heap.size w w73) := by subst hW_; exact ⟨bw_⟩
    clear hW_ BK135 BK138 HB
    have BK135 := n0_
    have BK138 := n1_
    have HB := n2_
    clear n0_ n1_ n2_
    replace BK135 := ad_ BK135
    replace BK138 := ad_ BK138
    replace HB := Aside0.mk (below_drew1 HB.out)
    refine start_ (n := 40) (S := fun w' => w'.cell? ⟨gb135, 0, none⟩ = some (.int .i64 a0_0) ∧ w'.cell? ⟨gb135, 1, none⟩ = some (.slice (some ad137) l0_1.length c0_1) ∧ w'.cell? ⟨gb138, 0, none⟩ = some (.int .i64 ((rd_T76 l0_1 x18_2).f0)) ∧ w'.cell? ⟨gb138, 1, none⟩ = some (.int .i64 ((rd_T76 l0_1 x18_2).f1)) ∧ w'.cell? ⟨gb138, 2, none⟩ = some (.int .i64 ((rd_T76 l0_1 x18_2).f2))) (ds := []) ba4_0 (by kernel_rfl) rfl rfl ⟨bq5_ BK135 0, bq5_ BK135 1, bq5_ BK138 0, bq5_ BK138 1, bq5_ BK138 2⟩ (fun hHeld => ?_); refine with_tabW impl_GraphOk.tab6 impl_GraphOk.bits6 (fun HT_ HW_ => ?_)
    generalize w73.drew = w74 at BK135 BK138 HB hHeld ⊢
    refine pz_ 1 24 ba4_1 HT_ ?_
    refine pt_ 0 23 ba4_2 HT_ HW_ hHeld ?_
    refine pt_ 2 25 ba4_3 HT_ HW_ hHeld ?_
    refine on_ 3 (some 26) ba4_4 HT_ (fun K hK => ?_)
    refine gz_ Try.func48 #[.agg #[.int .i64 a0_0, .slice (some ad137) l0_1.length c0_1], .int .i64 ((rd_T76 l0_1 x18_2).f0)] ?_
    with_reducible refine (impl_Graph_isNode.calls a0_0 _ _ l0_1 ((rd_T76 l0_1 x18_2).f0) false _ ?side1 ?side2 A13.out).mono ?_
    (case side1 => exact cb_ HR0_1 HB)
    (case side2 => exact HC0_1.out)
    rintro e w75 ⟨rfl, hb⟩
    refine ⟨_, rfl, ?_⟩
    replace BK135 := ab_ BK135 hb
    replace BK138 := ab_ BK138 hb
    replace HB := at_ HB hb
    clear hb
    refine hK.out _ _ ⟨bq5_ BK135 0, bq5_ BK135 1, bq5_ BK138 0, bq5_ BK138 1, bq5_ BK138 2⟩ (fun hHeld => ?_)
    clear hK K
    refine nz_ 26 ?_
    refine pz_ 4 27 ba4_5 HT_ ?_
    refine pz_ 5 28 ba4_6 HT_ ?_
    refine pu_ 6 29 ba4_44 HT_ ?_
    refine pu_ 7 30 ba4_8 HT_ ?_
    refine pu_ 8 31 ba4_9 HT_ ?_
    refine pu_ 9 32 ba4_10 HT_ ?_
    refine pu_ 10 33 ba4_11 HT_ ?_
    refine pz_ 11 34 ba4_12 HT_ ?_
    refine pz_ 12 35 ba4_13 HT_ ?_
    refine pu_ 13 36 ba4_14 HT_ ?_
    refine pu_ 14 37 ba4_43 HT_ ?_
    refine pu_ 15 38 ba4_16 HT_ ?_
    refine pu_ 16 39 ba4_17 HT_ ?_
    refine pu_ 17 40 ba4_18 HT_ ?_
    refine pz_ 18 41 ba4_19 HT_ ?_
    refine pz_ 19 42 ba4_20 HT_ ?_
    refine pu_ 20 43 ba4_21 HT_ ?_
    refine pu_ 21 44 ba4_22 HT_ ?_
    refine pu_ 22 45 ba4_23 HT_ ?_
    refine pu_ 23 46 ba4_24 HT_ ?_
    refine pz_ 24 47 ba4_25 HT_ ?_
    refine pz_ 25 48 ba4_26 HT_ ?_
    refine pu_ 26 49 ba4_27 HT_ ?_
    refine pu_ 27 50 ba4_28 HT_ ?_
    refine pu_ 28 51 ba4_29 HT_ ?_
    refine pu_ 29 52 ba4_30 HT_ ?_
    refine pu_ 30 53 ba4_31 HT_ ?_
    refine pu_ 31 54 ba4_32 HT_ ?_
    refine pu_ 32 55 ba4_33 HT_ ?_
    refine pu_ 33 56 ba4_34 HT_ ?_
    refine pu_ 34 57 ba4_35 HT_ ?_
    refine pu_ 35 58 ba4_36 HT_ ?_
    refine pu_ 36 59 ba4_37 HT_ ?_
    refine pu_ 37 60 ba4_38 HT_ ?_
    refine pu_ 38 61 ba4_39 HT_ ?_
    refine pz_ 39 62 ba4_40 HT_ ?_
    refine done_ (done_of HT_.out (by kernel_rfl)) ?_
    go_wp2
    go_ret
    exact ⟨ew_, bw_⟩
   subst c14
   rw [if_pos rfl] at H
   obtain ⟨t140, A15, H⟩ := ob_ H
   by_cases c16 : t140 = true
   rotate_left
   ·replace c16 := Bool.eq_false_iff.mpr c16
    subst c16
    rw [if_neg (show ¬ (false = true) by decide)] at H
    obtain rfl := Option.some.inj H
    have p137 : 0 ≤ (x18_2 : Int) := oa_
    have q137 : x18_2 < (l0_1.length : Int) := oa_
    obtain ⟨ad137, e137, hx137_0, hx137_1, hx137_2⟩ := at_T76 HR0_1.out x18_2 p137 q137
    cases e137
    replace hx137_0 := hc5_ HB hx137_0
    replace hx137_1 := hc5_ HB hx137_1
    replace hx137_2 := hc5_ HB hx137_2
    obtain ⟨p137, q137⟩ := et_ p137 q137
    try go_wp2_with ((with_reducible refine gate_dst (N := 4) rfl ?_); refine be_ 4 #[.int .i64 0, .int .i64 0, .int .i64 0] 76 ?_; intro gb138 hg w63 BK138 hb; have GW138 := ge_ HB hg; have GE138 := ge_ HB hg; have NB135_138 := nl_ BK135 hg; have NB138_135 := ng_ BK135 hg; replace HB := at_ HB hb; replace BK135 := ab_ BK135 hb; clear hb hg; have hnb64 := NB138_135.out; have hnc64 := NB135_138.out; have hcz65_0 := cz_ BK138 0 (.int .i64 0); have hcz65_1 := cz_ BK138 1 (.int .i64 0); have hcz65_2 := cz_ BK138 2 (.int .i64 0); have hfz65_0 := fz_ BK138 0; have hfz65_1 := fz_ BK138 1; have hfz65_2 := fz_ BK138 2)
    generalize hW_ : (((w63.setCell ⟨gb138, 0, none⟩ (.int .i64 ((rd_T76 l0_1 x18_2).f0))).setCell ⟨gb138, 1, none⟩ (.int .i64 ((rd_T76 l0_1 x18_2).f1))).setCell ⟨gb138, 2, none⟩ (.int .i64 ((rd_T76 l0_1 x18_2).f2))) = w66
    have n0_ : Aside0 (w66.heap[gb135]? = some (.cells #[.int .i64 a0_0, .slice (some ad137) l0_1.length c0_1] 30 (0, 0))) := by subst hW_; exact ⟨bc_ BK135⟩
    have n1_ : Aside0 (w66.heap[gb138]? = some (.cells #[.int .i64 ((rd_T76 l0_1 x18_2).f0), .int .i64 ((rd_T76 l0_1 x18_2).f1), .int .i64 ((rd_T76 l0_1 x18_2).f2)] 76 (0, 0))) := by subst hW_; exact ⟨by refine bd_ ?_; refine blk_put (cs := #[.int .i64 ((rd_T76 l0_1 x18_2).f0), .int .i64 ((rd_T76 l0_1 x18_2).f1), .int .i64 0]) ?_ 2 _ rfl; refine bd_ ?_; refine blk_put (cs := #[.int .i64 ((rd_T76 l0_1 x18_2).f0), .int .i64 0, .int .i64 0]) ?_ 1 _ rfl; refine bd_ ?_; refine blk_put (cs := #[.int .i64 0, .int .i64 0, .int .i64 0]) ?_ 0 _ rfl; refine bd_ ?_; exact BK138.out⟩
    have n2_ : Aside0 (Below w.heap.size w w66) := by subst hW_; exact ⟨bw_⟩
    clear hW_ BK135 BK138 HB
    have BK135 := n0_
    have BK138 := n1_
    have HB := n2_
    clear n0_ n1_ n2_
    replace BK135 := ad_ BK135
    replace BK138 := ad_ BK138
    replace HB := Aside0.mk (below_drew1 HB.out)
    refine start_ (n := 40) (S := fun w' => w'.cell? ⟨gb135, 0, none⟩ = some (.int .i64 a0_0) ∧ w'.cell? ⟨gb135, 1, none⟩ = some (.slice (some ad137) l0_1.length c0_1) ∧ w'.cell? ⟨gb138, 0, none⟩ = some (.int .i64 ((rd_T76 l0_1 x18_2).f0)) ∧ w'.cell? ⟨gb138, 1, none⟩ = some (.int .i64 ((rd_T76 l0_1 x18_2).f1)) ∧ w'.cell? ⟨gb138, 2, none⟩ = some (.int .i64 ((rd_T76 l0_1 x18_2).f2))) (ds := []) ba4_0 (by kernel_rfl) rfl rfl ⟨bq5_ BK135 0, bq5_ BK135 1, bq5_ BK138 0, bq5_ BK138 1, bq5_ BK138 2⟩ (fun hHeld => ?_); refine with_tabW impl_GraphOk.tab6 impl_GraphOk.bits6 (fun HT_ HW_ => ?_)
    generalize w66.drew = w67 at BK135 BK138 HB hHeld ⊢
    refine pz_ 1 24 ba4_1 HT_ ?_
    refine pt_ 0 23 ba4_2 HT_ HW_ hHeld ?_
    refine pt_ 2 25 ba4_3 HT_ HW_ hHeld ?_
    refine on_ 3 (some 26) ba4_4 HT_ (fun K hK => ?_)
    refine gz_ Try.func48 #[.agg #[.int .i64 a0_0, .slice (some ad137) l0_1.length c0_1], .int .i64 ((rd_T76 l0_1 x18_2).f0)] ?_
    with_reducible refine (impl_Graph_isNode.calls a0_0 _ _ l0_1 ((rd_T76 l0_1 x18_2).f0) true _ ?side1 ?side2 A13.out).mono ?_
    (case side1 => exact cb_ HR0_1 HB)
    (case side2 => exact HC0_1.out)
    rintro e w68 ⟨rfl, hb⟩
    refine ⟨_, rfl, ?_⟩
    replace BK135 := ab_ BK135 hb
    replace BK138 := ab_ BK138 hb
    replace HB := at_ HB hb
    clear hb
    refine hK.out _ _ ⟨bq5_ BK135 0, bq5_ BK135 1, bq5_ BK138 0, bq5_ BK138 1, bq5_ BK138 2⟩ (fun hHeld => ?_)
    clear hK K
    refine nz_ 26 ?_
    refine pz_ 4 27 ba4_5 HT_ ?_
    refine pz_ 5 28 ba4_6 HT_ ?_
    refine pz_ 7 30 ba4_7 HT_ ?_
    refine pt_ 6 29 ba4_8 HT_ HW_ hHeld ?_
    refine pt_ 8 31 ba4_9 HT_ HW_ hHeld ?_
    refine on_ 9 (some 32) ba4_10 HT_ (fun K hK => ?_)
    refine gz_ Try.func48 #[.agg #[.int .i64 a0_0, .slice (some ad137) l0_1.length c0_1], .int .i64 ((rd_T76 l0_1 x18_2).f1)] ?_
    with_reducible refine (impl_Graph_isNode.calls a0_0 _ _ l0_1 ((rd_T76 l0_1 x18_2).f1) false _ ?side1 ?side2 A15.out).mono ?_
    (case side1 => exact cb_ HR0_1 HB)
    (case side2 => exact HC0_1.out)
    rintro e w69 ⟨rfl, hb⟩
    refine ⟨_, rfl, ?_⟩
    replace BK135 := ab_ BK135 hb
    replace BK138 := ab_ BK138 hb
    replace HB := at_ HB hb
    clear hb
    refine hK.out _ _ ⟨bq5_ BK135 0, bq5_ BK135 1, bq5_ BK138 0, bq5_ BK138 1, bq5_ BK138 2⟩ (fun hHeld => ?_)
    clear hK K
    refine nz_ 32 ?_
    refine pz_ 10 33 ba4_11 HT_ ?_
    refine pz_ 11 34 ba4_12 HT_ ?_
    refine pz_ 12 35 ba4_13 HT_ ?_
    refine pu_ 13 36 ba4_14 HT_ ?_
    refine pu_ 14 37 ba4_43 HT_ ?_
    refine pu_ 15 38 ba4_16 HT_ ?_
    refine pu_ 16 39 ba4_17 HT_ ?_
    refine pu_ 17 40 ba4_18 HT_ ?_
    refine pz_ 18 41 ba4_19 HT_ ?_
    refine pz_ 19 42 ba4_20 HT_ ?_
    refine pu_ 20 43 ba4_21 HT_ ?_
    refine pu_ 21 44 ba4_22 HT_ ?_
    refine pu_ 22 45 ba4_23 HT_ ?_
    refine pu_ 23 46 ba4_24 HT_ ?_
    refine pz_ 24 47 ba4_25 HT_ ?_
    refine pz_ 25 48 ba4_26 HT_ ?_
    refine pu_ 26 49 ba4_27 HT_ ?_
    refine pu_ 27 50 ba4_28 HT_ ?_
    refine pu_ 28 51 ba4_29 HT_ ?_
    refine pu_ 29 52 ba4_30 HT_ ?_
    refine pu_ 30 53 ba4_31 HT_ ?_
    refine pu_ 31 54 ba4_32 HT_ ?_
    refine pu_ 32 55 ba4_33 HT_ ?_
    refine pu_ 33 56 ba4_34 HT_ ?_
    refine pu_ 34 57 ba4_35 HT_ ?_
    refine pu_ 35 58 ba4_36 HT_ ?_
    refine pu_ 36 59 ba4_37 HT_ ?_
    refine pu_ 37 60 ba4_38 HT_ ?_
    refine pu_ 38 61 ba4_39 HT_ ?_
    refine pz_ 39 62 ba4_40 HT_ ?_
    refine done_ (done_of HT_.out (by kernel_rfl)) ?_
    go_wp2
    go_ret
    exact ⟨ew_, bw_⟩
   subst c16
   rw [if_pos rfl] at H
   by_cases c17 : ((rd_T76 l0_1 x18_2).f0) = ((rd_T76 l0_1 x18_2).f1)
   ·rw [if_pos c17] at H
    have c17b0 : (((rd_T76 l0_1 x18_2).f0) == ((rd_T76 l0_1 x18_2).f1)) = true := beq_iff_eq.mpr c17
    have c17b1 : (((rd_T76 l0_1 x18_2).f0) != ((rd_T76 l0_1 x18_2).f1)) = false := bne_eq_false_iff_eq.mpr c17
    clear c17
    obtain rfl := Option.some.inj H
    have p137 : 0 ≤ (x18_2 : Int) := oa_
    have q137 : x18_2 < (l0_1.length : Int) := oa_
    obtain ⟨ad137, e137, hx137_0, hx137_1, hx137_2⟩ := at_T76 HR0_1.out x18_2 p137 q137
    cases e137
    replace hx137_0 := hc5_ HB hx137_0
    replace hx137_1 := hc5_ HB hx137_1
    replace hx137_2 := hc5_ HB hx137_2
    obtain ⟨p137, q137⟩ := et_ p137 q137
    try go_wp2_with ((with_reducible refine gate_dst (N := 4) rfl ?_); refine be_ 4 #[.int .i64 0, .int .i64 0, .int .i64 0] 76 ?_; intro gb138 hg w18 BK138 hb; have GW138 := ge_ HB hg; have GE138 := ge_ HB hg; have NB135_138 := nl_ BK135 hg; have NB138_135 := ng_ BK135 hg; replace HB := at_ HB hb; replace BK135 := ab_ BK135 hb; clear hb hg; have hnb19 := NB138_135.out; have hnc19 := NB135_138.out; have hcz20_0 := cz_ BK138 0 (.int .i64 0); have hcz20_1 := cz_ BK138 1 (.int .i64 0); have hcz20_2 := cz_ BK138 2 (.int .i64 0); have hfz20_0 := fz_ BK138 0; have hfz20_1 := fz_ BK138 1; have hfz20_2 := fz_ BK138 2)
    generalize hW_ : (((w18.setCell ⟨gb138, 0, none⟩ (.int .i64 ((rd_T76 l0_1 x18_2).f0))).setCell ⟨gb138, 1, none⟩ (.int .i64 ((rd_T76 l0_1 x18_2).f1))).setCell ⟨gb138, 2, none⟩ (.int .i64 ((rd_T76 l0_1 x18_2).f2))) = w21
    have n0_ : Aside0 (w21.heap[gb135]? = some (.cells #[.int .i64 a0_0, .slice (some ad137) l0_1.length c0_1] 30 (0, 0))) := by subst hW_; exact ⟨bc_ BK135⟩
    have n1_ : Aside0 (w21.heap[gb138]? = some (.cells #[.int .i64 ((rd_T76 l0_1 x18_2).f0), .int .i64 ((rd_T76 l0_1 x18_2).f1), .int .i64 ((rd_T76 l0_1 x18_2).f2)] 76 (0, 0))) := by subst hW_; exact ⟨by refine bd_ ?_; refine blk_put (cs := #[.int .i64 ((rd_T76 l0_1 x18_2).f0), .int .i64 ((rd_T76 l0_1 x18_2).f1), .int .i64 0]) ?_ 2 _ rfl; refine bd_ ?_; refine blk_put (cs := #[.int .i64 ((rd_T76 l0_1 x18_2).f0), .int .i64 0, .int .i64 0]) ?_ 1 _ rfl; refine bd_ ?_; refine blk_put (cs := #[.int .i64 0, .int .i64 0, .int .i64 0]) ?_ 0 _ rfl; refine bd_ ?_; exact BK138.out⟩
    have n2_ : Aside0 (Below w.heap.size w w21) := by subst hW_; exact ⟨bw_⟩
    clear hW_ BK135 BK138 HB
    have BK135 := n0_
    have BK138 := n1_
    have HB := n2_
    clear n0_ n1_ n2_
    replace BK135 := ad_ BK135
    replace BK138 := ad_ BK138
    replace HB := Aside0.mk (below_drew1 HB.out)
    refine start_ (n := 40) (S := fun w' => w'.cell? ⟨gb135, 0, none⟩ = some (.int .i64 a0_0) ∧ w'.cell? ⟨gb135, 1, none⟩ = some (.slice (some ad137) l0_1.length c0_1) ∧ w'.cell? ⟨gb138, 0, none⟩ = some (.int .i64 ((rd_T76 l0_1 x18_2).f0)) ∧ w'.cell? ⟨gb138, 1, none⟩ = some (.int .i64 ((rd_T76 l0_1 x18_2).f1)) ∧ w'.cell? ⟨gb138, 2, none⟩ = some (.int .i64 ((rd_T76 l0_1 x18_2).f2))) (ds := []) ba4_0 (by kernel_rfl) rfl rfl ⟨bq5_ BK135 0, bq5_ BK135 1, bq5_ BK138 0, bq5_ BK138 1, bq5_ BK138 2⟩ (fun hHeld => ?_); refine with_tabW impl_GraphOk.tab6 impl_GraphOk.bits6 (fun HT_ HW_ => ?_)
    generalize w21.drew = w22 at BK135 BK138 HB hHeld ⊢
    refine pz_ 1 24 ba4_1 HT_ ?_
    refine pt_ 0 23 ba4_2 HT_ HW_ hHeld ?_
    refine pt_ 2 25 ba4_3 HT_ HW_ hHeld ?_
    refine on_ 3 (some 26) ba4_4 HT_ (fun K hK => ?_)
    refine gz_ Try.func48 #[.agg #[.int .i64 a0_0, .slice (some ad137) l0_1.length c0_1], .int .i64 ((rd_T76 l0_1 x18_2).f0)] ?_
    with_reducible refine (impl_Graph_isNode.calls a0_0 _ _ l0_1 ((rd_T76 l0_1 x18_2).f0) true _ ?side1 ?side2 A13.out).mono ?_
    (case side1 => exact cb_ HR0_1 HB)
    (case side2 => exact HC0_1.out)
    rintro e w23 ⟨rfl, hb⟩
    refine ⟨_, rfl, ?_⟩
    replace BK135 := ab_ BK135 hb
    replace BK138 := ab_ BK138 hb
    replace HB := at_ HB hb
    clear hb
    refine hK.out _ _ ⟨bq5_ BK135 0, bq5_ BK135 1, bq5_ BK138 0, bq5_ BK138 1, bq5_ BK138 2⟩ (fun hHeld => ?_)
    clear hK K
    refine nz_ 26 ?_
    refine pz_ 4 27 ba4_5 HT_ ?_
    refine pz_ 5 28 ba4_6 HT_ ?_
    refine pz_ 7 30 ba4_7 HT_ ?_
    refine pt_ 6 29 ba4_8 HT_ HW_ hHeld ?_
    refine pt_ 8 31 ba4_9 HT_ HW_ hHeld ?_
    refine on_ 9 (some 32) ba4_10 HT_ (fun K hK => ?_)
    refine gz_ Try.func48 #[.agg #[.int .i64 a0_0, .slice (some ad137) l0_1.length c0_1], .int .i64 ((rd_T76 l0_1 x18_2).f1)] ?_
    with_reducible refine (impl_Graph_isNode.calls a0_0 _ _ l0_1 ((rd_T76 l0_1 x18_2).f1) true _ ?side1 ?side2 A15.out).mono ?_
    (case side1 => exact cb_ HR0_1 HB)
    (case side2 => exact HC0_1.out)
    rintro e w24 ⟨rfl, hb⟩
    refine ⟨_, rfl, ?_⟩
    replace BK135 := ab_ BK135 hb
    replace BK138 := ab_ BK138 hb
    replace HB := at_ HB hb
    clear hb
    refine hK.out _ _ ⟨bq5_ BK135 0, bq5_ BK135 1, bq5_ BK138 0, bq5_ BK138 1, bq5_ BK138 2⟩ (fun hHeld => ?_)
    clear hK K
    refine nz_ 32 ?_
    refine pz_ 10 33 ba4_11 HT_ ?_
    refine pz_ 11 34 ba4_12 HT_ ?_
    refine pz_ 12 35 ba4_13 HT_ ?_
    refine pz_ 13 36 ba4_14 HT_ ?_
    refine pz_ 15 38 ba4_15 HT_ ?_
    refine pt_ 14 37 ba4_16 HT_ HW_ hHeld ?_
    refine pt_ 16 39 ba4_17 HT_ HW_ hHeld ?_
    refine pz_ 17 40 ba4_18 HT_ ?_
    refine pz_ 18 41 ba4_19 HT_ ?_
    refine pz_ 19 42 ba4_20 HT_ ?_
    refine pu_ 20 43 ba4_21 HT_ ?_
    refine pu_ 21 44 ba4_22 HT_ ?_
    refine pu_ 22 45 ba4_23 HT_ ?_
    refine pu_ 23 46 ba4_24 HT_ ?_
    refine pz_ 24 47 ba4_25 HT_ ?_
    refine pz_ 25 48 ba4_26 HT_ ?_
    refine pu_ 26 49 ba4_27 HT_ ?_
    refine pu_ 27 50 ba4_28 HT_ ?_
    refine pu_ 28 51 ba4_29 HT_ ?_
    refine pu_ 29 52 ba4_30 HT_ ?_
    refine pu_ 30 53 ba4_31 HT_ ?_
    refine pu_ 31 54 ba4_32 HT_ ?_
    refine pu_ 32 55 ba4_33 HT_ ?_
    refine pu_ 33 56 ba4_34 HT_ ?_
    refine pu_ 34 57 ba4_35 HT_ ?_
    refine pu_ 35 58 ba4_36 HT_ ?_
    refine pu_ 36 59 ba4_37 HT_ ?_
    refine pu_ 37 60 ba4_38 HT_ ?_
    refine pu_ 38 61 ba4_39 HT_ ?_
    refine pz_ 39 62 ba4_40 HT_ ?_
    refine done_ (done_of HT_.out (by kernel_rfl)) ?_
    go_wp2
    go_ret
    exact ⟨ew_, bw_⟩
   rw [if_neg c17] at H
   have c17b0 : (((rd_T76 l0_1 x18_2).f0) == ((rd_T76 l0_1 x18_2).f1)) = false := beq_eq_false_iff_ne.mpr c17
   have c17b1 : (((rd_T76 l0_1 x18_2).f0) != ((rd_T76 l0_1 x18_2).f1)) = true := bne_iff_ne.mpr c17
   obtain ⟨t141, A25, H⟩ := ob_ H
   by_cases c26 : t141 = true
   rotate_left
   ·replace c26 := Bool.eq_false_iff.mpr c26
    subst c26
    rw [if_neg (show ¬ (false = true) by decide)] at H
    obtain rfl := Option.some.inj H
    have p137 : 0 ≤ (x18_2 : Int) := oa_
    have q137 : x18_2 < (l0_1.length : Int) := oa_
    obtain ⟨ad137, e137, hx137_0, hx137_1, hx137_2⟩ := at_T76 HR0_1.out x18_2 p137 q137
    cases e137
    replace hx137_0 := hc5_ HB hx137_0
    replace hx137_1 := hc5_ HB hx137_1
    replace hx137_2 := hc5_ HB hx137_2
    obtain ⟨p137, q137⟩ := et_ p137 q137
    try go_wp2_with ((with_reducible refine gate_dst (N := 4) rfl ?_); refine be_ 4 #[.int .i64 0, .int .i64 0, .int .i64 0] 76 ?_; intro gb138 hg w56 BK138 hb; have GW138 := ge_ HB hg; have GE138 := ge_ HB hg; have NB135_138 := nl_ BK135 hg; have NB138_135 := ng_ BK135 hg; replace HB := at_ HB hb; replace BK135 := ab_ BK135 hb; clear hb hg; have hnb57 := NB138_135.out; have hnc57 := NB135_138.out; have hcz58_0 := cz_ BK138 0 (.int .i64 0); have hcz58_1 := cz_ BK138 1 (.int .i64 0); have hcz58_2 := cz_ BK138 2 (.int .i64 0); have hfz58_0 := fz_ BK138 0; have hfz58_1 := fz_ BK138 1; have hfz58_2 := fz_ BK138 2)
    generalize hW_ : (((w56.setCell ⟨gb138, 0, none⟩ (.int .i64 ((rd_T76 l0_1 x18_2).f0))).setCell ⟨gb138, 1, none⟩ (.int .i64 ((rd_T76 l0_1 x18_2).f1))).setCell ⟨gb138, 2, none⟩ (.int .i64 ((rd_T76 l0_1 x18_2).f2))) = w59
    have n0_ : Aside0 (w59.heap[gb135]? = some (.cells #[.int .i64 a0_0, .slice (some ad137) l0_1.length c0_1] 30 (0, 0))) := by subst hW_; exact ⟨bc_ BK135⟩
    have n1_ : Aside0 (w59.heap[gb138]? = some (.cells #[.int .i64 ((rd_T76 l0_1 x18_2).f0), .int .i64 ((rd_T76 l0_1 x18_2).f1), .int .i64 ((rd_T76 l0_1 x18_2).f2)] 76 (0, 0))) := by subst hW_; exact ⟨by refine bd_ ?_; refine blk_put (cs := #[.int .i64 ((rd_T76 l0_1 x18_2).f0), .int .i64 ((rd_T76 l0_1 x18_2).f1), .int .i64 0]) ?_ 2 _ rfl; refine bd_ ?_; refine blk_put (cs := #[.int .i64 ((rd_T76 l0_1 x18_2).f0), .int .i64 0, .int .i64 0]) ?_ 1 _ rfl; refine bd_ ?_; refine blk_put (cs := #[.int .i64 0, .int .i64 0, .int .i64 0]) ?_ 0 _ rfl; refine bd_ ?_; exact BK138.out⟩
    have n2_ : Aside0 (Below w.heap.size w w59) := by subst hW_; exact ⟨bw_⟩
    clear hW_ BK135 BK138 HB
    have BK135 := n0_
    have BK138 := n1_
    have HB := n2_
    clear n0_ n1_ n2_
    replace BK135 := ad_ BK135
    replace BK138 := ad_ BK138
    replace HB := Aside0.mk (below_drew1 HB.out)
    refine start_ (n := 40) (S := fun w' => w'.cell? ⟨gb135, 0, none⟩ = some (.int .i64 a0_0) ∧ w'.cell? ⟨gb135, 1, none⟩ = some (.slice (some ad137) l0_1.length c0_1) ∧ w'.cell? ⟨gb138, 0, none⟩ = some (.int .i64 ((rd_T76 l0_1 x18_2).f0)) ∧ w'.cell? ⟨gb138, 1, none⟩ = some (.int .i64 ((rd_T76 l0_1 x18_2).f1)) ∧ w'.cell? ⟨gb138, 2, none⟩ = some (.int .i64 ((rd_T76 l0_1 x18_2).f2))) (ds := []) ba4_0 (by kernel_rfl) rfl rfl ⟨bq5_ BK135 0, bq5_ BK135 1, bq5_ BK138 0, bq5_ BK138 1, bq5_ BK138 2⟩ (fun hHeld => ?_); refine with_tabW impl_GraphOk.tab6 impl_GraphOk.bits6 (fun HT_ HW_ => ?_)
    generalize w59.drew = w60 at BK135 BK138 HB hHeld ⊢
    refine pz_ 1 24 ba4_1 HT_ ?_
    refine pt_ 0 23 ba4_2 HT_ HW_ hHeld ?_
    refine pt_ 2 25 ba4_3 HT_ HW_ hHeld ?_
    refine on_ 3 (some 26) ba4_4 HT_ (fun K hK => ?_)
    refine gz_ Try.func48 #[.agg #[.int .i64 a0_0, .slice (some ad137) l0_1.length c0_1], .int .i64 ((rd_T76 l0_1 x18_2).f0)] ?_
    with_reducible refine (impl_Graph_isNode.calls a0_0 _ _ l0_1 ((rd_T76 l0_1 x18_2).f0) true _ ?side1 ?side2 A13.out).mono ?_
    (case side1 => exact cb_ HR0_1 HB)
    (case side2 => exact HC0_1.out)
    rintro e w61 ⟨rfl, hb⟩
    refine ⟨_, rfl, ?_⟩
    replace BK135 := ab_ BK135 hb
    replace BK138 := ab_ BK138 hb
    replace HB := at_ HB hb
    clear hb
    refine hK.out _ _ ⟨bq5_ BK135 0, bq5_ BK135 1, bq5_ BK138 0, bq5_ BK138 1, bq5_ BK138 2⟩ (fun hHeld => ?_)
    clear hK K
    refine nz_ 26 ?_
    refine pz_ 4 27 ba4_5 HT_ ?_
    refine pz_ 5 28 ba4_6 HT_ ?_
    refine pz_ 7 30 ba4_7 HT_ ?_
    refine pt_ 6 29 ba4_8 HT_ HW_ hHeld ?_
    refine pt_ 8 31 ba4_9 HT_ HW_ hHeld ?_
    refine on_ 9 (some 32) ba4_10 HT_ (fun K hK => ?_)
    refine gz_ Try.func48 #[.agg #[.int .i64 a0_0, .slice (some ad137) l0_1.length c0_1], .int .i64 ((rd_T76 l0_1 x18_2).f1)] ?_
    with_reducible refine (impl_Graph_isNode.calls a0_0 _ _ l0_1 ((rd_T76 l0_1 x18_2).f1) true _ ?side1 ?side2 A15.out).mono ?_
    (case side1 => exact cb_ HR0_1 HB)
    (case side2 => exact HC0_1.out)
    rintro e w62 ⟨rfl, hb⟩
    refine ⟨_, rfl, ?_⟩
    replace BK135 := ab_ BK135 hb
    replace BK138 := ab_ BK138 hb
    replace HB := at_ HB hb
    clear hb
    refine hK.out _ _ ⟨bq5_ BK135 0, bq5_ BK135 1, bq5_ BK138 0, bq5_ BK138 1, bq5_ BK138 2⟩ (fun hHeld => ?_)
    clear hK K
    refine nz_ 32 ?_
    refine pz_ 10 33 ba4_11 HT_ ?_
    refine pz_ 11 34 ba4_12 HT_ ?_
    refine pz_ 12 35 ba4_13 HT_ ?_
    refine pz_ 13 36 ba4_14 HT_ ?_
    refine pz_ 15 38 ba4_15 HT_ ?_
    refine pt_ 14 37 ba4_16 HT_ HW_ hHeld ?_
    refine pt_ 16 39 ba4_17 HT_ HW_ hHeld ?_
    refine pz_ 17 40 ba4_18 HT_ ?_
    refine pz_ 18 41 ba4_19 HT_ ?_
    refine pz_ 19 42 ba4_20 HT_ ?_
    refine pz_ 20 43 ba4_21 HT_ ?_
    refine pt_ 21 44 ba4_22 HT_ HW_ hHeld ?_
    refine on_ 22 (some 45) ba4_23 HT_ (fun K hK => ?_)
    refine gz_ Try.func54 #[.int .i64 ((rd_T76 l0_1 x18_2).f2), .int .i64 1, .int .i64 1000] ?_
    with_reducible refine (impl_within.calls ((rd_T76 l0_1 x18_2).f2) 1 1000 false _ A25.out).mono ?_
    rintro e w' ⟨rfl, ⟨nd, rfl⟩⟩
    refine ⟨_, rfl, ?_⟩
    refine hK.out _ _ ⟨bq5_ BK135 0, bq5_ BK135 1, bq5_ BK138 0, bq5_ BK138 1, bq5_ BK138 2⟩ (fun hHeld => ?_)
    clear hK K
    refine nz_ 45 ?_
    refine pz_ 23 46 ba4_24 HT_ ?_
    refine pz_ 24 47 ba4_25 HT_ ?_
    refine pz_ 25 48 ba4_26 HT_ ?_
    refine pu_ 26 49 ba4_27 HT_ ?_
    refine pu_ 27 50 ba4_28 HT_ ?_
    refine pu_ 28 51 ba4_29 HT_ ?_
    refine pu_ 29 52 ba4_30 HT_ ?_
    refine pu_ 30 53 ba4_31 HT_ ?_
    refine pu_ 31 54 ba4_32 HT_ ?_
    refine pu_ 32 55 ba4_33 HT_ ?_
    refine pu_ 33 56 ba4_34 HT_ ?_
    refine pu_ 34 57 ba4_35 HT_ ?_
    refine pu_ 35 58 ba4_36 HT_ ?_
    refine pu_ 36 59 ba4_37 HT_ ?_
    refine pu_ 37 60 ba4_38 HT_ ?_
    refine pu_ 38 61 ba4_39 HT_ ?_
    refine pz_ 39 62 ba4_40 HT_ ?_
    refine done_ (done_of HT_.out (by kernel_rfl)) ?_
    go_wp2
    go_ret
    exact ⟨ew_, bw_⟩
   subst c26
   rw [if_pos rfl] at H
   by_cases c27 : x18_2 > 0
   rotate_left
   ·rw [if_neg c27] at H
    have c27b0 : decide (0 < x18_2) = false := decide_eq_false c27
    clear c27
    have H' := Aside0.mk H
    clear H
    have p137 : 0 ≤ (x18_2 : Int) := oa_
    have q137 : x18_2 < (l0_1.length : Int) := oa_
    obtain ⟨ad137, e137, hx137_0, hx137_1, hx137_2⟩ := at_T76 HR0_1.out x18_2 p137 q137
    cases e137
    replace hx137_0 := hc5_ HB hx137_0
    replace hx137_1 := hc5_ HB hx137_1
    replace hx137_2 := hc5_ HB hx137_2
    obtain ⟨p137, q137⟩ := et_ p137 q137
    try go_wp2_with ((with_reducible refine gate_dst (N := 4) rfl ?_); refine be_ 4 #[.int .i64 0, .int .i64 0, .int .i64 0] 76 ?_; intro gb138 hg w49 BK138 hb; have GW138 := ge_ HB hg; have GE138 := ge_ HB hg; have NB135_138 := nl_ BK135 hg; have NB138_135 := ng_ BK135 hg; replace HB := at_ HB hb; replace BK135 := ab_ BK135 hb; clear hb hg; have hnb50 := NB138_135.out; have hnc50 := NB135_138.out; have hcz51_0 := cz_ BK138 0 (.int .i64 0); have hcz51_1 := cz_ BK138 1 (.int .i64 0); have hcz51_2 := cz_ BK138 2 (.int .i64 0); have hfz51_0 := fz_ BK138 0; have hfz51_1 := fz_ BK138 1; have hfz51_2 := fz_ BK138 2)
    generalize hW_ : (((w49.setCell ⟨gb138, 0, none⟩ (.int .i64 ((rd_T76 l0_1 x18_2).f0))).setCell ⟨gb138, 1, none⟩ (.int .i64 ((rd_T76 l0_1 x18_2).f1))).setCell ⟨gb138, 2, none⟩ (.int .i64 ((rd_T76 l0_1 x18_2).f2))) = w52
    have n0_ : Aside0 (w52.heap[gb135]? = some (.cells #[.int .i64 a0_0, .slice (some ad137) l0_1.length c0_1] 30 (0, 0))) := by subst hW_; exact ⟨bc_ BK135⟩
    have n1_ : Aside0 (w52.heap[gb138]? = some (.cells #[.int .i64 ((rd_T76 l0_1 x18_2).f0), .int .i64 ((rd_T76 l0_1 x18_2).f1), .int .i64 ((rd_T76 l0_1 x18_2).f2)] 76 (0, 0))) := by subst hW_; exact ⟨by refine bd_ ?_; refine blk_put (cs := #[.int .i64 ((rd_T76 l0_1 x18_2).f0), .int .i64 ((rd_T76 l0_1 x18_2).f1), .int .i64 0]) ?_ 2 _ rfl; refine bd_ ?_; refine blk_put (cs := #[.int .i64 ((rd_T76 l0_1 x18_2).f0), .int .i64 0, .int .i64 0]) ?_ 1 _ rfl; refine bd_ ?_; refine blk_put (cs := #[.int .i64 0, .int .i64 0, .int .i64 0]) ?_ 0 _ rfl; refine bd_ ?_; exact BK138.out⟩
    have n2_ : Aside0 (Below w.heap.size w w52) := by subst hW_; exact ⟨bw_⟩
    clear hW_ BK135 BK138 HB
    have BK135 := n0_
    have BK138 := n1_
    have HB := n2_
    clear n0_ n1_ n2_
    replace BK135 := ad_ BK135
    replace BK138 := ad_ BK138
    replace HB := Aside0.mk (below_drew1 HB.out)
    refine start_ (n := 40) (S := fun w' => w'.cell? ⟨gb135, 0, none⟩ = some (.int .i64 a0_0) ∧ w'.cell? ⟨gb135, 1, none⟩ = some (.slice (some ad137) l0_1.length c0_1) ∧ w'.cell? ⟨gb138, 0, none⟩ = some (.int .i64 ((rd_T76 l0_1 x18_2).f0)) ∧ w'.cell? ⟨gb138, 1, none⟩ = some (.int .i64 ((rd_T76 l0_1 x18_2).f1)) ∧ w'.cell? ⟨gb138, 2, none⟩ = some (.int .i64 ((rd_T76 l0_1 x18_2).f2))) (ds := []) ba4_0 (by kernel_rfl) rfl rfl ⟨bq5_ BK135 0, bq5_ BK135 1, bq5_ BK138 0, bq5_ BK138 1, bq5_ BK138 2⟩ (fun hHeld => ?_); refine with_tabW impl_GraphOk.tab6 impl_GraphOk.bits6 (fun HT_ HW_ => ?_)
    generalize w52.drew = w53 at BK135 BK138 HB hHeld ⊢
    refine pz_ 1 24 ba4_1 HT_ ?_
    refine pt_ 0 23 ba4_2 HT_ HW_ hHeld ?_
    refine pt_ 2 25 ba4_3 HT_ HW_ hHeld ?_
    refine on_ 3 (some 26) ba4_4 HT_ (fun K hK => ?_)
    refine gz_ Try.func48 #[.agg #[.int .i64 a0_0, .slice (some ad137) l0_1.length c0_1], .int .i64 ((rd_T76 l0_1 x18_2).f0)] ?_
    with_reducible refine (impl_Graph_isNode.calls a0_0 _ _ l0_1 ((rd_T76 l0_1 x18_2).f0) true _ ?side1 ?side2 A13.out).mono ?_
    (case side1 => exact cb_ HR0_1 HB)
    (case side2 => exact HC0_1.out)
    rintro e w54 ⟨rfl, hb⟩
    refine ⟨_, rfl, ?_⟩
    replace BK135 := ab_ BK135 hb
    replace BK138 := ab_ BK138 hb
    replace HB := at_ HB hb
    clear hb
    refine hK.out _ _ ⟨bq5_ BK135 0, bq5_ BK135 1, bq5_ BK138 0, bq5_ BK138 1, bq5_ BK138 2⟩ (fun hHeld => ?_)
    clear hK K
    refine nz_ 26 ?_
    refine pz_ 4 27 ba4_5 HT_ ?_
    refine pz_ 5 28 ba4_6 HT_ ?_
    refine pz_ 7 30 ba4_7 HT_ ?_
    refine pt_ 6 29 ba4_8 HT_ HW_ hHeld ?_
    refine pt_ 8 31 ba4_9 HT_ HW_ hHeld ?_
    refine on_ 9 (some 32) ba4_10 HT_ (fun K hK => ?_)
    refine gz_ Try.func48 #[.agg #[.int .i64 a0_0, .slice (some ad137) l0_1.length c0_1], .int .i64 ((rd_T76 l0_1 x18_2).f1)] ?_
    with_reducible refine (impl_Graph_isNode.calls a0_0 _ _ l0_1 ((rd_T76 l0_1 x18_2).f1) true _ ?side1 ?side2 A15.out).mono ?_
    (case side1 => exact cb_ HR0_1 HB)
    (case side2 => exact HC0_1.out)
    rintro e w55 ⟨rfl, hb⟩
    refine ⟨_, rfl, ?_⟩
    replace BK135 := ab_ BK135 hb
    replace BK138 := ab_ BK138 hb
    replace HB := at_ HB hb
    clear hb
    refine hK.out _ _ ⟨bq5_ BK135 0, bq5_ BK135 1, bq5_ BK138 0, bq5_ BK138 1, bq5_ BK138 2⟩ (fun hHeld => ?_)
    clear hK K
    refine nz_ 32 ?_
    refine pz_ 10 33 ba4_11 HT_ ?_
    refine pz_ 11 34 ba4_12 HT_ ?_
    refine pz_ 12 35 ba4_13 HT_ ?_
    refine pz_ 13 36 ba4_14 HT_ ?_
    refine pz_ 15 38 ba4_15 HT_ ?_
    refine pt_ 14 37 ba4_16 HT_ HW_ hHeld ?_
    refine pt_ 16 39 ba4_17 HT_ HW_ hHeld ?_
    refine pz_ 17 40 ba4_18 HT_ ?_
    refine pz_ 18 41 ba4_19 HT_ ?_
    refine pz_ 19 42 ba4_20 HT_ ?_
    refine pz_ 20 43 ba4_21 HT_ ?_
    refine pt_ 21 44 ba4_22 HT_ HW_ hHeld ?_
    refine on_ 22 (some 45) ba4_23 HT_ (fun K hK => ?_)
    refine gz_ Try.func54 #[.int .i64 ((rd_T76 l0_1 x18_2).f2), .int .i64 1, .int .i64 1000] ?_
    with_reducible refine (impl_within.calls ((rd_T76 l0_1 x18_2).f2) 1 1000 true _ A25.out).mono ?_
    rintro e w' ⟨rfl, ⟨nd, rfl⟩⟩
    refine ⟨_, rfl, ?_⟩
    refine hK.out _ _ ⟨bq5_ BK135 0, bq5_ BK135 1, bq5_ BK138 0, bq5_ BK138 1, bq5_ BK138 2⟩ (fun hHeld => ?_)
    clear hK K
    refine nz_ 45 ?_
    refine pz_ 23 46 ba4_24 HT_ ?_
    refine pz_ 24 47 ba4_25 HT_ ?_
    refine pz_ 25 48 ba4_26 HT_ ?_
    refine pz_ 26 49 ba4_27 HT_ ?_
    refine pz_ 27 50 ba4_28 HT_ ?_
    refine pz_ 28 51 ba4_29 HT_ ?_
    refine pu_ 29 52 ba4_30 HT_ ?_
    refine pu_ 30 53 ba4_31 HT_ ?_
    refine pu_ 31 54 ba4_32 HT_ ?_
    refine pu_ 32 55 ba4_33 HT_ ?_
    refine pu_ 33 56 ba4_34 HT_ ?_
    refine pu_ 34 57 ba4_35 HT_ ?_
    refine pu_ 35 58 ba4_36 HT_ ?_
    refine pu_ 36 59 ba4_37 HT_ ?_
    refine pu_ 37 60 ba4_38 HT_ ?_
    refine pz_ 38 61 ba4_39 HT_ ?_
    refine pz_ 39 62 ba4_40 HT_ ?_
    refine done_ (done_of HT_.out (by kernel_rfl)) ?_
    go_wp2
    go_roundg k2
    case measure => have := HJ1.out; have := HK2.out; omega
    case rel => exact ⟨(wrap64 (x18_2 + 1)), er_, H', ⟨by have := HJ1.out; have := HK2.out; omega⟩, ⟨bx_ BK135⟩, ⟨bw_⟩⟩
   rw [if_pos c27] at H
   have c27b0 : decide (0 < x18_2) = true := decide_eq_true c27
   clear c27
   obtain ⟨ji28, hji28⟩ : ∃ j_ : Int, (wrap64 (x18_2 - 1)) = j_ := ⟨_, rfl⟩
   first | rw [hji28] at H | simp only [hji28] at H
   (try rw [hji28] at A13)
   (try rw [hji28] at A15)
   (try rw [hji28] at A25)
   have hji28w : (IntKind.i64.wrap (x18_2 - 1)) = ji28 := (i64_w _).trans hji28
   obtain ⟨c29b0, H⟩ := iq_ H
   obtain ⟨c30b0, H⟩ := iq_ H
   obtain ⟨t143, A31, H⟩ := ob_ H
   by_cases c32 : t143 ≥ 0
   ·rw [if_pos c32] at H
    have c32b0 : decide (0 ≤ t143) = true := decide_eq_true c32
    clear c32
    obtain rfl := Option.some.inj H
    have p137 : 0 ≤ (x18_2 : Int) := oa_
    have q137 : x18_2 < (l0_1.length : Int) := oa_
    obtain ⟨ad137, e137, hx137_0, hx137_1, hx137_2⟩ := at_T76 HR0_1.out x18_2 p137 q137
    cases e137
    replace hx137_0 := hc5_ HB hx137_0
    replace hx137_1 := hc5_ HB hx137_1
    replace hx137_2 := hc5_ HB hx137_2
    obtain ⟨p137, q137⟩ := et_ p137 q137
    try go_wp2_with ((with_reducible refine gate_dst (N := 4) rfl ?_); refine be_ 4 #[.int .i64 0, .int .i64 0, .int .i64 0] 76 ?_; intro gb138 hg w33 BK138 hb; have GW138 := ge_ HB hg; have GE138 := ge_ HB hg; have NB135_138 := nl_ BK135 hg; have NB138_135 := ng_ BK135 hg; replace HB := at_ HB hb; replace BK135 := ab_ BK135 hb; clear hb hg; have hnb34 := NB138_135.out; have hnc34 := NB135_138.out; have hcz35_0 := cz_ BK138 0 (.int .i64 0); have hcz35_1 := cz_ BK138 1 (.int .i64 0); have hcz35_2 := cz_ BK138 2 (.int .i64 0); have hfz35_0 := fz_ BK138 0; have hfz35_1 := fz_ BK138 1; have hfz35_2 := fz_ BK138 2)
    generalize hW_ : (((w33.setCell ⟨gb138, 0, none⟩ (.int .i64 ((rd_T76 l0_1 x18_2).f0))).setCell ⟨gb138, 1, none⟩ (.int .i64 ((rd_T76 l0_1 x18_2).f1))).setCell ⟨gb138, 2, none⟩ (.int .i64 ((rd_T76 l0_1 x18_2).f2))) = w36
    have n0_ : Aside0 (w36.heap[gb135]? = some (.cells #[.int .i64 a0_0, .slice (some ad137) l0_1.length c0_1] 30 (0, 0))) := by subst hW_; exact ⟨bc_ BK135⟩
    have n1_ : Aside0 (w36.heap[gb138]? = some (.cells #[.int .i64 ((rd_T76 l0_1 x18_2).f0), .int .i64 ((rd_T76 l0_1 x18_2).f1), .int .i64 ((rd_T76 l0_1 x18_2).f2)] 76 (0, 0))) := by subst hW_; exact ⟨by refine bd_ ?_; refine blk_put (cs := #[.int .i64 ((rd_T76 l0_1 x18_2).f0), .int .i64 ((rd_T76 l0_1 x18_2).f1), .int .i64 0]) ?_ 2 _ rfl; refine bd_ ?_; refine blk_put (cs := #[.int .i64 ((rd_T76 l0_1 x18_2).f0), .int .i64 0, .int .i64 0]) ?_ 1 _ rfl; refine bd_ ?_; refine blk_put (cs := #[.int .i64 0, .int .i64 0, .int .i64 0]) ?_ 0 _ rfl; refine bd_ ?_; exact BK138.out⟩
    have n2_ : Aside0 (Below w.heap.size w w36) := by subst hW_; exact ⟨bw_⟩
    clear hW_ BK135 BK138 HB
    have BK135 := n0_
    have BK138 := n1_
    have HB := n2_
    clear n0_ n1_ n2_
    replace BK135 := ad_ BK135
    replace BK138 := ad_ BK138
    replace HB := Aside0.mk (below_drew1 HB.out)
    have p142 : 0 ≤ ((ji28) : Int) := oa_
    have q142 : (ji28) < (l0_1.length : Int) := oa_
    obtain ⟨ad142, e142, hx142_0, hx142_1, hx142_2⟩ := at_T76 HR0_1.out (ji28) p142 q142
    have hw142_2 := hx142_2
    have hw142_1 := hx142_1
    have hw142_0 := hx142_0
    obtain rfl : ad137 = ad142 := (by injection e142)
    replace hx142_0 := hc5_ HB hx142_0
    replace hx142_1 := hc5_ HB hx142_1
    replace hx142_2 := hc5_ HB hx142_2
    obtain ⟨p142, q142⟩ := et_ p142 q142
    refine start_ (n := 40) (S := fun w' => w'.cell? ⟨gb135, 0, none⟩ = some (.int .i64 a0_0) ∧ w'.cell? ⟨gb135, 1, none⟩ = some (.slice (some ad137) l0_1.length c0_1) ∧ w'.cell? ⟨gb138, 0, none⟩ = some (.int .i64 ((rd_T76 l0_1 x18_2).f0)) ∧ w'.cell? ⟨gb138, 1, none⟩ = some (.int .i64 ((rd_T76 l0_1 x18_2).f1)) ∧ w'.cell? ⟨gb138, 2, none⟩ = some (.int .i64 ((rd_T76 l0_1 x18_2).f2)) ∧ w'.cell? (ad137.add (((ji28)).toNat * 3)) = some (.int .i64 ((rd_T76 l0_1 (ji28)).f0)) ∧ w'.cell? ⟨(ad137.add (((ji28)).toNat * 3)).block, (ad137.add (((ji28)).toNat * 3)).off + 1, none⟩ = some (.int .i64 ((rd_T76 l0_1 (ji28)).f1)) ∧ w'.cell? ⟨(ad137.add (((ji28)).toNat * 3)).block, (ad137.add (((ji28)).toNat * 3)).off + 2, none⟩ = some (.int .i64 ((rd_T76 l0_1 (ji28)).f2))) (ds := []) ba4_0 (by kernel_rfl) rfl rfl ⟨bq5_ BK135 0, bq5_ BK135 1, bq5_ BK138 0, bq5_ BK138 1, bq5_ BK138 2, (hc_ HB hw142_0), (hc_ HB hw142_1), (hc_ HB hw142_2)⟩ (fun hHeld => ?_); refine with_tabW impl_GraphOk.tab6 impl_GraphOk.bits6 (fun HT_ HW_ => ?_)
    generalize w36.drew = w37 at BK135 BK138 HB hx142_0 hx142_1 hx142_2 hHeld ⊢
    refine pz_ 1 24 ba4_1 HT_ ?_
    refine pt_ 0 23 ba4_2 HT_ HW_ hHeld ?_
    refine pt_ 2 25 ba4_3 HT_ HW_ hHeld ?_
    refine on_ 3 (some 26) ba4_4 HT_ (fun K hK => ?_)
    refine gz_ Try.func48 #[.agg #[.int .i64 a0_0, .slice (some ad137) l0_1.length c0_1], .int .i64 ((rd_T76 l0_1 x18_2).f0)] ?_
    with_reducible refine (impl_Graph_isNode.calls a0_0 _ _ l0_1 ((rd_T76 l0_1 x18_2).f0) true _ ?side1 ?side2 A13.out).mono ?_
    (case side1 => exact cb_ HR0_1 HB)
    (case side2 => exact HC0_1.out)
    rintro e w38 ⟨rfl, hb⟩
    refine ⟨_, rfl, ?_⟩
    replace BK135 := ab_ BK135 hb
    replace BK138 := ab_ BK138 hb
    replace HB := at_ HB hb
    clear hb
    refine hK.out _ _ ⟨bq5_ BK135 0, bq5_ BK135 1, bq5_ BK138 0, bq5_ BK138 1, bq5_ BK138 2, (hc_ HB hw142_0), (hc_ HB hw142_1), (hc_ HB hw142_2)⟩ (fun hHeld => ?_)
    clear hK K
    refine nz_ 26 ?_
    refine pz_ 4 27 ba4_5 HT_ ?_
    refine pz_ 5 28 ba4_6 HT_ ?_
    refine pz_ 7 30 ba4_7 HT_ ?_
    refine pt_ 6 29 ba4_8 HT_ HW_ hHeld ?_
    refine pt_ 8 31 ba4_9 HT_ HW_ hHeld ?_
    refine on_ 9 (some 32) ba4_10 HT_ (fun K hK => ?_)
    refine gz_ Try.func48 #[.agg #[.int .i64 a0_0, .slice (some ad137) l0_1.length c0_1], .int .i64 ((rd_T76 l0_1 x18_2).f1)] ?_
    with_reducible refine (impl_Graph_isNode.calls a0_0 _ _ l0_1 ((rd_T76 l0_1 x18_2).f1) true _ ?side1 ?side2 A15.out).mono ?_
    (case side1 => exact cb_ HR0_1 HB)
    (case side2 => exact HC0_1.out)
    rintro e w39 ⟨rfl, hb⟩
    refine ⟨_, rfl, ?_⟩
    replace BK135 := ab_ BK135 hb
    replace BK138 := ab_ BK138 hb
    replace HB := at_ HB hb
    clear hb
    refine hK.out _ _ ⟨bq5_ BK135 0, bq5_ BK135 1, bq5_ BK138 0, bq5_ BK138 1, bq5_ BK138 2, (hc_ HB hw142_0), (hc_ HB hw142_1), (hc_ HB hw142_2)⟩ (fun hHeld => ?_)
    clear hK K
    refine nz_ 32 ?_
    refine pz_ 10 33 ba4_11 HT_ ?_
    refine pz_ 11 34 ba4_12 HT_ ?_
    refine pz_ 12 35 ba4_13 HT_ ?_
    refine pz_ 13 36 ba4_14 HT_ ?_
    refine pz_ 15 38 ba4_15 HT_ ?_
    refine pt_ 14 37 ba4_16 HT_ HW_ hHeld ?_
    refine pt_ 16 39 ba4_17 HT_ HW_ hHeld ?_
    refine pz_ 17 40 ba4_18 HT_ ?_
    refine pz_ 18 41 ba4_19 HT_ ?_
    refine pz_ 19 42 ba4_20 HT_ ?_
    refine pz_ 20 43 ba4_21 HT_ ?_
    refine pt_ 21 44 ba4_22 HT_ HW_ hHeld ?_
    refine on_ 22 (some 45) ba4_23 HT_ (fun K hK => ?_)
    refine gz_ Try.func54 #[.int .i64 ((rd_T76 l0_1 x18_2).f2), .int .i64 1, .int .i64 1000] ?_
    with_reducible refine (impl_within.calls ((rd_T76 l0_1 x18_2).f2) 1 1000 true _ A25.out).mono ?_
    rintro e w' ⟨rfl, ⟨nd, rfl⟩⟩
    refine ⟨_, rfl, ?_⟩
    refine hK.out _ _ ⟨bq5_ BK135 0, bq5_ BK135 1, bq5_ BK138 0, bq5_ BK138 1, bq5_ BK138 2, (hc_ HB hw142_0), (hc_ HB hw142_1), (hc_ HB hw142_2)⟩ (fun hHeld => ?_)
    clear hK K
    refine nz_ 45 ?_
    refine pz_ 23 46 ba4_24 HT_ ?_
    refine pz_ 24 47 ba4_25 HT_ ?_
    refine pz_ 25 48 ba4_26 HT_ ?_
    refine pz_ 26 49 ba4_27 HT_ ?_
    refine pz_ 27 50 ba4_28 HT_ ?_
    refine pz_ 28 51 ba4_29 HT_ ?_
    refine pz_ 29 52 ba4_30 HT_ ?_
    refine pz_ 31 54 ba4_41 HT_ ?_
    refine pz_ 32 55 ba4_42 HT_ ?_
    refine pt_ 30 53 ba4_33 HT_ HW_ hHeld ?_
    refine pz_ 33 56 ba4_34 HT_ ?_
    refine pt_ 34 57 ba4_35 HT_ HW_ hHeld ?_
    refine pt_ 35 58 ba4_36 HT_ HW_ hHeld ?_
    refine on_ 36 (some 59) ba4_37 HT_ (fun K hK => ?_)
    refine goes_ Try.func76 (by kernel_rfl) rfl #[.agg #[.int .i64 ((rd_T76 l0_1 (ji28)).f0), .int .i64 ((rd_T76 l0_1 (ji28)).f1), .int .i64 ((rd_T76 l0_1 (ji28)).f2)], .agg #[.int .i64 ((rd_T76 l0_1 x18_2).f0), .int .i64 ((rd_T76 l0_1 x18_2).f1), .int .i64 ((rd_T76 l0_1 x18_2).f2)]] (by rfl) rfl rfl (by (try simp only [List.map_toArray, List.map_cons, List.map_nil]); first | done | (simp only [hji28]; rfl) | rfl | (simp only [List.length_drop, List.length_take]; rfl)) ?_
    with_reducible refine (impl_compareEdges.calls ((rd_T76 l0_1 (ji28)).f0) ((rd_T76 l0_1 (ji28)).f1) ((rd_T76 l0_1 (ji28)).f2) ((rd_T76 l0_1 x18_2).f0) ((rd_T76 l0_1 x18_2).f1) ((rd_T76 l0_1 x18_2).f2) t143 _ A31.out).mono ?_
    rintro e w40 ⟨rfl, hb⟩
    refine ⟨_, rfl, ?_⟩
    replace BK135 := ab_ BK135 hb
    replace BK138 := ab_ BK138 hb
    replace HB := at_ HB hb
    clear hb
    refine hK.out _ _ ⟨bq5_ BK135 0, bq5_ BK135 1, bq5_ BK138 0, bq5_ BK138 1, bq5_ BK138 2, (hc_ HB hw142_0), (hc_ HB hw142_1), (hc_ HB hw142_2)⟩ (fun hHeld => ?_)
    clear hK K
    refine nz_ 59 ?_
    refine pz_ 37 60 ba4_38 HT_ ?_
    refine pz_ 38 61 ba4_39 HT_ ?_
    refine pz_ 39 62 ba4_40 HT_ ?_
    refine done_ (done_of HT_.out (by kernel_rfl)) ?_
    go_wp2
    go_ret
    exact ⟨by first | rfl | (simp [errW_none, errW_some] <;> rfl) | (simp only [← hji28]; first | rfl | (simp [errW_none, errW_some] <;> rfl)) | (simp [*, errW_none, errW_some] <;> rfl), bw_⟩
   rw [if_neg c32] at H
   have c32b0 : decide (0 ≤ t143) = false := decide_eq_false c32
   clear c32
   have H' := Aside0.mk H
   clear H
   have p137 : 0 ≤ (x18_2 : Int) := oa_
   have q137 : x18_2 < (l0_1.length : Int) := oa_
   obtain ⟨ad137, e137, hx137_0, hx137_1, hx137_2⟩ := at_T76 HR0_1.out x18_2 p137 q137
   cases e137
   replace hx137_0 := hc5_ HB hx137_0
   replace hx137_1 := hc5_ HB hx137_1
   replace hx137_2 := hc5_ HB hx137_2
   obtain ⟨p137, q137⟩ := et_ p137 q137
   try go_wp2_with ((with_reducible refine gate_dst (N := 4) rfl ?_); refine be_ 4 #[.int .i64 0, .int .i64 0, .int .i64 0] 76 ?_; intro gb138 hg w41 BK138 hb; have GW138 := ge_ HB hg; have GE138 := ge_ HB hg; have NB135_138 := nl_ BK135 hg; have NB138_135 := ng_ BK135 hg; replace HB := at_ HB hb; replace BK135 := ab_ BK135 hb; clear hb hg; have hnb42 := NB138_135.out; have hnc42 := NB135_138.out; have hcz43_0 := cz_ BK138 0 (.int .i64 0); have hcz43_1 := cz_ BK138 1 (.int .i64 0); have hcz43_2 := cz_ BK138 2 (.int .i64 0); have hfz43_0 := fz_ BK138 0; have hfz43_1 := fz_ BK138 1; have hfz43_2 := fz_ BK138 2)
   generalize hW_ : (((w41.setCell ⟨gb138, 0, none⟩ (.int .i64 ((rd_T76 l0_1 x18_2).f0))).setCell ⟨gb138, 1, none⟩ (.int .i64 ((rd_T76 l0_1 x18_2).f1))).setCell ⟨gb138, 2, none⟩ (.int .i64 ((rd_T76 l0_1 x18_2).f2))) = w44
   have n0_ : Aside0 (w44.heap[gb135]? = some (.cells #[.int .i64 a0_0, .slice (some ad137) l0_1.length c0_1] 30 (0, 0))) := by subst hW_; exact ⟨bc_ BK135⟩
   have n1_ : Aside0 (w44.heap[gb138]? = some (.cells #[.int .i64 ((rd_T76 l0_1 x18_2).f0), .int .i64 ((rd_T76 l0_1 x18_2).f1), .int .i64 ((rd_T76 l0_1 x18_2).f2)] 76 (0, 0))) := by subst hW_; exact ⟨by refine bd_ ?_; refine blk_put (cs := #[.int .i64 ((rd_T76 l0_1 x18_2).f0), .int .i64 ((rd_T76 l0_1 x18_2).f1), .int .i64 0]) ?_ 2 _ rfl; refine bd_ ?_; refine blk_put (cs := #[.int .i64 ((rd_T76 l0_1 x18_2).f0), .int .i64 0, .int .i64 0]) ?_ 1 _ rfl; refine bd_ ?_; refine blk_put (cs := #[.int .i64 0, .int .i64 0, .int .i64 0]) ?_ 0 _ rfl; refine bd_ ?_; exact BK138.out⟩
   have n2_ : Aside0 (Below w.heap.size w w44) := by subst hW_; exact ⟨bw_⟩
   clear hW_ BK135 BK138 HB
   have BK135 := n0_
   have BK138 := n1_
   have HB := n2_
   clear n0_ n1_ n2_
   replace BK135 := ad_ BK135
   replace BK138 := ad_ BK138
   replace HB := Aside0.mk (below_drew1 HB.out)
   have p142 : 0 ≤ ((ji28) : Int) := oa_
   have q142 : (ji28) < (l0_1.length : Int) := oa_
   obtain ⟨ad142, e142, hx142_0, hx142_1, hx142_2⟩ := at_T76 HR0_1.out (ji28) p142 q142
   have hw142_2 := hx142_2
   have hw142_1 := hx142_1
   have hw142_0 := hx142_0
   obtain rfl : ad137 = ad142 := (by injection e142)
   replace hx142_0 := hc5_ HB hx142_0
   replace hx142_1 := hc5_ HB hx142_1
   replace hx142_2 := hc5_ HB hx142_2
   obtain ⟨p142, q142⟩ := et_ p142 q142
   refine start_ (n := 40) (S := fun w' => w'.cell? ⟨gb135, 0, none⟩ = some (.int .i64 a0_0) ∧ w'.cell? ⟨gb135, 1, none⟩ = some (.slice (some ad137) l0_1.length c0_1) ∧ w'.cell? ⟨gb138, 0, none⟩ = some (.int .i64 ((rd_T76 l0_1 x18_2).f0)) ∧ w'.cell? ⟨gb138, 1, none⟩ = some (.int .i64 ((rd_T76 l0_1 x18_2).f1)) ∧ w'.cell? ⟨gb138, 2, none⟩ = some (.int .i64 ((rd_T76 l0_1 x18_2).f2)) ∧ w'.cell? (ad137.add (((ji28)).toNat * 3)) = some (.int .i64 ((rd_T76 l0_1 (ji28)).f0)) ∧ w'.cell? ⟨(ad137.add (((ji28)).toNat * 3)).block, (ad137.add (((ji28)).toNat * 3)).off + 1, none⟩ = some (.int .i64 ((rd_T76 l0_1 (ji28)).f1)) ∧ w'.cell? ⟨(ad137.add (((ji28)).toNat * 3)).block, (ad137.add (((ji28)).toNat * 3)).off + 2, none⟩ = some (.int .i64 ((rd_T76 l0_1 (ji28)).f2))) (ds := []) ba4_0 (by kernel_rfl) rfl rfl ⟨bq5_ BK135 0, bq5_ BK135 1, bq5_ BK138 0, bq5_ BK138 1, bq5_ BK138 2, (hc_ HB hw142_0), (hc_ HB hw142_1), (hc_ HB hw142_2)⟩ (fun hHeld => ?_); refine with_tabW impl_GraphOk.tab6 impl_GraphOk.bits6 (fun HT_ HW_ => ?_)
   generalize w44.drew = w45 at BK135 BK138 HB hx142_0 hx142_1 hx142_2 hHeld ⊢
   refine pz_ 1 24 ba4_1 HT_ ?_
   refine pt_ 0 23 ba4_2 HT_ HW_ hHeld ?_
   refine pt_ 2 25 ba4_3 HT_ HW_ hHeld ?_
   refine on_ 3 (some 26) ba4_4 HT_ (fun K hK => ?_)
   refine gz_ Try.func48 #[.agg #[.int .i64 a0_0, .slice (some ad137) l0_1.length c0_1], .int .i64 ((rd_T76 l0_1 x18_2).f0)] ?_
   with_reducible refine (impl_Graph_isNode.calls a0_0 _ _ l0_1 ((rd_T76 l0_1 x18_2).f0) true _ ?side1 ?side2 A13.out).mono ?_
   (case side1 => exact cb_ HR0_1 HB)
   (case side2 => exact HC0_1.out)
   rintro e w46 ⟨rfl, hb⟩
   refine ⟨_, rfl, ?_⟩
   replace BK135 := ab_ BK135 hb
   replace BK138 := ab_ BK138 hb
   replace HB := at_ HB hb
   clear hb
   refine hK.out _ _ ⟨bq5_ BK135 0, bq5_ BK135 1, bq5_ BK138 0, bq5_ BK138 1, bq5_ BK138 2, (hc_ HB hw142_0), (hc_ HB hw142_1), (hc_ HB hw142_2)⟩ (fun hHeld => ?_)
   clear hK K
   refine nz_ 26 ?_
   refine pz_ 4 27 ba4_5 HT_ ?_
   refine pz_ 5 28 ba4_6 HT_ ?_
   refine pz_ 7 30 ba4_7 HT_ ?_
   refine pt_ 6 29 ba4_8 HT_ HW_ hHeld ?_
   refine pt_ 8 31 ba4_9 HT_ HW_ hHeld ?_
   refine on_ 9 (some 32) ba4_10 HT_ (fun K hK => ?_)
   refine gz_ Try.func48 #[.agg #[.int .i64 a0_0, .slice (some ad137) l0_1.length c0_1], .int .i64 ((rd_T76 l0_1 x18_2).f1)] ?_
   with_reducible refine (impl_Graph_isNode.calls a0_0 _ _ l0_1 ((rd_T76 l0_1 x18_2).f1) true _ ?side1 ?side2 A15.out).mono ?_
   (case side1 => exact cb_ HR0_1 HB)
   (case side2 => exact HC0_1.out)
   rintro e w47 ⟨rfl, hb⟩
   refine ⟨_, rfl, ?_⟩
   replace BK135 := ab_ BK135 hb
   replace BK138 := ab_ BK138 hb
   replace HB := at_ HB hb
   clear hb
   refine hK.out _ _ ⟨bq5_ BK135 0, bq5_ BK135 1, bq5_ BK138 0, bq5_ BK138 1, bq5_ BK138 2, (hc_ HB hw142_0), (hc_ HB hw142_1), (hc_ HB hw142_2)⟩ (fun hHeld => ?_)
   clear hK K
   refine nz_ 32 ?_
   refine pz_ 10 33 ba4_11 HT_ ?_
   refine pz_ 11 34 ba4_12 HT_ ?_
   refine pz_ 12 35 ba4_13 HT_ ?_
   refine pz_ 13 36 ba4_14 HT_ ?_
   refine pz_ 15 38 ba4_15 HT_ ?_
   refine pt_ 14 37 ba4_16 HT_ HW_ hHeld ?_
   refine pt_ 16 39 ba4_17 HT_ HW_ hHeld ?_
   refine pz_ 17 40 ba4_18 HT_ ?_
   refine pz_ 18 41 ba4_19 HT_ ?_
   refine pz_ 19 42 ba4_20 HT_ ?_
   refine pz_ 20 43 ba4_21 HT_ ?_
   refine pt_ 21 44 ba4_22 HT_ HW_ hHeld ?_
   refine on_ 22 (some 45) ba4_23 HT_ (fun K hK => ?_)
   refine gz_ Try.func54 #[.int .i64 ((rd_T76 l0_1 x18_2).f2), .int .i64 1, .int .i64 1000] ?_
   with_reducible refine (impl_within.calls ((rd_T76 l0_1 x18_2).f2) 1 1000 true _ A25.out).mono ?_
   rintro e w' ⟨rfl, ⟨nd, rfl⟩⟩
   refine ⟨_, rfl, ?_⟩
   refine hK.out _ _ ⟨bq5_ BK135 0, bq5_ BK135 1, bq5_ BK138 0, bq5_ BK138 1, bq5_ BK138 2, (hc_ HB hw142_0), (hc_ HB hw142_1), (hc_ HB hw142_2)⟩ (fun hHeld => ?_)
   clear hK K
   refine nz_ 45 ?_
   refine pz_ 23 46 ba4_24 HT_ ?_
   refine pz_ 24 47 ba4_25 HT_ ?_
   refine pz_ 25 48 ba4_26 HT_ ?_
   refine pz_ 26 49 ba4_27 HT_ ?_
   refine pz_ 27 50 ba4_28 HT_ ?_
   refine pz_ 28 51 ba4_29 HT_ ?_
   refine pz_ 29 52 ba4_30 HT_ ?_
   refine pz_ 31 54 ba4_41 HT_ ?_
   refine pz_ 32 55 ba4_42 HT_ ?_
   refine pt_ 30 53 ba4_33 HT_ HW_ hHeld ?_
   refine pz_ 33 56 ba4_34 HT_ ?_
   refine pt_ 34 57 ba4_35 HT_ HW_ hHeld ?_
   refine pt_ 35 58 ba4_36 HT_ HW_ hHeld ?_
   refine on_ 36 (some 59) ba4_37 HT_ (fun K hK => ?_)
   refine goes_ Try.func76 (by kernel_rfl) rfl #[.agg #[.int .i64 ((rd_T76 l0_1 (ji28)).f0), .int .i64 ((rd_T76 l0_1 (ji28)).f1), .int .i64 ((rd_T76 l0_1 (ji28)).f2)], .agg #[.int .i64 ((rd_T76 l0_1 x18_2).f0), .int .i64 ((rd_T76 l0_1 x18_2).f1), .int .i64 ((rd_T76 l0_1 x18_2).f2)]] (by rfl) rfl rfl (by (try simp only [List.map_toArray, List.map_cons, List.map_nil]); first | done | (simp only [hji28]; rfl) | rfl | (simp only [List.length_drop, List.length_take]; rfl)) ?_
   with_reducible refine (impl_compareEdges.calls ((rd_T76 l0_1 (ji28)).f0) ((rd_T76 l0_1 (ji28)).f1) ((rd_T76 l0_1 (ji28)).f2) ((rd_T76 l0_1 x18_2).f0) ((rd_T76 l0_1 x18_2).f1) ((rd_T76 l0_1 x18_2).f2) t143 _ A31.out).mono ?_
   rintro e w48 ⟨rfl, hb⟩
   refine ⟨_, rfl, ?_⟩
   replace BK135 := ab_ BK135 hb
   replace BK138 := ab_ BK138 hb
   replace HB := at_ HB hb
   clear hb
   refine hK.out _ _ ⟨bq5_ BK135 0, bq5_ BK135 1, bq5_ BK138 0, bq5_ BK138 1, bq5_ BK138 2, (hc_ HB hw142_0), (hc_ HB hw142_1), (hc_ HB hw142_2)⟩ (fun hHeld => ?_)
   clear hK K
   refine nz_ 59 ?_
   refine pz_ 37 60 ba4_38 HT_ ?_
   refine pz_ 38 61 ba4_39 HT_ ?_
   refine pz_ 39 62 ba4_40 HT_ ?_
   refine done_ (done_of HT_.out (by kernel_rfl)) ?_
   go_wp2
   go_roundg k2
   case measure => have := HJ1.out; have := HK2.out; omega
   case rel => exact ⟨(wrap64 (x18_2 + 1)), er_, H', ⟨by have := HJ1.out; have := HK2.out; omega⟩, ⟨bx_ BK135⟩, ⟨bw_⟩⟩
end Go.Proofs.Ythmahcohcphljaa.QFnCheapest
